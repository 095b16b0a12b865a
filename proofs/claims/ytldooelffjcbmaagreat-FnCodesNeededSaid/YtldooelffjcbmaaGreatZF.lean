/- Part 6 of the proof: the engine, codes, walks and plain laws, each named where it stands. -/
import Derived.Test.YtldooelffjcbmaaGreatZE
import Derived.Below
import Derived.OpenShut
import Derived.ProofKit
open Nat (reduceEqDiff reduceAdd reduceLeDiff reduceLT)
set_option linter.unusedVariables false
set_option linter.unusedSimpArgs false
set_option maxRecDepth 4000
namespace Go.AE.Y
attribute [local go_sem] cond_true cond_false Bool.not_true Bool.not_false
attribute [local instance] Classical.propDecidable
open Go.Proofs.Tryz
variable {H H' F:Heap}{K:V→Heap→Prop}{q:CodeD}{os:List OBlk}{zb wl cy R n b:Nat}{ids:List Int}{nx:Int}{cs:List Int}
def wgt (os:List OBlk)(x:Nat):Nat:=match os[x]? with
 |some o=>o.phis.length+o.ins.length
 |none=>0
theorem Qblx {x:Nat}{o:OBlk}(h:x<os.length)(ho:os[x]=o):wgt os x=o.phis.length+o.ins.length:=by simp[wgt,h,ho]
theorem Qbig {n:Nat}{g:Nat→List Nat}{b:Nat}:depL n g b≤n:=by
 have:=List.length_filter_le (fun a=>Qvs g a b) (List.range n)
 simpa[depL]using this
theorem Qawk (ids:List Int)(b:Nat):(Qrt ids b).Nodup:=List.Nodup.sublist List.filter_sublist List.nodup_range
theorem Qa6b {N B:Nat}{w:Nat→Nat}(hw:∀x,w x≤B)(U:Nat→Prop):potW N w U≤N * B:=by
 have key:∀m,(((List.range m).filter fun x=>decide (U x)).map w).sum≤m * B:=fun m=>by
  induction m with
  |zero=>simp
  |succ m ih=>
   rw[List.range_succ,List.filter_append,List.map_append,List.sum_append,Nat.succ_mul]
   have h1:(((List.filter (fun x=>decide (U x)) [m]).map w)).sum≤B:=by
    by_cases h:U m
    ·simp[h];exact hw m
    ·simp[h]
   omega
 exact key N
noncomputable def pW (n:Nat)(w:Nat→Nat)(U:Nat→Prop):Nat:=@potW n w U fun _=>Classical.propDecidable _
theorem Qble {w:Nat→Nat}{U V:Nat→Prop}{b:Nat}(hb:b<n)(hU:U b)(hV:∀x,V x↔U x∧x≠b):pW n w V+w b=pW n w U:=by
 unfold pW;exact Qbgd hb hU hV
theorem Qbld {w:Nat→Nat}{U V:Nat→Prop}(h:∀x,V x→U x):pW n w V≤pW n w U:=by
 unfold pW;exact Qbjv h
theorem Qbf8 {N B:Nat}{w:Nat→Nat}(hw:∀x,w x≤B)(U:Nat→Prop):pW N w U≤N * B:=by
 unfold pW;exact Qa6b hw U
set_option maxHeartbeats 8000000 in
theorem Qbjo (c:NC q os zb R n ids)(M:Int)(hM:M≤2 ^ 40):∀(N b:Nat) (U:Nat→Prop) (nx:Int) (cs:List Int) (cy:Nat) (H:Heap) (K:V→Heap→Prop),n<N+depL n (nxN (gnx q)) b→b<n→(∀x,Sub ids b x→U x)→NSt q os zb n R wl cy ids H nx cs (XU os zb U) H→0≤nx→nx+pW n (wgt os) U≤M→
  (∀nx' cs' H',NSt q os zb n R wl cy ids H nx' cs' (XU os zb fun x=>U x∧¬Sub ids b x) H'→0≤nx'→nx'+pW n (wgt os) (fun x=>U x∧¬Sub ids b x)≤M→K (.tup []) H')→
  Qv prog Qcq [.c (.ptr wl 0),.c (.int .i64 b),.c (.vsl cy 1 0 R)] H K:=by
 intro N
 induction N with
 |zero=>intro b U nx cs cy H K h1;have:=Qbig (n:=n) (g:=nxN (gnx q)) (b:=b);omega
 |succ N ih=>
  intro b U nx cs cy H K hN hb hUs s h0 hpot hK
  obtain⟨hl,hq,hd,hok,hyo,hpl,hil⟩:=c.get hb
  obtain⟨o,ho⟩:∃o,os[b]=o:=⟨_,rfl⟩
  obtain⟨y,hy⟩:∃y,q.blocks[b]=y:=⟨_,rfl⟩
  rw[ho]at hd hok hpl hil
  rw[hy]at hd hyo
  have ap:Apart os zb:=s.t.nodup
  have hbU:U b:=hUs b .refl
  obtain⟨U1,hU1⟩:∃U1:Nat→Prop,U1=fun x=>U x∧x≠b:=⟨_,rfl⟩
  have hU1b:¬U1 b:=by rw[hU1];exact fun h=>h.2 rfl
  have hpo:=Qble (n:=n) (w:=wgt os) (U:=U) (V:=U1) hb hbU (fun x=>by rw[hU1])
  rw[Qblx hl ho]at hpo
  have s1:NSt q os zb n R wl cy ids H nx cs (XC os zb U1 o b true 0 0) H:=by
   refine⟨?_,s.c⟩
   refine s.t.weak fun m r hh=>?_
   rcases hh with (h|⟨x,hx,hUx,he⟩)|⟨_,h1,h2⟩|⟨p,hp,h1,_⟩|⟨i',hi',h1,_⟩
   ·exact .inl h
   ·rw[hU1]at hUx;exact .inr ⟨x,hx,hUx.1,he⟩
   ·exact .inr ⟨b,hl,hbU,.inl ⟨h1,h2⟩⟩
   ·exact .inr ⟨b,hl,hbU,.inr ⟨p,by rw[ho];exact List.mem_append_right _ hp,h1⟩⟩
   ·exact .inr ⟨b,hl,hbU,.inr ⟨_,by rw[ho];exact List.mem_append_left _ (o.aM hi'),h1⟩⟩
  have hXph:∀p∈o.phN,∀r,¬XC os zb U1 o b true 0 0 p.1 r:=fun p hp r hh=>by
   have hp':p∈os[b].phN:=by rw[ho];exact hp
   rcases hh with h|h
   ·exact ap.ph hl hp' r h
   ·exact ap.phP hl hl hp' true 0 0 r (by rw[ho];exact h)
  clear s
  refine Qb Qar Q4v ?_
  have hw:=s1.w
  rw[wO]at hw
  obtain⟨RW,j,on,hzb,hRWl,hRWt,hRWg,_,_⟩:=Q9a s1.t c hb hl ho
  refine Qa ?_
  simp only[go_sem,hw,hzb,hRWl,hb,Nat.zero_add,Nat.le_refl]
  refine phA c hb hl ho hXph s1 ⟨rfl,rfl,rfl,rfl⟩ h0 (by omega) (by omega) fun e2 H2 s2 k2=>?_
  refine phB c hb hl ho hd hq hy s2 k2 (by omega) fun e3 H3 cs3 s3 k3=>?_
  refine phC c hb hl ho hd hq hy hU1b s3 k3 (by omega) (by omega) (by omega) fun e4 H4 nx4 cs4 hn1 hn2 s4 k4=>?_
  refine phD c hb hl ho hd hq hy hU1b s4 k4 fun e5 H5 s5 k5=>?_
  refine phE c hb hl ho hd hq hy s5 k5 fun e6 H6 s6 k6=>?_
  obtain⟨l0,l1,l2,l6⟩:=k6
  have hw:=s6.w
  rw[wO]at hw
  refine Qa ?_
  simp only[go_sem,l0,l1,l2,l6,hw]
  refine Qa9z (by rw[c.t.1];have:=c.ok.b1;rw[c.hn]at this;omega) fun H7 hu=>?_
  have s7:NSt q os zb n R wl cy ids H nx4 cs4 (XU os zb U1) H7:=⟨s6.t.call0 hu,s6.c⟩
  simp only[go_sem,Qfp,l0,l1,l2,l6]
  obtain⟨kl,hkl⟩:∃kl,Qrt ids b=kl:=⟨_,rfl⟩
  rw[hkl]
  have hkll:kl.length≤160:=by
   have h1:=List.length_filter_le (fun i=>decide (ids.getD i 0=(b:Int))) (List.range ids.length)
   rw[List.length_range,c.t.1]at h1
   have h2:=c.ok.b1
   rw[c.hn]at h2
   rw[←hkl,Qrt,c.t.1];omega
  have hkm:∀k∈kl,k∈Qrt ids b:=fun k hk=>by rw[hkl];exact hk
  have hknd:kl.Nodup:=by rw[←hkl];exact Qawk ids b
  refine Qa ?_
  simp only[go_sem]
  refine Qc (Qs (fun m e1 H1=>∃(i:Nat) (nx':Int) (cs:List Int),m=kl.length-i∧i≤kl.length∧NSt q os zb n R wl cy ids H nx' cs (XU os zb fun x=>U1 x∧∀k∈kl.take i,¬Sub ids k x) H1∧0≤nx'∧nx'+pW n (wgt os) (fun x=>U1 x∧∀k∈kl.take i,¬Sub ids k x)≤M∧
   lk 0 e1=.c (.ptr wl 0)∧lk 2 e1=.c (.vsl cy 1 0 R)∧lk 16 e1=.c (.sl false 1 (Q5 kl))∧lk 17 e1=.c (.int .i64 i)) kl.length ?_ ?_)
  ·refine⟨0,nx4,cs4,by omega,by omega,⟨s7.t.weak fun m r hh=>?_,s7.c⟩,by omega,?_,rfl,rfl,rfl,rfl⟩
   ·rcases hh with h|⟨x,hx,hUx,he⟩
    ·exact .inl h
    ·exact .inr ⟨x,hx,hUx.1,he⟩
   ·have:=Qbld (n:=n) (w:=wgt os) (U:=U1) (V:=fun x=>U1 x∧∀k∈kl.take 0,¬Sub ids k x) fun x hx=>hx.1
    omega
  ·clear hw hzb hRWl hRWt hRWg s1 s6 s7 hu l0 l1 l2 l6
   rintro m e7 H8 ⟨i,nx',cs,hm,hi,s,hn0,hpot',l0,l2,l16,l17⟩
   refine Q4 ?_
   refine Qa ?_
   simp only[go_sem,l0,l2,l16,l17,Qw]
   try intro _
   refine Qg (Qe rfl ?_ ?_)
   ·intro hc
    have hlt:i<kl.length:=by simpa using hc
    obtain⟨k,hk⟩:∃k,kl[i]=k:=⟨_,rfl⟩
    have hkmem:k∈Qrt ids b:=hkm k (by rw[←hk];exact List.getElem_mem hlt)
    have hgd:kl.getD i 0=k:=by simp[List.getD_eq_getElem?_getD,hlt,hk]
    have hkid:=kidsL_mem.1 hkmem
    have hkn:k<n:=by rw[←c.t.1];exact hkid.1
    have hdep:=(c.t.up hkid.1 hkid.2).2
    have hcu:=s.cu
    refine Qh ?_
    try simp only[go_sem]
    refine Qg (Qc ?_)
    refine Qbc ?_
    simp only[go_sem,l0,l2,l16,l17,hlt,Qw,Qad _ _ hlt,hgd,hcu,s.ct,s.cl,List.nil_append,List.length_nil,List.drop_zero,Nat.zero_add,Nat.le_refl]
    refine⟨.inl trivial,Qu _,by have h1:=c.ok.r1;have h2:=c.ok.r0;have:=c.hR;simp only[LIM];omega,fun z hz H9 h9=>?_⟩
    have t9:=s.t.al hz h9
    simp only[go_sem,Qfq,l0,l2,l16,l17,hlt,Qw,Qad _ _ hlt,hgd]
    have hsub:Ty (LGo os zb) H9 [(wl,wO q ids zb n nx'),(z,.vec 1 (Qf cs))] (XU os zb fun x=>U1 x∧∀k∈kl.take i,¬Sub ids k x) H9 []:=Ty.sub (L:=[]) t9
    refine ih k (fun x=>U1 x∧∀k∈kl.take i,¬Sub ids k x) nx' cs z H9 _ (by omega) hkn (fun x hx=>?_) ⟨hsub,s.c⟩ hn0 hpot' fun nx2 cs2 H10 s10 hn2' hpot2=>?_
    ·refine⟨?_,fun k' hk' hs'=>?_⟩
     ·rw[hU1]
      refine⟨hUs x (Sub.kid hkmem hx),fun hxb=>?_⟩
      subst hxb
      exact Sub.kid_ne c.t hkmem hx
     ·have hk'm:k'∈kl:=List.mem_of_mem_take hk'
      have:=Sub.kids_apart c.t (hkm k' hk'm) hkmem hs' hx
      subst this
      rw[←hk]at hk'
      exact Qa4j hknd hlt hk'
    have hXeq:∀x,(U1 x∧∀k∈kl.take (i+1),¬Sub ids k x)↔((U1 x∧∀k∈kl.take i,¬Sub ids k x)∧¬Sub ids k x):=fun x=>by
     rw[List.take_succ_eq_append_getElem hlt,hk]
     constructor
     ·rintro⟨g1,g2⟩
      exact⟨⟨g1,fun k' hk'=>g2 k' (List.mem_append_left _ hk')⟩,g2 k (List.mem_append_right _ (by simp))⟩
     ·rintro⟨⟨g1,g2⟩,g3⟩
      refine⟨g1,fun k' hk'=>?_⟩
      rcases List.mem_append.1 hk' with h|h
      ·exact g2 k' h
      ·simp only[List.mem_singleton]at h;rw[h];exact g3
    have hfe:(fun x=>U1 x∧∀k∈kl.take (i+1),¬Sub ids k x)=fun x=>(U1 x∧∀k∈kl.take i,¬Sub ids k x)∧¬Sub ids k x:=funext fun x=>propext (hXeq x)
    have t11:=Ty.ret (L:=[]) t9 s10.t
    refine Qq ?_
    simp only[go_sem,l0,l2,l16,l17]
    refine⟨Qo (by omega) (by omega),?_⟩
    show ∃m,_
    refine⟨kl.length-(i+1),by omega,i+1,nx2,cs,rfl,by omega,?_,hn2',?_,rfl,rfl,rfl,rfl⟩
    ·rw[hfe];exact⟨t11,s.c⟩
    ·rw[hfe];exact hpot2
   ·intro hc
    have hie:i=kl.length:=by have:kl.length≤i:=(by simpa using hc);omega
    subst hie
    rw[List.take_length]at s hpot'
    refine Qr ?_
    simp only[go_sem,X.next,Q6,Qab,Qlj,List.not_mem_nil,false_imp_iff,implies_true,List.map_nil]
    have hsubset:∀x,(U x∧¬Sub ids b x)→(U1 x∧∀k∈kl,¬Sub ids k x):=fun x hx=>by
     refine⟨by rw[hU1];exact⟨hx.1,fun hxb=>hx.2 (by rw[hxb];exact .refl)⟩,fun k hk hs=>hx.2 (Sub.kid (hkm k hk) hs)⟩
    refine hK nx' cs H8 ⟨s.t.weak fun m r hh=>?_,s.c⟩ hn0 ?_
    ·rcases hh with h|⟨x,hx,hUx,he⟩
     ·exact .inl h
     ·exact .inr ⟨x,hx,hsubset x hUx,he⟩
    ·have:=Qbld (n:=n) (w:=wgt os) hsubset
     omega
theorem LGo.vec {zb:Nat}(hok:∀b∈os,b.ok)(how:∀b∈os,∀p∈b.phis,p.own):∀p∈LGo os zb,∃sz rows,p.2=.vec sz rows:=fun p hp=>by
 rcases List.mem_append.1 hp with hp|hp
 ·obtain⟨o,ho,hp⟩:=List.mem_flatMap.1 hp
  have h1:=hok o ho
  simp only[OBlk.lg,List.mem_append]at hp
  rcases hp with hp|hp|hp|hp|hp
  ·simp only[OInts.lg,List.mem_singleton]at hp;rw[hp];exact⟨_,_,rfl⟩
  ·obtain⟨x,hx,hp⟩:=List.mem_flatMap.1 hp
   obtain⟨y,_,e⟩:=how o ho x hx
   rw[e]at hp
   simp only[List.mem_singleton]at hp;rw[hp];exact⟨_,_,rfl⟩
  ·rcases h1.p with ⟨_,_,e⟩|⟨y,_,e⟩
   ·rw[e]at hp;simp at hp
   ·rw[e]at hp;simp only[List.mem_singleton]at hp;rw[hp];exact⟨_,_,rfl⟩
  ·obtain⟨x,hx,hp⟩:=List.mem_flatMap.1 hp
   simp only[OIns.lg,OInts.lg,List.mem_singleton]at hp;rw[hp];exact⟨_,_,rfl⟩
  ·rcases h1.i with ⟨_,_,e⟩|⟨y,_,e⟩
   ·rw[e]at hp;simp at hp
   ·rw[e]at hp;simp only[List.mem_singleton]at hp;rw[hp];exact⟨_,_,rfl⟩
 ·simp only[List.mem_singleton]at hp;rw[hp];exact⟨_,_,rfl⟩
theorem Qbhg {LG E0:List (Nat×Obj)}{Z:Nat→Nat→Prop}(hv:∀p∈LG,∃sz rows,p.2=.vec sz rows)(kn:Kn H H (E0++LG) []):Ty LG H E0 Z H []:=by
 refine⟨LG,rfl,fun p hp ob hob=>?_,kn⟩
 have hd:=kn.dE
 rw[List.map_append]at hd
 have hnd:=(List.nodup_append.1 hd).2.1
 obtain⟨i1,g1⟩:=List.getElem?_of_mem hp
 obtain⟨i2,g2⟩:=List.getElem?_of_mem hob
 have:=Qch hnd g1 g2 rfl
 subst this
 rw[g1]at g2
 have e:p.2=ob:=by rw[Option.some.inj g2]
 obtain⟨sz,rows,h⟩:=hv p hp
 rw[←e,h];exact .same _ _
theorem Qai8 {S:Nat→Bool}{Z:Nat→Prop}{m k:Nat}{ns:List Int}(hs:SimO Z (.vec 1 (Qf ns)) (H m))(hS:S m=true)(hk:k=ns.length):∃ns':List Int,ns'.length=ns.length∧FrzC H S (.vsl m 1 0 k) (.sl false 1 (Qf ns')):=by
 obtain⟨ns',h1,h2,_⟩:=Qa4t (X:=fun _=>Z) (m:=m) hs
 exact⟨ns',h2,(FrzR.same (Qu _)).vsl hS h1 (by rw[Qd];omega)⟩
theorem Q6v {β:Type}{S:Nat→Bool}{g:β→List C}{P:β→Prop}:∀(l:List (List C)),(∀r∈l,∃y,FrzL H S r (g y)∧P y)→∃l':List β,FrzR H S l (l'.map g)∧l'.length=l.length∧∀y∈l',P y
 |[],_=>⟨[],.nil,rfl,by simp⟩
 |x::l,h=>by
  obtain⟨y,hy,hp⟩:=h x List.mem_cons_self
  obtain⟨l',hl',hn,hps⟩:=Q6v l fun z hz=>h z (List.mem_cons_of_mem _ hz)
  refine⟨y::l',.cons hy hl',by simp[hn],fun z hz=>?_⟩
  rcases List.mem_cons.1 hz with rfl|hz
  ·exact hp
  ·exact hps z hz
theorem Qbbu {l:List (List C)}{r:List C}(h:r∈l):∃i,i<l.length∧l.getD i []=r:=by
 obtain⟨i,hi,rfl⟩:=List.mem_iff_getElem.1 h
 exact⟨i,hi,by simp[List.getD_eq_getElem?_getD,hi]⟩
theorem Qbd3 {S:Nat→Bool}{Z:Nat→Nat→Prop}{o:OBlk}(hok:o.ok)(how:∀p∈o.phis,p.own)(hs:∀p∈o.phN,SimO (Z p.1) p.2 (H p.1)∧S p.1=true):∃ps:List PhiD,FrzC H S o.pc (.sl false 2 (Qaj ps))∧ps.length=o.phis.length:=by
 rcases hok.p with ⟨h1,h2,_⟩|⟨z,h1,h2⟩
 ·have h0:o.phis=[]:=List.map_eq_nil_iff.1 h2
  exact⟨[],by rw[h1];exact FrzR.nil.sl,by simp[h0]⟩
 ·obtain⟨hz,hSz⟩:=hs (z,.vec 2 (o.phis.map OPhi.row)) (List.mem_append_right _ (by rw[h2];simp))
  obtain⟨PR,g1,g2,g3⟩:=hz.get
  rw[List.length_map]at g2 g3
  obtain⟨ps,e1,e2,_⟩:=Q6v (H:=H) (S:=S) (g:=PhiD.cells) (P:=fun _=>True) PR fun r hr=>by
   obtain⟨i,hi,he⟩:=Qbbu hr
   have hi':i<o.phis.length:=by omega
   obtain⟨h4,_⟩:=g3 i hi'
   obtain⟨ya,e3,e4⟩:=how _ (List.getElem_mem hi')
   have hg:(o.phis.map OPhi.row).getD i []=[.int .i64 o.phis[i].to,.vsl ya 1 0 o.phis[i].ns.length]:=by
    simp only[List.getD_eq_getElem?_getD,List.getElem?_map,List.getElem?_eq_getElem hi',Option.map_some,Option.getD_some,OPhi.row,e3]
   rw[hg,he]at h4
   have hya:=hs (ya,.vec 1 (Qf o.phis[i].ns)) (List.mem_append_left _ (List.mem_flatMap.2 ⟨_,List.getElem_mem hi',by rw[e4];simp⟩))
   obtain⟨ns',_,hfr⟩:=Qai8 hya.1 hya.2 rfl
   cases h4 with
   |cons a1 t1=>cases t1 with
    |cons a2 t2=>cases t2 with
     |nil=>
      obtain⟨v,e⟩:=a1.int
      have e5:=a2.vsl
      subst e;subst e5
      exact⟨⟨v,ns'⟩,.cons (Qi rfl) (.cons hfr .nil),trivial⟩
  exact⟨ps,by rw[h1];exact e1.vsl hSz g1 (by rw[List.length_map,g2]),by omega⟩
theorem Qbh6 {S:Nat→Bool}{Z:Nat→Nat→Prop}{o:OBlk}(hok:o.ok)(hs:∀p∈o.inN,SimO (Z p.1) p.2 (H p.1)∧S p.1=true):∃is:List InsD,FrzC H S o.ic (.sl false 4 (Qbo is))∧is.length=o.ins.length:=by
 rcases hok.i with ⟨h1,h2,_⟩|⟨z,h1,h2⟩
 ·have h0:o.ins=[]:=List.map_eq_nil_iff.1 h2
  exact⟨[],by rw[h1];exact FrzR.nil.sl,by simp[h0]⟩
 ·obtain⟨hz,hSz⟩:=hs (z,.vec 4 (o.ins.map OIns.row)) (List.mem_append_right _ (by rw[h2];simp))
  obtain⟨PR,g1,g2,g3⟩:=hz.get
  rw[List.length_map]at g2 g3
  obtain⟨ps,e1,e2,_⟩:=Q6v (H:=H) (S:=S) (g:=InsD.cells) (P:=fun _=>True) PR fun r hr=>by
   obtain⟨i,hi,he⟩:=Qbbu hr
   have hi':i<o.ins.length:=by omega
   obtain⟨h4,_⟩:=g3 i hi'
   have hg:(o.ins.map OIns.row).getD i []=[.int .i64 o.ins[i].op,.int .i64 o.ins[i].to,.vsl o.ins[i].a.y 1 0 o.ins[i].a.ns.length,.int .i64 o.ins[i].n]:=by
    simp only[List.getD_eq_getElem?_getD,List.getElem?_map,List.getElem?_eq_getElem hi',Option.map_some,Option.getD_some]
    rfl
   rw[hg,he]at h4
   have hya:=hs (o.ins[i].a.y,.vec 1 (Qf o.ins[i].a.ns)) (List.mem_append_left _ (o.aM hi'))
   obtain⟨ns',_,hfr⟩:=Qai8 hya.1 hya.2 rfl
   cases h4 with
   |cons a1 t1=>cases t1 with
    |cons a2 t2=>cases t2 with
     |cons a3 t3=>cases t3 with
      |cons a4 t4=>cases t4 with
       |nil=>
        obtain⟨v1,f1⟩:=a1.int
        obtain⟨v2,f2⟩:=a2.int
        have f3:=a3.vsl
        obtain⟨v4,f4⟩:=a4.int
        subst f1;subst f2;subst f3;subst f4
        exact⟨⟨v1,v2,ns',v4⟩,.cons (Qi rfl) (.cons (Qi rfl) (.cons hfr (.cons (Qi rfl) .nil))),trivial⟩
  exact⟨ps,by rw[h1];exact e1.vsl hSz g1 (by rw[List.length_map,g2]),by omega⟩
theorem Qbd2 {S:Nat→Bool}{Z:Nat→Nat→Prop}(c:NC q os zb R n ids)(t:∀p∈LGo os zb,SimO (Z p.1) p.2 (H p.1))(hS:∀p∈LGo os zb,S p.1=true) :
  ∃bs:List BlkD,FrzC H S (.vsl zb 5 0 n) (.sl false 5 (Qm bs))∧bs.length=n∧∀y∈bs,y.ins.length≤1200∧y.phis.length≤1200:=by
 have hs:=t _ LGo.zbm
 obtain⟨RW,h1,h2,h3⟩:=hs.get
 rw[List.length_map,c.l]at h2
 obtain⟨bs,e1,e2,e3⟩:=Q6v (H:=H) (S:=S) (g:=BlkD.cells) (P:=fun y=>y.ins.length≤1200∧y.phis.length≤1200) RW fun r hr=>by
  obtain⟨x,hx,he⟩:=Qbbu hr
  have hxn:x<n:=by omega
  obtain⟨hl,hq,hd,hok,hyo,hpl,hil⟩:=c.get hxn
  obtain⟨RW',j,on,g1,g2,_,g4,_,_⟩:=Qbbs hs c hxn hl rfl
  rw[h1]at g1
  cases g1
  rw[g4]at he
  subst he
  have hsx:∀p∈os[x].lg,SimO (Z p.1) p.2 (H p.1)∧S p.1=true:=fun p hp=>⟨t p (LGo.of hl hp),hS p (LGo.of hl hp)⟩
  obtain⟨ps,p1,p2⟩:=Qbd3 (H:=H) (S:=S) (Z:=Z) hok (c.ow _ (List.getElem_mem hl)) fun p hp=>hsx p (OBlk.phM hp)
  obtain⟨is,i1,i2⟩:=Qbh6 (H:=H) (S:=S) (Z:=Z) hok fun p hp=>hsx p (OBlk.inM hp)
  have hnx:=hsx _ os[x].nxM
  obtain⟨ns',_,n2⟩:=Qai8 hnx.1 hnx.2 rfl
  exact⟨⟨ps,is,j,on,ns'⟩,.cons p1 (.cons i1 (.cons (Qi rfl) (.cons (Qi rfl) (.cons n2 .nil)))),by show is.length≤_;omega,by show ps.length≤_;omega⟩
 exact⟨bs,e1.vsl (hS _ LGo.zbm) h1 (by omega),by omega,e3⟩
set_option maxHeartbeats 8000000 in
theorem Qawn {q:CodeD}(ho:q.ok)(hpar:0≤q.params)(hpr:q.params≤q.regs)(h9:∀y∈q.blocks,y.ins.length≤900∧y.phis.length≤900)(hK:∀(d:CodeD) H',d.fits→Upd H H' []→K (.ag d.cells) H') :
  Qv prog Qn6 [.ag [.int .i64 q.params,.int .i64 q.regs,.sl false 5 (Qm q.blocks)]] H K:=by
 refine Qz ?_
 refine Qb Qar Qawx ?_
 refine Qa ?_
 simp only[go_sem]
 intro x2 hx2 H1 h1
 have kn:=(Kn.start0 H).al hx2 h1
 refine Qa ?_
 simp only[go_sem]
 refine Qa5r ho hpar h9 fun d1 H2 hd1 hp1 hr1 h9d hu=>?_
 have kn:=kn.call0 hu
 simp only[go_sem,Qs7,CodeD.cells]
 refine Qa94 hd1 h9d fun d2 H3 hd2 hp2 hr2 hu=>?_
 have kn:=kn.call0 hu
 have hp:d2.params=q.params:=hp2.trans hp1
 have hr:d2.regs=q.regs:=hr2.trans hr1
 simp only[go_sem,Qs6,CodeD.cells]
 intro x3 hx3 H4 h4
 have kn:=kn.al hx3 h4
 have hx3:=kn.l 1 rfl
 simp only[go_sem,Qs5,hx3]
 intro H5 h5
 have kn:Kn H H5 [] [(x2,.st [.int .i64 0,.int .i64 0,.sl true 5 []]),(x3,.st [.int .i64 d2.params,.int .i64 d2.regs,.sl false 5 (Qm d2.blocks)])]:=kn.stL 1 rfl h5
 have hx3:=kn.l 1 rfl
 have hb0:=hd2.b0
 have hb1:=hd2.b1
 have hrr0:=hd2.r0
 have hrr1:=hd2.r1
 refine Qal ?_
 simp only[go_sem,hx3]
 refine Qajs hd2.sg fun o H6 k2 hok hod how=>?_
 have kn:=kn.comp0 k2
 obtain⟨n,hn⟩:∃n,d2.blocks.length=n:=⟨_,rfl⟩
 have hol:o.blocks.length=n:=by rw[←hn,←hod];simp[OCode.d]
 obtain⟨zb,hbc,hbl⟩:∃z,o.bc=.vsl z 5 0 n∧o.bl=[(z,.vec 5 (o.blocks.map OBlk.row))]:=by
  rcases hok.b with ⟨_,h,_⟩|⟨y,h1,h2⟩
  ·have:=congrArg List.length h;simp only[List.length_map,List.length_nil]at this;omega
  ·exact⟨y,by rw[h1,List.length_map,hol],h2⟩
 have hrow:o.row=[.int .i64 d2.params,.int .i64 d2.regs,.vsl zb 5 0 n]:=by
  rw[OCode.row,hbc,←hod];rfl
 have hlg:o.lg=LGo o.blocks zb:=by rw[OCode.lg,hbl];rfl
 have hos:o.blocks.map OBlk.d=d2.blocks:=by rw[←hod];rfl
 have hobs:=hok.bs
 rw[hlg]at kn
 have hx3:=kn.l 1 rfl
 simp only[go_sem,Qtb,hx3]
 refine Qaob (rows:=Qm d2.blocks) (nx:=gnx d2) (Qawj hd2.gd) (by rw[Qk];exact hd2.fitB) fun H7 hu=>?_
 have kn:=kn.call0 hu
 have hx3:=kn.l 1 rfl
 rw[Qk,hn]
 simp only[go_sem,Qta,hx3]
 refine Qa5q (by omega) (by omega) fun ids H8 htree hu=>?_
 have kn:=kn.call0 hu
 have hx3:=kn.l 1 rfl
 rw[hrow]
 simp only[go_sem,Qs9,hx3]
 intro x4 hx4 H9 h9'
 have kn:=kn.al hx4 h9'
 have hx3:=kn.l 1 rfl
 simp only[go_sem,Qs8]
 obtain⟨R,hR⟩:∃R:Nat,d2.regs.toNat=R:=⟨_,rfl⟩
 have hRq:d2.regs=(R:Int):=by omega
 refine Qa ?_
 simp only[go_sem,hx3]
 refine⟨by omega,by simp only[LIM];omega,fun cy hcy H10 h10=>?_⟩
 rw[Qv2,hR]at h10
 have kn:=kn.al hcy h10
 simp only[go_sem,Qtc,hR]
 refine Q4 ?_
 refine Qa ?_
 simp only[go_sem]
 generalize hos0:o.blocks=os at *
 have kn:Kn H H10 [] ([(cy,.vec 1 (Qf (List.replicate R 0)))]++([(x2,.st [.int .i64 0,.int .i64 0,.sl true 5 []]),(x3,.st [.int .i64 d2.params,.int .i64 d2.regs,.sl false 5 (Qm d2.blocks)])]++([(x4,wO d2 ids zb n q.params)]++LGo os zb))):=kn.perm (Qy fun f hf h0 hc hp=>by
  have e2:∀(a b:Nat×Obj),f [a,b]=f [a]+f [b]:=fun a b=>hc a [b]
  simp only[hf,e2,wO];omega)
 refine Qg (Qc (Qs (fun m e1 H1=>∃(r:Nat) (cs:List Int),m=q.params.toNat-r∧(r:Int)≤q.params∧cs.length=R∧
  Kn H H1 [] ([(cy,.vec 1 (Qf cs))]++([(x2,.st [.int .i64 0,.int .i64 0,.sl true 5 []]),(x3,.st [.int .i64 d2.params,.int .i64 d2.regs,.sl false 5 (Qm d2.blocks)])]++([(x4,wO d2 ids zb n q.params)]++LGo os zb)))∧
  lk 1 e1=.c (.pp [.int .i64 q.params,.int .i64 q.regs,.sl false 5 (Qm q.blocks)])∧lk 2 e1=.c (.ptr x2 0)∧lk 4 e1=.c (.ptr x4 0)∧lk 5 e1=.c (.vsl cy 1 0 R)∧lk 6 e1=.c (.int .i64 r)) q.params.toNat ?_ ?_))
 ·exact⟨0,List.replicate R 0,by omega,hpar,by simp,kn,rfl,rfl,rfl,rfl,rfl⟩
 ·clear kn h10
  rintro m e1 H11 ⟨r,cs,hm,hrp,hcl,kn,l1,l2,l4,l5,l6⟩
  refine Q4 ?_
  refine Qa ?_
  simp only[go_sem,l1,l2,l4,l5,l6]
  refine Qg (Qe rfl ?_ ?_)
  ·intro hc
   have hlt:(r:Int)<q.params:=by simpa using hc
   have hrR:r<R:=by omega
   have hrc:r<cs.length:=by omega
   have hcu:=kn.l 0 rfl
   have hct:(Qf cs).take R=Qf cs:=List.take_of_length_le (by rw[Qd];omega)
   refine Qh ?_
   try simp only[go_sem]
   refine Qg (Qc ?_)
   refine Qq ?_
   simp only[go_sem,hcu,hct,Qd,hcl,hrR,Qx _ _ hrc,Qcu,Nat.zero_add,Nat.le_refl]
   intro H12 h12
   have kn:=kn.stL 0 rfl h12
   refine Qq ?_
   simp only[go_sem]
   refine⟨Qo (by omega) (by omega),?_⟩
   show ∃m,_
   exact⟨q.params.toNat-(r+1),by omega,r+1,_,rfl,by omega,by rw[List.length_set];exact hcl,kn,rfl,rfl,rfl,rfl,by simp[lk]⟩
  ·intro hc
   refine Qr ?_
   simp only[go_sem,X.next]
   have hC:NC d2 os zb R n ids:=⟨hd2,hn,hR,hol,fun x h h'=>by
    have h1:(os.map OBlk.d)[x]? = some os[x].d:=by simp[h]
    rw[hos,List.getElem?_eq_getElem h']at h1
    exact (Option.some.inj h1).symm,hobs,how,htree⟩
   have kn:Kn H H11 [] ((([(x4,wO d2 ids zb n q.params),(cy,.vec 1 (Qf cs))])++LGo os zb)++[(x2,.st [.int .i64 0,.int .i64 0,.sl true 5 []]),(x3,.st [.int .i64 d2.params,.int .i64 d2.regs,.sl false 5 (Qm d2.blocks)])]):=kn.perm (Qy fun f hf h0 hc hp=>by
    have e2:∀(a b:Nat×Obj),f [a,b]=f [a]+f [b]:=fun a b=>hc a [b]
    simp only[hf,e2];omega)
   have hw0:wgt os=wgt os:=rfl
   have hwb:∀x,wgt os x≤2400:=fun x=>by
    rw[wgt]
    cases hx:os[x]? with
    |none=>simp
    |some o'=>
     obtain⟨hxl,hxo⟩:=List.getElem?_eq_some_iff.1 hx
     have hxn:x<n:=by omega
     obtain⟨_,_,_,_,_,a1,a2⟩:=hC.get hxn
     rw[hxo]at a1 a2
     show o'.phis.length+o'.ins.length≤2400
     omega
   have hpb:=Qbf8 (N:=n) hwb (fun _=>True)
   have hst:NSt d2 os zb n R x4 cy ids H11 q.params cs (XU os zb fun _=>True) H11:=⟨Qbhg (LGo.vec hobs how) kn.mid,hcl⟩
   refine Qa ?_
   simp only[go_sem,l1,l2,l4,l5,l6]
   refine Qbjo hC (2 ^ 40) (Int.le_refl _) (n+1) 0 (fun _=>True) q.params cs cy H11 _ (by omega) (by omega) (fun _ _=>trivial) hst (by omega) (by
    have:n * 2400≤160 * 2400:=Nat.mul_le_mul_right _ (by omega)
    omega) fun nx' cs' H12 s2 hn0 hpot=>?_
   obtain⟨t2,hcl2⟩:=s2
   have hwx:=Ty.e t2 0 rfl
   have ht2:=t2
   obtain⟨E1,g1,g2,k3⟩:=t2
   have kn:=kn.comp k3 (by simp[g1])
   have kn:Kn H H12 [] ([(x4,wO d2 ids zb n nx'),(x2,.st [.int .i64 0,.int .i64 0,.sl true 5 []])]++([(x3,.st [.int .i64 d2.params,.int .i64 d2.regs,.sl false 5 (Qm d2.blocks)])]++([(cy,.vec 1 (Qf cs'))]++E1))):=kn.perm (Qy fun f hf h0 hc hp=>by
    have e2:∀(a b:Nat×Obj),f [a,b]=f [a]+f [b]:=fun a b=>hc a [b]
    simp only[hf,h0,e2];omega)
   rw[wO]at hwx
   try simp only[go_sem,l2,l4]
   refine Qa ?_
   simp only[go_sem,l2,l4,hwx]
   intro H13 h13
   have kn:=kn.stL 0 rfl h13
   have hx4:=kn.l 0 rfl
   have hx2:=kn.l 1 rfl
   refine Qa ?_
   simp only[go_sem,hx4,hx2]
   intro H14 h14
   have kn:=kn.stL 1 rfl h14
   have hx2:=kn.l 1 rfl
   refine Qj ?_
   simp only[go_sem,Q6,Qab,Q8x,List.mem_singleton,forall_eq,RS.op,hx2]
   have hE:∀p∈E1,H14 p.1=p.2∧un H p.1=true:=fun p hp=>by
    have hm:p∈([(x4,Obj.st [.int .i64 d2.params,.int .i64 d2.regs,.sl false 5 (Qm d2.blocks),.int .i64 d2.params,.int .i64 nx',.vsl zb 5 0 n,.sl false 1 (Qf ids),.int .i64 nx']),(x2,.st [.int .i64 d2.params,.int .i64 nx',.vsl zb 5 0 n])]++([(x3,.st [.int .i64 d2.params,.int .i64 d2.regs,.sl false 5 (Qm d2.blocks)])]++([(cy,.vec 1 (Qf cs'))]++E1)):List (Nat×Obj)):=by
     simp[hp]
    exact⟨(kn.get p (List.mem_append_right _ hm)).1,Qep (kn.loc p hm)⟩
   have hty:TT d2 os zb n x4 cy ids H11 nx' cs' (XU os zb fun x=>True∧¬Sub ids 0 x) H12:=ht2
   have hH:∀p∈LGo os zb,H14 p.1=H12 p.1:=fun p hp=>by
    have h1:p.1∈E1.map Prod.fst:=by rw[g1];exact Qam hp
    obtain⟨p',hp',he⟩:=List.mem_map.1 h1
    rw[←he,(hE p' hp').1,(k3.get p' (List.mem_append_left _ (List.mem_append_right _ hp'))).1]
   have hS:∀p∈LGo os zb,un H p.1=true:=fun p hp=>by
    have h1:p.1∈E1.map Prod.fst:=by rw[g1];exact Qam hp
    obtain⟨p',hp',he⟩:=List.mem_map.1 h1
    rw[←he];exact (hE p' hp').2
   have hty2:∀p∈LGo os zb,SimO (XU os zb (fun x=>True∧¬Sub ids 0 x) p.1) p.2 (H14 p.1):=fun p hp=>by
    rw[hH p hp];exact Ty.get hty hp
   obtain⟨bs,b1,b2,b3⟩:=Qbd2 (S:=un H) hC hty2 hS
   exact⟨_,FrzL.ag (.cons (Qi rfl) (.cons (Qi rfl) (.cons b1 .nil))),hK ⟨d2.params,nx',bs⟩ _ (fun y hy=>by have:=b3 y hy;exact⟨by omega,by omega⟩) kn.fin⟩
end Go.AE.Y

namespace Go.AE.Y
attribute [local go_sem] cond_true cond_false Bool.not_true Bool.not_false
attribute [local instance] Classical.propDecidable
open Go.Proofs.Tryz
variable {H H0:Heap}{K:V→Heap→Prop}{E B Lg:List (Nat×Obj)}{q:CodeD}
theorem Qbec {S:Nat→Bool}(q:CodeD):FrzV H S (.ag q.cells) (.ag q.cells):=FrzL.ag (.cons (.same _ rfl) (.cons (.same _ rfl) (.cons (.same _ rfl) .nil)))
structure CodeD.sgl (q:CodeD):Prop where
 ok:q.ok
 p0:0≤q.params
 pr:q.params≤q.regs
 h9:∀y∈q.blocks,y.ins.length≤900∧y.phis.length≤900
theorem Qbhh {cs:List CodeD}(h:Qcb cs=true){c:CodeD}(hc:c∈cs):c.sgl:=by
 obtain⟨k,hk,rfl⟩:=List.mem_iff_getElem.1 hc
 have ho:=Qaef h hk
 obtain⟨_,h2,h3⟩:=of_decide_eq_true h
 obtain⟨g1,g2⟩:=h2 k hk
 simp only[Qt7,Bool.and_eq_true,decide_eq_true_eq]at g1
 refine⟨ho,by omega,by omega,fun y hy=>?_⟩
 have a1:=Q6w (f:=Q6u) (List.getElem_mem hk)
 have a2:=Q6w (f:=Qtx) hy
 simp only[Q6u,Qtx]at *
 omega
set_option maxHeartbeats 2000000 in
theorem Qa9y (hq:q.sgl)(hK:∀(d:CodeD) H',d.fits→Upd H H' []→K (.ag d.cells) H') :
  Qv prog Qy7 [.ag [.int .i64 q.params,.int .i64 q.regs,.sl false 5 (Qm q.blocks)],.c (.str [115,105,110,103,108,101])] H K:=by
 refine Qz ?_
 refine Qb Qar Qbao ?_
 refine Qa ?_
 simp only[go_sem]
 intro x4 hx4 H1 h1
 have kn:=(Kn.start0 H).al hx4 h1
 refine Q4 ?_
 refine Qa ?_
 simp only[go_sem]
 refine Qg (Qc ?_)
 refine Qa ?_
 simp only[go_sem]
 refine Qe rfl (fun hc=>absurd hc (by decide)) (fun _=>?_)
 refine Qa ?_
 simp only[go_sem]
 refine Qe rfl (fun hc=>absurd hc (by decide)) (fun _=>?_)
 refine Qa ?_
 simp only[go_sem]
 refine Qe rfl (fun hc=>absurd hc (by decide)) (fun _=>?_)
 refine Qa ?_
 simp only[go_sem]
 refine Qe rfl (fun hc=>absurd hc (by decide)) (fun _=>?_)
 refine Qa ?_
 simp only[go_sem]
 refine Qe rfl (fun _=>?_) (fun hc=>absurd hc (by decide))
 refine Qa ?_
 simp only[go_sem]
 refine Qawn hq.ok hq.p0 hq.pr hq.h9 fun d H2 hd hu=>?_
 have kn:=kn.call0 hu
 have hx4:=kn.l 0 rfl
 simp only[go_sem,Q2c,CodeD.cells,hx4]
 intro H3 h3
 have kn:=kn.stL 0 rfl h3
 have hx4:=kn.l 0 rfl
 refine Qj ?_
 simp only[go_sem,X.next,Q6,Qab,Qao1,List.mem_singleton,forall_eq,RS.op,hx4]
 exact⟨_,Qbec d,hK d _ hd kn.fin⟩
set_option maxHeartbeats 4000000 in
theorem Qa9w {cs:List CodeD}{fl:Bool}(hfit:∀c∈cs,c.fits)(hK:∀(ds:List CodeD) (b:Bool) H',(b=true→UnitOk ds)→Upd H H' []→K (.tup [.ag [.sl false 3 (Qp ds)],.c (.bool b)]) H') :
  Qv prog Qy5 [.ag [.sl fl 3 (Qp cs)],.c (.str [115,105,110,103,108,101])] H K:=by
 refine Qz ?_
 refine Qb Qar Qbal ?_
 refine Qa ?_
 simp only[go_sem]
 intro x4 hx4 H1 h1
 have kn:=(Kn.start0 H).al hx4 h1
 simp only[go_sem,Q1z]
 refine Q4 ?_
 refine Qa ?_
 simp only[go_sem]
 refine Qey hfit fun H2 hu=>?_
 have kn:=kn.call0 hu
 simp only[go_sem,Q10]
 refine Qg (Qe rfl ?_ ?_)
 ·intro _
  have hx4:=kn.l 0 rfl
  refine Qa ?_
  simp only[go_sem,hx4]
  intro H3 h3
  have kn:=kn.stL 0 rfl h3
  have hx4:=kn.l 0 rfl
  simp only[go_sem,Q11]
  refine Qj ?_
  simp only[go_sem,X.next,Q6,Qab,Qwb,List.forall_mem_cons,List.not_mem_nil,RS.op,hx4]
  refine⟨fun _=>trivial,_,Qajk (FrzL.ag (.cons (FrzR.nil.sl) .nil)) (.c _ _ (Qi rfl)),hK [] false _ (fun h=>by simp at h) kn.fin⟩
 ·intro hc
  have hG:Qcb cs=true:=Qeh hc
  refine Qh ?_
  try simp only[go_sem]
  refine Qa ?_
  simp only[go_sem]
  intro x6 hx6 H3 h3
  have kn:=kn.al hx6 h3
  have hx6:=kn.l 1 rfl
  simp only[go_sem,Q12,hx6]
  intro H4 h4
  have kn:Kn H H4 [] [(x4,.st [.sl true 3 []]),(x6,.st [.sl true 3 []])]:=kn.stL 1 rfl h4
  refine Q4 ?_
  refine Qa ?_
  simp only[go_sem]
  have hcl:=(Qann hfit hG).1
  refine Qg (Qc (Qs (fun m e1 H1=>∃(ds:List CodeD) (t:C) (Lg:List (Nat×Obj)),m=cs.length-ds.length∧ds.length≤cs.length∧(∀d∈ds,d.fits)∧Gr Lg 3 (Qp ds) t∧Kn H H1 [] ([(x4,.st [.sl true 3 []]),(x6,.st [t])]++Lg)∧
   lk 1 e1=.c (.str [115,105,110,103,108,101])∧lk 2 e1=.c (.pp [.sl fl 3 (Qp cs)])∧lk 4 e1=.c (.ptr x4 0)∧lk 6 e1=.c (.ptr x6 0)∧lk 7 e1=.c (.int .i64 ds.length)) cs.length ?_ ?_))
  ·exact⟨[],_,[],by simp,by simp,by simp,.nil 3,by simpa using kn,rfl,rfl,rfl,rfl,rfl⟩
  ·clear kn hx6
   rintro m e1 H5 ⟨ds,t,Lg,hm,hdl,hds,hgr,kn,l1,l2,l4,l6,l7⟩
   have htw:=hgr.isOw
   refine Q4 ?_
   refine Qa ?_
   simp only[go_sem,l1,l2,l4,l6,l7,Q1]
   try intro _
   refine Qg (Qe rfl ?_ ?_)
   ·intro hc2
    have hlt:ds.length<cs.length:=by simpa using hc2
    have hx6:=kn.l 1 rfl
    obtain⟨q,hq⟩:∃q,cs[ds.length]=q:=⟨_,rfl⟩
    have hqs:q.sgl:=Qbhh hG (by rw[←hq];exact List.getElem_mem hlt)
    refine Qh ?_
    try simp only[go_sem]
    refine Qg (Qc ?_)
    refine Qbc ?_
    simp only[go_sem,l1,l2,l4,l6,l7,hx6,htw,hlt,Q1,Qak _ _ hlt,CodeD.cells,hq]
    refine Qa9y hqs fun d H6 hd hu=>?_
    have kn:=kn.call0 hu
    have hx6:=kn.l 1 rfl
    simp only[go_sem,Q14,CodeD.cells,hx6,htw]
    refine kn.growR (new:=Qp [d]) hgr (.mk' _ _ _ _) (Qb3 _) (by simp only[Q1,LIM,List.length_cons,List.length_nil];omega) fun t2 Lg2 H7 hgr2 ht2 kn=>?_
    have hx6:=kn.l 1 rfl
    simp only[go_sem,Q13,hx6,ht2]
    intro H8 h8
    have kn:=kn.stL 1 rfl h8
    refine Qq ?_
    simp only[go_sem,l1,l2,l4,l6,l7]
    refine⟨Qo (by omega) (by omega),?_⟩
    show ∃m,_
    refine⟨cs.length-(ds.length+1),by omega,ds++[d],t2,Lg2,by simp,by simp only[List.length_append,List.length_cons,List.length_nil];omega,fun w hw=>?_,?_,kn,rfl,rfl,rfl,rfl,by simp[lk]⟩
    ·rcases List.mem_append.1 hw with hw|hw
     ·exact hds w hw
     ·simp only[List.mem_singleton]at hw;rw[hw];exact hd
    ·have:Qp (ds++[d])=Qp ds++Qp [d]:=by simp[Qp]
     rw[this];exact hgr2
   ·intro _
    refine Qr ?_
    simp only[go_sem,X.next]
    have hx6:=kn.l 1 rfl
    obtain⟨S,hSL,hSB,hfz,kn⟩:=kn.freeze0
    have hx6b:=hSB (x6,.st [t]) (by simp)
    have hft:FrzC H5 S t (.sl false 3 (Qp ds)):=Gr.frzM hgr hSL (FrzR.same (Qb3 _))
    have kn:=kn.setL (o':=.st [.sl false 3 (Qp ds)]) 1 rfl (by simp)
    refine c_gh (Qga S (Qawf ?_) (hfz.set (o:=.st [.sl false 3 (Qp ds)]) hx6b.2 (by rw[hx6b.1];exact FrzKL.st (.cons htw hft .nil)))) (e':=[(4,.c (.ptr x4 0)),(6,.c (.ptr x6 0))]) ?_
    ·simp only[List.forall_mem_cons]
     exact⟨.c _ _ (.same _ rfl),.c _ _ (.same _ rfl),by simp⟩
    generalize (H5.frz S).set x6 (Obj.st [C.sl false 3 (Qp ds)])=H6 at *
    have hx6:=kn.l 1 rfl
    have hx4:=kn.l 0 rfl
    clear hfz hx6b hft hSL hSB
    refine Q4 ?_
    refine Qa ?_
    simp only[go_sem,hx6]
    refine Qey hds fun H7 hu=>?_
    have kn:=kn.call0 hu
    have hx6:=kn.l 1 rfl
    have hx4:=kn.l 0 rfl
    simp only[go_sem,Qw5]
    refine Qg (Qe rfl ?_ ?_)
    ·intro _
     refine Qa ?_
     simp only[go_sem,hx4]
     intro H8 h8
     have kn:=kn.stL 0 rfl h8
     have hx4:=kn.l 0 rfl
     simp only[go_sem,Qw6]
     refine Qj ?_
     simp only[go_sem,X.next,Q6,Qab,Qwb,List.forall_mem_cons,List.not_mem_nil,RS.op,hx4]
     refine⟨fun _=>trivial,_,Qajk (FrzL.ag (.cons (FrzR.nil.sl) .nil)) (.c _ _ (Qi rfl)),hK [] false _ (fun h=>by simp at h) kn.fin⟩
    ·intro hc3
     have hG2:Qcb ds=true:=Qeh hc3
     refine Qh ?_
     try simp only[go_sem]
     refine Qa ?_
     simp only[go_sem,hx6,hx4]
     intro H8 h8
     have kn:=kn.stL 0 rfl h8
     have hx4:=kn.l 0 rfl
     simp only[go_sem,Qw7]
     refine Qj ?_
     simp only[go_sem,X.next,Q6,Qab,Qwb,List.forall_mem_cons,List.not_mem_nil,RS.op,hx4]
     obtain⟨u1,u2,u3⟩:=Qann hds hG2
     refine⟨fun _=>trivial,_,Qajk (Qex ds) (.c _ _ (Qi rfl)),hK ds true _ (fun _=>⟨u2,u1,u3⟩) kn.fin⟩
theorem Qanr {cs:List CodeD}{fl:Bool}(hfit:∀c∈cs,c.fits)(hK:∀(ds:List CodeD) (b:Bool) H',(b=true→UnitOk ds)→Upd H H' []→K (.tup [.ag [.sl false 3 (Qp ds)],.c (.bool b)]) H') :
  Qv prog Qfd [.ag [.sl fl 3 (Qp cs)]] H K:=by
 refine Qz ?_
 refine Qb Qar Q8a ?_
 refine Qa ?_
 simp only[go_sem]
 intro x2 hx2 H1 h1
 have kn:=(Kn.start0 H).al hx2 h1
 simp only[go_sem,Qid]
 refine Qa ?_
 simp only[go_sem]
 refine Qa9w hfit fun ds b H2 hb hu=>?_
 have kn:=kn.call0 hu
 have hx2:=kn.l 0 rfl
 simp only[go_sem,Qif,List.getD_cons_zero,List.getD_cons_succ,hx2]
 intro H3 h3
 have kn:=kn.stL 0 rfl h3
 have hx2:=kn.l 0 rfl
 simp only[go_sem,Qie]
 refine Qj ?_
 simp only[go_sem,Q6,Qab,Qon,List.forall_mem_cons,List.not_mem_nil,RS.op,hx2]
 exact⟨fun _=>trivial,_,Qajk (Qex ds) (.c _ _ (Qi rfl)),hK ds b _ hb kn.fin⟩
def oneU:List CodeD:=[⟨0,1,[⟨[],[⟨1,0,[],0⟩],3,0,[]⟩]⟩]
theorem Qbjq:UnitOk oneU:=by
 refine⟨by simp[oneU],by simp[oneU],fun c hc=>?_⟩
 simp only[oneU,List.mem_singleton]at hc
 subst hc
 refine⟨by simp,by simp,fun y hy=>?_,fun y hy=>?_⟩
 ·simp only[List.mem_singleton]at hy;subst hy;simp
 ·simp only[List.mem_singleton]at hy;subst hy;simp
theorem Qbf5 {S:Nat→Bool}:FrzC H S (.sl true 3 [[.int .i64 0,.int .i64 1,.sl true 5 [[.sl true 2 [],.sl true 4 [[.int .i64 1,.int .i64 0,.sl true 1 [],.int .i64 0]],.int .i64 3,.int .i64 0,.sl true 1 []]]]]) (.sl false 3 (Qp oneU)):=
 FrzR.sl (.cons (.cons (Qi rfl) (.cons (Qi rfl) (.cons (FrzR.sl (.cons (.cons FrzR.nil.sl (.cons (FrzR.sl (.cons (.cons (Qi rfl) (.cons (Qi rfl) (.cons FrzR.nil.sl (.cons (Qi rfl) .nil)))) .nil)) (.cons (Qi rfl) (.cons (Qi rfl) (.cons FrzR.nil.sl .nil))))) .nil)) .nil))) .nil)
theorem Qa93 {R:Rdr}{k:Nat}(hH:H R.l=R.o k)(hk:k+7100000≤2^30)
  (hK:∀(cs:List CodeD) (H':Heap) (k':Nat),k<k'→k'≤k+7050000→Upd H H' [(R.l,R.o k')]→UnitOk cs→K (.ag [.sl false 3 (Qp cs)]) H') :
  Qv prog Qzc [.c (.ptr R.l 0)] H K:=by
 refine Qz ?_
 refine Qb Qar Qbaw ?_
 refine Qa ?_
 simp only[go_sem]
 intro x2 hx2 H1 h1
 have kn:=(Kn.start1 hH (R.o_ne k)).al hx2 h1
 refine Qa ?_
 simp only[go_sem]
 refine Qaoa (kn.e 0 rfl) (by omega) fun cs H3 k2 hk3 hk4 hu hok=>?_
 have kn:=kn.callE 0 rfl hu (R.o_ne _)
 simp only[go_sem,Q23]
 refine Qanr hok.fits fun ds b H4 hb hu=>?_
 have kn:=kn.call0 hu
 simp only[go_sem,Q22,List.getD_cons_zero,List.getD_cons_succ]
 intro x3 hx3 H5 h5
 have kn:=kn.al hx3 h5
 have hx3:=kn.l 1 rfl
 simp only[go_sem,Q21,hx3]
 intro H6 h6
 have kn:=kn.stL 1 rfl h6
 have hx2:=kn.l 0 rfl
 have hx3:=kn.l 1 rfl
 simp only[go_sem,Q20]
 refine Q4 ?_
 refine Qa ?_
 simp only[go_sem]
 refine Qg (Qe rfl ?_ ?_)
 ·intro _
  refine Qa ?_
  simp only[go_sem,hx2]
  intro H7 h7
  have kn:=kn.stL 0 rfl h7
  have hx2:=kn.l 0 rfl
  refine Qj ?_
  simp only[go_sem,X.next,Q6,Qab,Q8w,List.mem_singleton,forall_eq,RS.op,hx2]
  exact⟨_,FrzL.ag (.cons Qbf5 .nil),hK oneU _ k2 hk3 hk4 kn.fin Qbjq⟩
 ·intro hc
  have hbt:b=true:=Qeh hc
  refine Qh ?_
  try simp only[go_sem]
  refine Qa ?_
  simp only[go_sem,hx2,hx3]
  intro H7 h7
  have kn:=kn.stL 0 rfl h7
  have hx2:=kn.l 0 rfl
  refine Qj ?_
  simp only[go_sem,Q6,Qab,Q8w,List.mem_singleton,forall_eq,RS.op,hx2]
  exact⟨_,Qex ds,hK ds _ k2 hk3 hk4 kn.fin (hb hbt)⟩
theorem Qa92 {R:Rdr}{k:Nat}(hH:H R.l=R.o k)(hk:k+7300000≤2^30)
  (hK:∀(cs:List CodeD) (H':Heap) (k':Nat),k<k'→k'≤k+7150000→Upd H H' [(R.l,R.o k')]→UnitOk cs→K (.ag [.sl false 3 (Qp cs)]) H') :
  Qv prog Qzb [.c (.ptr R.l 0)] H K:=by
 refine Qz ?_
 refine Qb Qar Qbav ?_
 refine Qa ?_
 simp only[go_sem]
 intro x2 hx2 H1 h1
 have kn:=(Kn.start1 hH (R.o_ne k)).al hx2 h1
 refine Q4 ?_
 refine Qa ?_
 simp only[go_sem]
 refine Qa7 (kn.e 0 rfl) (by omega) fun v H2 hv hu=>?_
 have kn:=kn.callE 0 rfl hu (R.o_ne _)
 simp only[go_sem,Q2x]
 refine Qg (Qe rfl ?_ ?_)
 ·intro hc
  refine Qa ?_
  simp only[go_sem]
  refine Q70 (kn.e 0 rfl) (by omega) fun cs H3 k2 hk3 hk4 hu hok=>?_
  have kn:=kn.callE 0 rfl hu (R.o_ne _)
  have hx2:=kn.l 0 rfl
  simp only[go_sem,Q2y,hx2]
  intro H4 h4
  have kn:=kn.stL 0 rfl h4
  have hx2:=kn.l 0 rfl
  refine Qj ?_
  simp only[go_sem,X.next,Q6,Qab,Q8v,List.mem_singleton,forall_eq,RS.op,hx2]
  exact⟨_,Qex cs,hK cs _ k2 (by omega) (by omega) kn.fin hok⟩
 ·intro hc
  refine Qh ?_
  try simp only[go_sem]
  refine Qa ?_
  simp only[go_sem]
  refine Qa93 (kn.e 0 rfl) (by omega) fun cs H3 k2 hk3 hk4 hu hok=>?_
  have kn:=kn.callE 0 rfl hu (R.o_ne _)
  have hx2:=kn.l 0 rfl
  simp only[go_sem,Q2z,hx2]
  intro H4 h4
  have kn:=kn.stL 0 rfl h4
  have hx2:=kn.l 0 rfl
  refine Qj ?_
  simp only[go_sem,Q6,Qab,Q8v,List.mem_singleton,forall_eq,RS.op,hx2]
  exact⟨_,Qex cs,hK cs _ k2 (by omega) (by omega) kn.fin hok⟩
theorem Qawo {R:Rdr}{k:Nat}(hH:H R.l=R.o k)(hk:k+7400000≤2^30)
  (hK:∀(cs:List CodeD) (H':Heap) (k':Nat),k<k'→k'≤k+7200000→Upd H H' [(R.l,R.o k')]→UnitOk cs→K (.ag [.sl false 3 (Qp cs)]) H') :
  Qv prog Qn7 [.c (.ptr R.l 0)] H K:=by
 refine Qz ?_
 refine Qb Qar Qawy ?_
 refine Qa ?_
 simp only[go_sem]
 intro x2 hx2 H1 h1
 have kn:=(Kn.start1 hH (R.o_ne k)).al hx2 h1
 refine Q4 ?_
 refine Qa ?_
 simp only[go_sem]
 refine Qa7 (kn.e 0 rfl) (by omega) fun v H2 hv hu=>?_
 have kn:=kn.callE 0 rfl hu (R.o_ne _)
 simp only[go_sem,Qtd]
 refine Qg (Qe rfl ?_ ?_)
 ·intro hc
  refine Qa ?_
  simp only[go_sem]
  refine Qa92 (kn.e 0 rfl) (by omega) fun cs H3 k2 hk3 hk4 hu hok=>?_
  have kn:=kn.callE 0 rfl hu (R.o_ne _)
  have hx2:=kn.l 0 rfl
  simp only[go_sem,Qte,hx2]
  intro H4 h4
  have kn:=kn.stL 0 rfl h4
  have hx2:=kn.l 0 rfl
  refine Qj ?_
  simp only[go_sem,X.next,Q6,Qab,Qub,List.mem_singleton,forall_eq,RS.op,hx2]
  exact⟨_,Qex cs,hK cs _ k2 (by omega) (by omega) kn.fin hok⟩
 ·intro hc
  refine Qh ?_
  try simp only[go_sem]
  refine Qa ?_
  simp only[go_sem]
  refine Q70 (kn.e 0 rfl) (by omega) fun cs H3 k2 hk3 hk4 hu hok=>?_
  have kn:=kn.callE 0 rfl hu (R.o_ne _)
  have hx2:=kn.l 0 rfl
  simp only[go_sem,Qtf,hx2]
  intro H4 h4
  have kn:=kn.stL 0 rfl h4
  have hx2:=kn.l 0 rfl
  refine Qj ?_
  simp only[go_sem,Q6,Qab,Qub,List.mem_singleton,forall_eq,RS.op,hx2]
  exact⟨_,Qex cs,hK cs _ k2 (by omega) (by omega) kn.fin hok⟩
end Go.AE.Y

namespace Go.AE.Y
attribute [local go_sem] cond_true cond_false Bool.not_true Bool.not_false
attribute [local instance] Classical.propDecidable
open Go.Proofs.Tryz
variable {H H0:Heap}{K:V→Heap→Prop}{E B Lg:List (Nat×Obj)}{q:CodeD}
def caI (q:CodeD)(b j:Nat):List Plc:=((List.range j).filter fun i=>decide ((((Qbn q b).ins[i]?).map InsD.op).getD 0=14)).map fun (i:Nat)=>((b:Int),(i:Int))
def caTo (q:CodeD)(b:Nat):List Plc:=(List.range b).flatMap fun b=>caI q b (Qbn q b).ins.length
def caL (q:CodeD):List Plc:=caTo q q.blocks.length
theorem Qa3z {b j:Nat}(h:j<(Qbn q b).ins.length):caI q b (j+1)=caI q b j++if (Qbn q b).ins[j].op=14 then [((b:Int),(j:Int))]else []:=by
 rw[caI,caI,List.range_succ,List.filter_append,List.map_append]
 congr 1
 have e:(((Qbn q b).ins[j]?).map InsD.op).getD 0=(Qbn q b).ins[j].op:=by simp[h]
 by_cases hc:(Qbn q b).ins[j].op=14
 ·rw[if_pos hc];simp[e,hc]
 ·rw[if_neg hc];simp[e,hc]
theorem Qnz {b:Nat}:caTo q (b+1)=caTo q b++caI q b (Qbn q b).ins.length:=by simp[caTo,List.range_succ]
noncomputable def Qhn (cs:List CodeD)(k:Int):List Plc:=if hasG cs k=true then match cs[k.toNat]? with
 |some q=>caL q
 |none=>[]else []
theorem Q69 {b j:Nat}:(caI q b j).length≤j:=by
 rw[caI,List.length_map]
 exact Nat.le_trans (List.length_filter_le _ _) (by simp)
set_option maxHeartbeats 4000000 in
theorem Qtv {cs:List CodeD}{fl:Bool}{k:Int}(hfit:∀c∈cs,c.fits)(hK:∀(H':Heap),Upd H H' []→K (.c (.sl false 1 (Qbw (Qhn cs k)))) H') :
  Qv prog Qc9 [.ag [.sl fl 3 (Qp cs)],.c (.int .i64 k)] H K:=by
 refine Qz ?_
 refine Qb Qar Q79 ?_
 refine Qa ?_
 simp only[go_sem]
 refine Qa ?_
 simp only[go_sem]
 refine Q4 ?_
 refine Qa ?_
 simp only[go_sem]
 refine Qbe5 hfit fun H1 hu=>?_
 have kn:=(Kn.start0 H).call0 hu
 simp only[go_sem,Qia]
 refine Qg (Qe rfl ?_ ?_)
 ·intro hc
  have hg:hasG cs k=false:=Qrx hc
  refine Qa ?_
  simp only[go_sem]
  refine Qj ?_
  simp only[go_sem,X.next,Q6,Qab,Qgx,List.mem_singleton,forall_eq,RS.op]
  have e:Qhn cs k=[]:=by rw[Qhn,hg];simp
  have:=hK _ kn.fin
  rw[e]at this
  exact⟨_,.c _ _ FrzR.nil.sl,this⟩
 ·intro hc
  have hg:hasG cs k=true:=Qeh hc
  obtain⟨m,hm,rfl,ho⟩:=Qan7 hg
  obtain⟨q,hq⟩:∃q,cs[m]=q:=⟨_,rfl⟩
  rw[hq]at ho
  have e:Qhn cs (m:Int)=caL q:=by
   rw[Qhn,if_pos hg]
   simp[hm,hq]
  have hb1:=ho.b1
  refine Qh ?_
  try simp only[go_sem]
  refine Qa ?_
  simp only[go_sem,hm,Q1,Qak _ _ hm,CodeD.cells,hq]
  intro x6 hx6 H2 h2
  have kn:=kn.al hx6 h2
  have hx6:=kn.l 0 rfl
  simp only[go_sem,Qib,hx6]
  intro H3 h3
  have kn:Kn H H3 [] ([(x6,.st [.int .i64 q.params,.int .i64 q.regs,.sl false 5 (Qm q.blocks)])]++[]):=kn.stL 0 rfl h3
  refine Q4 ?_
  refine Qa ?_
  simp only[go_sem]
  refine Qg (Qc (Qs (fun m2 e1 H1=>∃(b:Nat) (t:C) (Lg:List (Nat×Obj)),m2=q.blocks.length-b∧b≤q.blocks.length∧(caTo q b).length≤b * 1200∧Gr Lg 1 (Qbw (caTo q b)) t∧Kn H H1 [] ([(x6,.st [.int .i64 q.params,.int .i64 q.regs,.sl false 5 (Qm q.blocks)])]++Lg)∧
   lk 5 e1=.c t∧lk 6 e1=.c (.ptr x6 0)∧lk 7 e1=.c (.int .i64 b)) q.blocks.length ?_ ?_))
  ·exact⟨0,_,[],by omega,by omega,by simp[caTo],.nil 1,kn,rfl,rfl,rfl⟩
  ·clear kn hx6
   rintro m2 e1 H4 ⟨b,t,Lg,hm2,hb,hcl,hgr,kn,l5,l6,l7⟩
   have htw:=hgr.isOw
   have hx6:=kn.l 0 rfl
   refine Q4 ?_
   refine Qa ?_
   simp only[go_sem,l5,l6,l7,hx6,htw,Qk]
   try intro _
   refine Qg (Qe rfl ?_ ?_)
   ·intro hc2
    have hlt:b<q.blocks.length:=by simpa using hc2
    obtain⟨y,hy⟩:∃y,q.blocks[b]=y:=⟨_,rfl⟩
    have hya:Qbn q b=y:=by rw[Qb5 hlt,hy]
    have hil:=ho.il b hlt
    rw[hy]at hil
    refine Qh ?_
    try simp only[go_sem]
    refine Qg (Qc ?_)
    refine Qa ?_
    simp only[go_sem,htw]
    refine Qc (Qs (fun m3 e1 H1=>∃(j:Nat) (t:C) (Lg:List (Nat×Obj)),m3=y.ins.length-j∧j≤y.ins.length∧Gr Lg 1 (Qbw (caTo q b++caI q b j)) t∧Kn H H1 [] ([(x6,.st [.int .i64 q.params,.int .i64 q.regs,.sl false 5 (Qm q.blocks)])]++Lg)∧
     lk 5 e1=.c t∧lk 6 e1=.c (.ptr x6 0)∧lk 7 e1=.c (.int .i64 b)∧lk 8 e1=.c (.int .i64 j)) y.ins.length ?_ ?_)
    ·exact⟨0,t,Lg,by omega,by omega,by simpa[caI]using hgr,kn,rfl,rfl,rfl,rfl⟩
    ·clear kn hx6 hgr htw l5 l6 l7
     rintro m3 e2 H5 ⟨j,t,Lg,hm3,hj,hgr,kn,l5,l6,l7,l8⟩
     have htw:=hgr.isOw
     have hx6:=kn.l 0 rfl
     refine Q4 ?_
     refine Qa ?_
     simp only[go_sem,l5,l6,l7,l8,hx6,htw,hlt,Qk,Q7 _ _ hlt,BlkD.cells,hy,Qan]
     try intro _
     refine Qg (Qe rfl ?_ ?_)
     ·intro hc3
      have hlt3:j<y.ins.length:=by simpa using hc3
      obtain⟨x,hx⟩:∃x,y.ins[j]=x:=⟨_,rfl⟩
      have hsucc:caI q b (j+1)=caI q b j++if x.op=14 then [((b:Int),(j:Int))]else []:=by
       have:=Qa3z (q:=q) (b:=b) (j:=j) (by rw[hya];exact hlt3)
       simp only[hya,hx]at this
       exact this
      have hlen:=Q69 (q:=q) (b:=b) (j:=j)
      refine Qh ?_
      try simp only[go_sem]
      refine Qdm (fun e2 H2=>∃(t:C) (Lg:List (Nat×Obj)),Gr Lg 1 (Qbw (caTo q b++caI q b (j+1))) t∧Kn H H2 [] ([(x6,.st [.int .i64 q.params,.int .i64 q.regs,.sl false 5 (Qm q.blocks)])]++Lg)∧
       lk 5 e2=.c t∧lk 6 e2=.c (.ptr x6 0)∧lk 7 e2=.c (.int .i64 b)∧lk 8 e2=.c (.int .i64 j)) ?_ ?_
      ·intro Q hnr _ _
       refine Qc ?_
       refine Qa ?_
       simp only[go_sem,l5,l6,l7,l8,hx6,htw,hlt,Qk,Q7 _ _ hlt,BlkD.cells,hy,hlt3,Qan,Qbs _ _ hlt3,InsD.cells,hx]
       refine Qe rfl ?_ ?_
       ·intro hc4
        have h14:x.op=14:=by simpa using hc4
        refine Qq ?_
        simp only[go_sem,htw]
        refine kn.growR (new:=Qbw [((b:Int),(j:Int))]) hgr (.mk' _ _ _ _) (Qdj _) (by
         simp only[Qca,List.length_append,LIM,List.length_cons,List.length_nil]
         have:b * 1200≤160 * 1200:=Nat.mul_le_mul_right _ (by omega)
         omega) fun t2 Lg2 H6 hgr2 ht2 kn=>?_
        simp only[go_sem,Qic,ht2]
        refine hnr _ _ ⟨t2,Lg2,?_,kn,rfl,rfl,rfl,rfl⟩
        rw[hsucc,if_pos h14,←List.append_assoc]
        have:Qbw (caTo q b++caI q b j++[((b:Int),(j:Int))])=Qbw (caTo q b++caI q b j)++Qbw [((b:Int),(j:Int))]:=by simp[Qbw]
        rw[this];exact hgr2
       ·intro hc4
        have h14:¬x.op=14:=by simpa using hc4
        refine Qh ?_
        try simp only[go_sem]
        refine hnr _ _ ⟨t,Lg,?_,kn,rfl,rfl,rfl,rfl⟩
        rw[hsucc,if_neg h14,List.append_nil];exact hgr
      ·rintro e3 H6 ⟨t,Lg,hgr,kn,l5,l6,l7,l8⟩
       have htw:=hgr.isOw
       refine Qq ?_
       simp only[go_sem,l5,l6,l7,l8,htw]
       refine⟨Qo (by omega) (by omega),?_⟩
       show ∃m,_
       exact⟨y.ins.length-(j+1),by omega,j+1,t,Lg,rfl,by omega,hgr,kn,rfl,rfl,rfl,rfl⟩
     ·intro hc3
      have hje:j=y.ins.length:=by have:y.ins.length≤j:=(by simpa using hc3);omega
      subst hje
      have hlen:=Q69 (q:=q) (b:=b) (j:=y.ins.length)
      refine Qr ?_
      simp only[go_sem,X.next]
      refine Qq ?_
      simp only[go_sem,l5,l6,l7,htw]
      refine⟨Qo (by omega) (by omega),?_⟩
      show ∃m,_
      refine⟨q.blocks.length-(b+1),by omega,b+1,t,Lg,rfl,by omega,?_,?_,kn,rfl,rfl,rfl⟩
      ·rw[Qnz,hya,List.length_append,Nat.succ_mul];omega
      ·rw[Qnz,hya];exact hgr
   ·intro hc2
    have hbe:b=q.blocks.length:=by have:q.blocks.length≤b:=(by simpa using hc2);omega
    subst hbe
    refine Qr ?_
    simp only[go_sem,X.next]
    refine Qa ?_
    simp only[go_sem,l5,htw]
    refine Qj ?_
    simp only[go_sem,Q6,Qab,Qgx,List.mem_singleton,forall_eq,RS.op,htw]
    have:=hK _ kn.fin
    rw[e]at this
    exact⟨_,.c _ _ (hgr.frz kn (Qdj _)),this⟩
set_option maxHeartbeats 4000000 in
theorem Qa96 {R:Rdr}{k:Nat}(hH:H R.l=R.o k)(hk:k+40000000≤2^30)
  (hK:∀(cs:List CodeD) (H':Heap) (k':Nat),k<k'→k'≤k+39000000→Upd H H' [(R.l,R.o k')]→UnitOk cs→K (.ag [.sl false 3 (Qp cs)]) H') :
  Qv prog Qzf [.c (.ptr R.l 0)] H K:=by
 refine Qz ?_
 refine Qb Qar Qbaz ?_
 refine Qa ?_
 simp only[go_sem]
 intro x2 hx2 H1 h1
 have kn:=(Kn.start1 hH (R.o_ne k)).al hx2 h1
 refine Q4 ?_
 refine Qa ?_
 simp only[go_sem]
 refine Qg (Qc (Qs (fun m e1 H1=>∃(i k':Nat) (L:List (Nat×Obj)),m=4-i∧i≤4∧k≤k'∧k'≤k+i * 7300000∧Kn H H1 [(R.l,R.o k')] ([(x2,.st [.sl true 3 []])]++L)∧
  lk 0 e1=.c (.ptr R.l 0)∧lk 2 e1=.c (.ptr x2 0)∧lk 4 e1=.c (.int .i64 i)) 4 ?_ ?_))
 ·exact⟨0,k,[],by omega,by omega,by omega,by omega,kn,rfl,rfl,rfl⟩
 ·clear kn
  rintro m e1 H2 ⟨i,k1,L,hm,hi,hk1,hk2,kn,l0,l2,l4⟩
  have hx2:=kn.l 0 rfl
  refine Qa ?_
  simp only[go_sem,l0,l2,l4]
  refine Qg (Qe rfl ?_ ?_)
  ·intro hc
   have hlt:i<4:=by
    have:=of_decide_eq_true hc
    omega
   refine Qh ?_
   try simp only[go_sem]
   refine Qg (Qc ?_)
   refine Qa ?_
   simp only[go_sem]
   refine Qawo (kn.e 0 rfl) (by omega) fun cs H3 k3 hk3 hk4 hu hok=>?_
   have kn:=kn.callE 0 rfl hu (R.o_ne _)
   simp only[go_sem,Q3g]
   intro x3 hx3 H4 h4
   have kn:=(kn.al hx3 h4).perm List.perm_append_comm
   have hx3:=kn.l 0 rfl
   simp only[go_sem,Q3f,hx3]
   intro H5 h5
   have kn:Kn H H5 [(R.l,R.o k3)] ([(x2,.st [.sl true 3 []])]++([(x3,.st [.sl false 3 (Qp cs)])]++L)):=
    (kn.stL 0 rfl h5).perm (Qy fun f hf h0 hc hp=>by
     show f ([(x3,_)]++([(x2,_)]++L))=_
     simp only[hf];omega)
   have hx3:=kn.l 1 rfl
   obtain⟨u0,u4,ugd⟩:=hok
   have hi1:((cs.length:Int)-1)=((cs.length-1:Nat):Int):=by omega
   have hcsf:∀c∈cs,c.fits:=fun c hc=>(ugd c hc).f
   refine Qdm (fun e2 H2=>∃(bb:Bool),Kn H H2 [(R.l,R.o k3)] ([(x2,.st [.sl true 3 []])]++([(x3,.st [.sl false 3 (Qp cs)])]++L))∧lk 0 e2=.c (.ptr R.l 0)∧lk 2 e2=.c (.ptr x2 0)∧lk 3 e2=.c (.ptr x3 0)∧lk 4 e2=.c (.int .i64 i)∧lk 21 e2=.c (.bool bb)) ?_ ?_
   ·intro Q hnr _ _
    refine Qq ?_
    simp only[go_sem,hx3,Q1]
    intro _ _
    refine⟨fun _=>Qo (by omega) (by omega),fun h=>?_,fun h=>?_⟩
    ·refine Qtv hcsf fun H6 hu=>?_
     have kn:=kn.call0 hu
     simp only[go_sem,Qo0,h]
     try intro _
     exact hnr _ _ ⟨_,kn,rfl,rfl,rfl,rfl,rfl⟩
    ·simp only[go_sem,Qo0,h]
     try intro _
     exact hnr _ _ ⟨_,kn,rfl,rfl,rfl,rfl,rfl⟩
   ·rintro e2 H6 ⟨bb,kn,l0,l2,l3,l4,l21⟩
    refine Qe (c:=bb) l21 ?_ ?_
    ·intro _
     have hx2:=kn.l 0 rfl
     have hx3:=kn.l 1 rfl
     refine Qa ?_
     simp only[go_sem,l0,l2,l3,l4,hx2,hx3]
     intro H7 h7
     have kn:=kn.stL 0 rfl h7
     have hx2:=kn.l 0 rfl
     refine Qj ?_
     simp only[go_sem,X.next,Q6,Qab,Q8y,List.mem_singleton,forall_eq,RS.op,hx2]
     exact⟨_,Qex cs,hK cs _ k3 (by omega) (by omega) kn.fin ⟨u0,u4,ugd⟩⟩
    ·intro _
     refine Qh ?_
     try simp only[go_sem]
     refine Qq ?_
     simp only[go_sem,l0,l2,l3,l4]
     refine⟨Qo (by omega) (by omega),?_⟩
     show ∃m,_
     exact⟨4-(i+1),by omega,i+1,k3,_,rfl,by omega,by omega,by omega,kn,rfl,rfl,rfl⟩
  ·intro _
   refine Qr ?_
   simp only[go_sem,X.next]
   refine Qa ?_
   simp only[go_sem,l0,l2]
   refine Q70 (kn.e 0 rfl) (by omega) fun cs H3 k3 hk3 hk4 hu hok=>?_
   have kn:=kn.callE 0 rfl hu (R.o_ne _)
   have hx2:=kn.l 0 rfl
   simp only[go_sem,Q3h,hx2]
   intro H4 h4
   have kn:=kn.stL 0 rfl h4
   have hx2:=kn.l 0 rfl
   refine Qj ?_
   simp only[go_sem,Q6,Qab,Q8y,List.mem_singleton,forall_eq,RS.op,hx2]
   exact⟨_,Qex cs,hK cs _ k3 (by omega) (by omega) kn.fin hok⟩
end Go.AE.Y

namespace Go.AE.Y
attribute [local go_sem] cond_true cond_false Bool.not_true Bool.not_false
attribute [local instance] Classical.propDecidable
open Go.Proofs.Tryz
variable {H H0:Heap}{K:V→Heap→Prop}{E B Lg:List (Nat×Obj)}{q:CodeD}
def bks (q:CodeD):Nat:=q.blocks.length
noncomputable def blocksI (cs:List CodeD):Int:=if Qcb cs=true then (Qkd bks cs:Nat)else -1
end Go.AE.Y

namespace Go.AE.Y
attribute [local go_sem] cond_true cond_false Bool.not_true Bool.not_false
attribute [local instance] Classical.propDecidable
open Go.Proofs.Tryz
variable {H H0:Heap}{K:V→Heap→Prop}{E B Lg:List (Nat×Obj)}{q:CodeD}
noncomputable def sizeI (cs:List CodeD)(k:Int):Int:=if hasG cs k=true then match cs[k.toNat]? with
 |some q=>(Q6u q:Nat)
 |none=>-1 else -1
end Go.AE.Y

namespace Go.AE.Y
attribute [local go_sem] cond_true cond_false Bool.not_true Bool.not_false
attribute [local instance] Classical.propDecidable
open Go.Proofs.Tryz
variable {H H0:Heap}{K:V→Heap→Prop}{E B Lg:List (Nat×Obj)}{q:CodeD}
section
variable {P:Program}{e:Env}{its r:List Item}{KK:Env→Heap→Prop}{d:Option Nat}{t:Nat}{w:Bool}{op:FOp}
def isF:Item→Bool
 |.f ..=>true
 |_=>false
end
set_option maxHeartbeats 4000000 in
theorem Q1g (ho:q.ok)(hK:∀(H':Heap),Upd H H' []→K (.c (.sl false 1 (Qbw (caL q)))) H'):Qv prog Qc7 [.ag q.cells] H K:=by
 refine Qz ?_
 have kn:=Kn.start0 H
 have hb1:=ho.b1
 simp only[CodeD.cells]
 refine Qb Qar Q77 ?_
 refine Qa ?_
 simp only[go_sem]
 refine Qa ?_
 simp only[go_sem]
 refine Q4 ?_
 refine Qa ?_
 simp only[go_sem,Qk]
 try intro _
 refine Qg (Qc (Qs (fun m2 e1 H1=>∃(b:Nat) (t:C) (Lg:List (Nat×Obj)),m2=q.blocks.length-b∧b≤q.blocks.length∧(caTo q b).length≤b * 1200∧Gr Lg 1 (Qbw (caTo q b)) t∧Kn H H1 [] ([]++Lg)∧
  lk 3 e1=.c t∧lk 9 e1=.c (.sl false 5 (Qm q.blocks))∧lk 10 e1=.c (.int .i64 q.blocks.length)∧lk 11 e1=.c (.int .i64 b)) q.blocks.length ?_ ?_))
 ·exact⟨0,_,[],by omega,by omega,by simp[caTo],.nil 1,kn,rfl,rfl,rfl,rfl⟩
 ·clear kn
  rintro m2 e1 H4 ⟨b,t,Lg,hm2,hb,hcl,hgr,kn,l3,l9,l10,l11⟩
  have htw:=hgr.isOw
  refine Qa ?_
  simp only[go_sem,l3,l9,l10,l11,htw]
  refine Qg (Qe rfl ?_ ?_)
  ·intro hc2
   have hlt:b<q.blocks.length:=by simpa using hc2
   obtain⟨y,hy⟩:∃y,q.blocks[b]=y:=⟨_,rfl⟩
   have hya:Qbn q b=y:=by rw[Qb5 hlt,hy]
   have hil:=ho.il b hlt
   rw[hy]at hil
   refine Qh ?_
   try simp only[go_sem]
   refine Qg (Qc ?_)
   refine Qa ?_
   simp only[go_sem,htw,hlt,Qk,Q7 _ _ hlt,BlkD.cells,hy]
   intro x5 hx5 H5 h5
   have kn:=kn.al hx5 h5
   have hx5:H5 x5=.st [.sl true 2 [],.sl true 4 [],.int .i64 0,.int .i64 0,.sl true 1 []]:=(kn.get (x5,.st [.sl true 2 [],.sl true 4 [],.int .i64 0,.int .i64 0,.sl true 1 []]) (by simp)).1
   simp only[go_sem,Qh4,hx5,htw]
   intro H6 h6
   have kn:Kn H H5 [] ([(x5,.st [.sl true 2 [],.sl true 4 [],.int .i64 0,.int .i64 0,.sl true 1 []])]++Lg):=kn.perm (by simp)
   have kn:Kn H H6 [] ([(x5,.st [.sl false 2 (Qaj y.phis),.sl false 4 (Qbo y.ins),.int .i64 y.jump,.int .i64 y.on,.sl false 1 (Qf y.next)])]++Lg):=kn.stL 0 rfl h6
   have hx5:H6 x5=.st [.sl false 2 (Qaj y.phis),.sl false 4 (Qbo y.ins),.int .i64 y.jump,.int .i64 y.on,.sl false 1 (Qf y.next)]:=kn.l 0 rfl
   refine Qa ?_
   simp only[go_sem,hx5,htw,Qan]
   try intro _
   refine Qc (Qs (fun m3 e1 H1=>∃(j:Nat) (t:C) (Lg:List (Nat×Obj)),m3=y.ins.length-j∧j≤y.ins.length∧Gr Lg 1 (Qbw (caTo q b++caI q b j)) t∧Kn H H1 [] ([]++Lg)∧
    lk 3 e1=.c t∧lk 4 e1=.c (.int .i64 b)∧lk 9 e1=.c (.sl false 5 (Qm q.blocks))∧lk 10 e1=.c (.int .i64 q.blocks.length)∧lk 11 e1=.c (.int .i64 b)∧
    lk 17 e1=.c (.sl false 4 (Qbo y.ins))∧lk 18 e1=.c (.int .i64 y.ins.length)∧lk 19 e1=.c (.int .i64 j)) y.ins.length ?_ ?_)
   ·exact⟨0,t,Lg,by omega,by omega,by simpa[caI]using hgr,Kn.drop (B:=[(x5,_)]) (kn.perm (by simpa using List.perm_append_comm (l₁:=[(x5,_)]) (l₂:=Lg))),rfl,rfl,rfl,rfl,rfl,rfl,rfl,rfl⟩
   ·clear kn hx5 hgr htw l3 l9 l10 l11
    rintro m3 e2 H7 ⟨j,t,Lg,hm3,hj,hgr,kn,l3,l4,l9,l10,l11,l17,l18,l19⟩
    have htw:=hgr.isOw
    refine Qa ?_
    simp only[go_sem,l3,l4,l9,l10,l11,l17,l18,l19,htw]
    refine Qg (Qe rfl ?_ ?_)
    ·intro hc3
     have hlt3:j<y.ins.length:=by simpa using hc3
     obtain⟨x,hx⟩:∃x,y.ins[j]=x:=⟨_,rfl⟩
     have hsucc:caI q b (j+1)=caI q b j++if x.op=14 then [((b:Int),(j:Int))]else []:=by
      have:=Qa3z (q:=q) (b:=b) (j:=j) (by rw[hya];exact hlt3)
      simp only[hya,hx]at this
      exact this
     have hlen:=Q69 (q:=q) (b:=b) (j:=j)
     refine Qh ?_
     try simp only[go_sem]
     refine Qdm (fun e2 H2=>∃(t:C) (Lg:List (Nat×Obj)),Gr Lg 1 (Qbw (caTo q b++caI q b (j+1))) t∧Kn H H2 [] ([]++Lg)∧
      lk 3 e2=.c t∧lk 4 e2=.c (.int .i64 b)∧lk 9 e2=.c (.sl false 5 (Qm q.blocks))∧lk 10 e2=.c (.int .i64 q.blocks.length)∧lk 11 e2=.c (.int .i64 b)∧
      lk 17 e2=.c (.sl false 4 (Qbo y.ins))∧lk 18 e2=.c (.int .i64 y.ins.length)∧lk 19 e2=.c (.int .i64 j)) ?_ ?_
     ·intro Q hnr _ _
      refine Qc ?_
      refine Qa ?_
      simp only[go_sem,l3,l4,l9,l10,l11,l17,l18,l19,htw,hlt3,Qan,Qbs _ _ hlt3,InsD.cells,hx]
      intro x7 hx7 H8 h8
      have kn:=kn.al hx7 h8
      have hx7:H8 x7=.st [.int .i64 0,.int .i64 0,.sl true 1 [],.int .i64 0]:=(kn.get (x7,.st [.int .i64 0,.int .i64 0,.sl true 1 [],.int .i64 0]) (by simp)).1
      simp only[go_sem,Qh5,hx7,htw]
      intro H9 h9
      have kn:Kn H H8 [] ([(x7,.st [.int .i64 0,.int .i64 0,.sl true 1 [],.int .i64 0])]++Lg):=kn.perm (by simp)
      have kn:Kn H H9 [] ([(x7,.st [.int .i64 x.op,.int .i64 x.to,.sl false 1 (Qf x.args),.int .i64 x.n])]++Lg):=kn.stL 0 rfl h9
      have hx7:H9 x7=.st [.int .i64 x.op,.int .i64 x.to,.sl false 1 (Qf x.args),.int .i64 x.n]:=kn.l 0 rfl
      refine Qa ?_
      simp only[go_sem,hx7,htw]
      refine Qe rfl ?_ ?_
      ·intro hc4
       have h14:x.op=14:=by simpa using hc4
       refine Qq ?_
       simp only[go_sem,htw]
       refine kn.growR (new:=Qbw [((b:Int),(j:Int))]) hgr (.mk' _ _ _ _) (Qdj _) (by
        simp only[Qca,List.length_append,LIM,List.length_cons,List.length_nil]
        have:b * 1200≤160 * 1200:=Nat.mul_le_mul_right _ (by omega)
        omega) fun t2 Lg2 H10 hgr2 ht2 kn=>?_
       simp only[go_sem,Qh6,ht2]
       refine hnr _ _ ⟨t2,Lg2,?_,Kn.drop (B:=[(x7,_)]) (kn.perm (by simpa using List.perm_append_comm (l₁:=[(x7,_)]) (l₂:=Lg2))),rfl,rfl,rfl,rfl,rfl,rfl,rfl,rfl⟩
       rw[hsucc,if_pos h14,←List.append_assoc]
       have:Qbw (caTo q b++caI q b j++[((b:Int),(j:Int))])=Qbw (caTo q b++caI q b j)++Qbw [((b:Int),(j:Int))]:=by simp[Qbw]
       rw[this];exact hgr2
      ·intro hc4
       have h14:¬x.op=14:=by simpa using hc4
       refine Qh ?_
       try simp only[go_sem]
       refine hnr _ _ ⟨t,Lg,?_,Kn.drop (B:=[(x7,_)]) (kn.perm (by simpa using List.perm_append_comm (l₁:=[(x7,_)]) (l₂:=Lg))),rfl,rfl,rfl,rfl,rfl,rfl,rfl,rfl⟩
       rw[hsucc,if_neg h14,List.append_nil];exact hgr
     ·rintro e3 H6 ⟨t,Lg,hgr,kn,l3,l4,l9,l10,l11,l17,l18,l19⟩
      have htw:=hgr.isOw
      refine Qq ?_
      simp only[go_sem,l3,l4,l9,l10,l11,l17,l18,l19,htw]
      refine⟨Qo (by omega) (by omega),?_⟩
      show ∃m,_
      exact⟨y.ins.length-(j+1),by omega,j+1,t,Lg,rfl,by omega,hgr,kn,rfl,rfl,rfl,rfl,rfl,rfl,rfl,rfl⟩
    ·intro hc3
     have hje:j=y.ins.length:=by have:y.ins.length≤j:=(by simpa using hc3);omega
     subst hje
     have hlen:=Q69 (q:=q) (b:=b) (j:=y.ins.length)
     refine Qr ?_
     simp only[go_sem,X.next]
     refine Qq ?_
     simp only[go_sem,l3,l9,l10,l11,htw]
     refine⟨Qo (by omega) (by omega),?_⟩
     show ∃m,_
     refine⟨q.blocks.length-(b+1),by omega,b+1,t,Lg,rfl,by omega,?_,?_,kn,rfl,rfl,rfl,rfl⟩
     ·rw[Qnz,hya,List.length_append,Nat.succ_mul];omega
     ·rw[Qnz,hya];exact hgr
  ·intro hc2
   have hbe:b=q.blocks.length:=by have:q.blocks.length≤b:=(by simpa using hc2);omega
   subst hbe
   refine Qr ?_
   simp only[go_sem,X.next]
   refine Qa ?_
   simp only[go_sem,l3,htw]
   refine Qj ?_
   simp only[go_sem,Q6,Qab,Qok,List.mem_singleton,forall_eq,RS.op,htw]
   exact⟨_,.c _ _ (hgr.frz kn (Qdj _)),hK _ kn.fin⟩
theorem Qaek {cs:List CodeD}{fl:Bool}{k:Int}(hfit:∀c∈cs,c.fits)(hK:∀(H':Heap),Upd H H' []→K (.c (.sl false 1 (Qbw (Qhn cs k)))) H') :
  Qv prog Qfc [.ag [.sl fl 3 (Qp cs)],.c (.int .i64 k)] H K:=by
 refine Qz ?_
 refine Qb Qar Q76 ?_
 refine Qa ?_
 simp only[go_sem]
 refine Q4 ?_
 refine Qa ?_
 simp only[go_sem]
 refine Qbea hfit fun H1 hu=>?_
 have kn:=(Kn.start0 H).call0 hu
 simp only[go_sem,Qh2]
 refine Qg (Qe rfl ?_ ?_)
 ·intro hc
  have hg:hasG cs k=false:=Qrx hc
  refine Qa ?_
  simp only[go_sem]
  refine Qj ?_
  simp only[go_sem,X.next,Q6,Qab,Qgs,List.mem_singleton,forall_eq,RS.op]
  have e:Qhn cs k=[]:=by rw[Qhn,hg];simp
  have:=hK _ kn.fin
  rw[e]at this
  exact⟨_,.c _ _ FrzR.nil.sl,this⟩
 ·intro hc
  have hg:hasG cs k=true:=Qeh hc
  obtain⟨m,hm,rfl,ho⟩:=Qan7 hg
  obtain⟨q,hq⟩:∃q,cs[m]=q:=⟨_,rfl⟩
  rw[hq]at ho
  have e:Qhn cs (m:Int)=caL q:=by
   rw[Qhn,if_pos hg]
   simp[hm,hq]
  refine Qh ?_
  try simp only[go_sem]
  refine Qa ?_
  simp only[go_sem,hm,Q1,Qak _ _ hm,CodeD.cells,hq]
  refine Q1g ho fun H2 hu=>?_
  have kn:=kn.call0 hu
  simp only[go_sem,Qh3]
  refine Qj ?_
  simp only[go_sem,Q6,Qab,Qgs,List.mem_singleton,forall_eq,RS.op]
  have:=hK _ kn.fin
  rw[e]at this
  exact⟨_,.c _ _ (Qip (noOw_mem (Qdj _))),this⟩
theorem Qbie {b j:Nat}{p:Plc}(h:p∈caI q b j):∃i:Nat,p=((b:Int),(i:Int))∧i<j∧(((Qbn q b).ins[i]?).map InsD.op).getD 0=14:=by
 simp only[caI,List.mem_map,List.mem_filter,List.mem_range,decide_eq_true_eq]at h
 obtain⟨i,⟨h1,h2⟩,rfl⟩:=h
 exact⟨i,rfl,h1,h2⟩
theorem Qbd9 {n:Nat}{p:Plc}(h:p∈caTo q n):∃b i:Nat,p=((b:Int),(i:Int))∧b<n∧i<(Qbn q b).ins.length∧(((Qbn q b).ins[i]?).map InsD.op).getD 0=14:=by
 simp only[caTo,List.mem_flatMap,List.mem_range]at h
 obtain⟨b,hb,h⟩:=h
 obtain⟨i,h1,h2,h3⟩:=Qbie h
 exact⟨b,i,h1,hb,h2,h3⟩
def plcLt (p r:Plc):Prop:=p.1<r.1∨(p.1=r.1∧p.2<r.2)
end Go.AE.Y

namespace Go.AE.Y
open Go.Proofs.Tryz
attribute [local instance] Classical.propDecidable
def Qzm (q:CodeD)(p:Plc):InsD:=((Qbn q p.1.toNat).ins[p.2.toNat]?).getD ⟨0,0,[],0⟩
def kcN (q:CodeD):List Nat:=(caL q).map fun p=>(Qzm q p).n.toNat
def cdAt (cs:List CodeD)(k:Nat):CodeD:=(cs[k]?).getD ⟨0,0,[]⟩
theorem Qaja {cs:List CodeD}{k:Nat}(h:k<cs.length):cdAt cs k=cs[k]:=by simp[cdAt,h]
inductive Nd (cs:List CodeD):Nat→Prop
 |top:Nd cs (cs.length-1)
 |to {k n:Nat}:Nd cs k→n∈kcN (cdAt cs k)→Nd cs n
noncomputable def Qjf (cs:List CodeD):List Nat:=ascL cs.length (Nd cs)
theorem Qanw {q:CodeD}{p:Plc}(h:p∈caL q):∃b i:Nat,p=((b:Int),(i:Int))∧∃(hb:b<q.blocks.length) (hi:i<q.blocks[b].ins.length),q.blocks[b].ins[i].op=14∧Qzm q p=q.blocks[b].ins[i]:=by
 obtain⟨b,i,rfl,hb,hi,ho⟩:=Qbd9 h
 rw[Qb5 hb]at hi ho
 rw[List.getElem?_eq_getElem hi]at ho
 refine⟨b,i,rfl,hb,hi,by simpa using ho,?_⟩
 simp only[Qzm,Int.toNat_natCast,Qb5 hb,List.getElem?_eq_getElem hi,Option.getD_some]
theorem Qai9 {cs:List CodeD}(h:Qcb cs=true){k b i:Nat}(hk:k<cs.length)(hb:b<cs[k].blocks.length)(hi:i<cs[k].blocks[b].ins.length)(ho:cs[k].blocks[b].ins[i].op=14) :
  ∃n:Nat,cs[k].blocks[b].ins[i].n=n∧n<k:=by
 obtain⟨_,h2,_⟩:=of_decide_eq_true h
 obtain⟨_,g2⟩:=h2 k hk
 have g:=g2 b hb
 simp only[blkG,Bool.and_eq_true,List.all_eq_true]at g
 have gi:=g.1.2 _ (List.getElem_mem hi)
 simp only[insG,Bool.and_eq_true,insL,ho,if_true,decide_eq_true_eq]at gi
 have:=gi.2.1
 exact⟨(cs[k].blocks[b].ins[i].n).toNat,by omega,by omega⟩
theorem Qbi5 {cs:List CodeD}(h:Qcb cs=true){k n:Nat}(hk:k<cs.length)(hn:n∈kcN (cdAt cs k)):n<k:=by
 obtain⟨p,hp,rfl⟩:=List.mem_map.1 hn
 rw[Qaja hk]at hp⊢
 obtain⟨b,i,rfl,hb,hi,ho,he⟩:=Qanw hp
 obtain⟨n,hn,hlt⟩:=Qai9 h hk hb hi ho
 rw[he,hn];exact hlt
theorem Qa56 {cs:List CodeD}(h:Qcb cs=true){n:Nat}(hn:Nd cs n):n<cs.length:=by
 have h0:=(of_decide_eq_true h).1
 induction hn with
 |top=>omega
 |to _ h1 ih=>have:=Qbi5 h ih h1;omega
theorem Qog {cs:List CodeD}(h:Qcb cs=true){n:Nat}:n∈Qjf cs↔Nd cs n:=by
 rw[Qjf,Qbd6]
 exact⟨fun x=>x.2,fun x=>⟨Qa56 h x,x⟩⟩
theorem Q8f {cs:List CodeD}:(Qjf cs).Pairwise (· < ·):=Qbd5
theorem Qbmh {cs:List CodeD}{S:Nat→Prop}(h0:S (cs.length-1))(h1:∀k,S k→∀n∈kcN (cdAt cs k),S n){n:Nat}(hn:Nd cs n):S n:=by
 induction hn with
 |top=>exact h0
 |to _ h ih=>exact h1 _ ih _ h
theorem Qbbg {cs:List CodeD}(h:Qcb cs=true){l:List Nat}(ha:l.Pairwise (· < ·))(h0:cs.length-1∈l)(h1:∀k∈l,∀n∈kcN (cdAt cs k),n∈l)(h2:∀k∈l,Nd cs k):l=Qjf cs:=
 Qa3w ha Q8f fun n=>⟨fun x=>(Qog h).2 (h2 n x),fun x=>Qbmh (S:=(·∈l)) h0 h1 ((Qog h).1 x)⟩
theorem Qa57 {cs:List CodeD}(h:Qcb cs=true):0<(Qjf cs).length∧∀(hn:(Qjf cs).length-1<(Qjf cs).length),(Qjf cs)[(Qjf cs).length-1]=cs.length-1:=by
 have hm:cs.length-1∈Qjf cs:=(Qog h).2 .top
 obtain⟨i,hi,he⟩:=List.mem_iff_getElem.1 hm
 refine⟨by omega,fun hn=>?_⟩
 have hl:=Qa56 h ((Qog h).1 (List.getElem_mem hn))
 by_cases hii:i=(Qjf cs).length-1
 ·subst hii;exact he
 ·have:=List.pairwise_iff_getElem.1 (Q8f (cs:=cs)) i ((Qjf cs).length-1) hi hn (by omega)
  omega
theorem Qbf2 {cs:List CodeD}:(Qjf cs).length≤cs.length:=Qbh9
end Go.AE.Y

namespace Go.AE.Y
open Go.Proofs.Tryz
def Qgy:List Item:=[oJ 5 4]
def Qwo:SC:=cT 5 (sR [fI 2 (.mv (.k (.c (.sl true 1 []))))] [2] .ret) .skip
def Qgz:List Item:=[mJ 2 7]
def Qwp:SC:=sR (tJ 6 1 1::aJ 7 Qec [.t 6]::Qgz) [2] .ret
def Qwq:SC:=.seq (sR (tJ 3 1 1::aJ 4 Qcj [.t 3]::Qgy) [1,5] Qwo) Qwp
def Q41:SC:=sR [vJ 1 0,fI 2 (.mv (.k (.c (.sl true 1 []))))] [1] Qwq
def Qff:List RS:=[.tmp 2]
theorem Q4t:mFn prog Qeb 1 8 Q41 Qff=true:=by kernel_rfl
def Qos:List Item:=[sJ 1 5 9]
def Qot:List Item:=eI 5 (.alloc [.mnil])::Qos
def Qae5:SC:=.reg [lJ 17 6,mJ 18 8,eI 19 (.callv (.t 17) [.t 18])] [5,6,11,12,13]
def Qae6:SC:=.reg [cJ 20 .add 13 1,mJ 13 20] [5,6,11,12,13]
def Qae7:SC:=.seq (.block 1 (sR [iJ 15 1 11 13,lJ 16 15,mJ 8 16] [5,6,8,11,12,13] Qae5)) Qae6
def Q9l:SC:=sR [bJ 14 .lss 13 12] [5,6,11,12,13,14] (cX 14 0 Qae7)
def Qou:List Item:=[mJ 4 22]
def Qae8:SC:=sR (lJ 21 5::aJ 22 Qbt [.t 21]::Qou) [4] .ret
def Qae9:SC:=.seq (sR [mJ 11 0,nJ 12 11,zJ 13 0] [5,6,11,12,13] (bL 0 Q9l)) Qae8
def Qafa:SC:=sR [fI 10 (.mkf Qc8 [.t 5,.t 3,.t 6]),sJ 1 6 10] [0,5,6] Qae9
def Q9i:SC:=sR [eI 6 (.alloc [.fnil])] [0,3,5,6] Qafa
def Q9j:SC:=sR (eI 9 (.mkm)::Qot) [0,3,5] Q9i
def Qapj:SC:=sR [vJ 3 1,fI 4 (.mv (.k (.c (.sl true 1 []))))] [0,3] Q9j
def Q1m:List RS:=[.tmp 4]
theorem Qaog:mFn prog Qkl 2 23 Qapj Q1m=true:=by kernel_rfl
def Qh7:List Item:=[nJ 16 15,zJ 17 0]
def Q0a:SC:=.reg [lJ 21 3,mJ 22 6,eI 23 (.callv (.t 21) [.t 22])] [3,15,16,17]
def Q0b:SC:=.reg [cJ 24 .add 17 1,mJ 17 24] [3,15,16,17]
def Q0c:SC:=.seq (.block 1 (sR [iJ 19 1 15 17,lJ 20 19,mJ 6 20] [3,6,15,16,17] Q0a)) Q0b
def Qwx:SC:=sR [bJ 18 .lss 17 16] [3,15,16,17,18] (cX 18 0 Q0c)
def Q0d:SC:=sR (lJ 13 2::mJ 14 0::eI 15 (.callv (.t 13) [.t 14])::Qh7) [3,15,16,17] (bL 0 Qwx)
def Q0e:SC:=cT 10 (sR [lJ 11 1,mJ 12 0,.e none none (.upd 0 (.t 11) (.t 12) (.k (.c (.bool true))))] [0,2,3] Q0d) .skip
def Q9k:SC:=sR [lJ 7 1,mJ 8 0,fI 9 (.lup 0 (.c (.bool false)) (.t 7) (.t 8)),oJ 10 9] [0,1,2,3,10] Q0e
def Qgt:List RS:=[]
theorem Q78:mFn prog Qc8 4 25 Q9k Qgt=true:=by kernel_rfl
def Qg3:List Item:=[mJ 2 9]
def Qwy:SC:=sR (fJ 3 0 1::lJ 4 3::nJ 5 4::cJ 6 .sub 5 1::fI 7 (.bsl 1 [.t 6])::fI 8 (.mkf Qbi [.t 1])::aJ 9 Qkl [.t 7,.t 8]::Qg3) [2] .ret
def Q5i:SC:=sR [vJ 1 0,fI 2 (.mv (.k (.c (.sl true 1 []))))] [1] Qwy
def Qli:List RS:=[.tmp 2]
theorem Q4u:mFn prog Qec 1 10 Q5i Qli=true:=by kernel_rfl
def Qd3:List Item:=[sJ 3 4 9]
def Qd4:List Item:=[mJ 3 13]
def Qd5:List Item:=fI 12 (.mkf Qa4 [.t 4])::aJ 13 Qck [.t 11,.t 12]::Qd4
def Qox:SC:=sR (tJ 10 3 4::aJ 11 Qc7 [.t 10]::Qd5) [3] .ret
def Qoy:SC:=sR (fJ 5 0 1::lJ 6 5::mJ 7 0::iJ 8 3 6 7::tJ 9 3 8::eI 4 (.alloc [.int .i64 0,.int .i64 0,.sl true 5 []])::Qd3) [4] Qox
def Quj:SC:=sR [fI 3 (.mv (.k (.c (.sl true 1 []))))] [0,1] Qoy
def Qgv:List RS:=[.tmp 3]
theorem Qt8:mFn prog Qbi 2 14 Quj Qgv=true:=by kernel_rfl
def Qjx:SC:=.seq (.dreg 15 [0,1,2,3,4,5,6,7,8,9,10,11,12,13,14] ( fJ 4 2 1::lJ 5 4::mJ 6 0::fI 7 (.iad 1 (.t 6) (kI 0))::lJ 8 7::iJ 9 5 5 8::fJ 10 1 9::lJ 11 10::mJ 12 0::fI 13 (.iad 1 (.t 12) (kI 1))::lJ 14 13::iJ 15 4 11 14::fJ 16 3 15::lJ 17 16::mJ 3 17::[]) [3]) .ret
def Qmv:SC:=sR [zJ 3 0] [0,1] Qjx
def Qd2:List RS:=[.tmp 3]
theorem Qms:mFn prog Qa4 2 18 Qmv Qd2=true:=by kernel_rfl
def Qdv:List Item:=[mJ 5 19]
def Qdw:List Item:=fI 18 (.bsl 1 [.t 17])::xJ 19 1 14 18::Qdv
def Qmw:SC:=.reg (mJ 14 5::mJ 15 1::mJ 16 7::eI 17 (.callv (.t 15) [.t 16])::Qdw) [1,5,8,9,10]
def Qmx:SC:=.reg [cJ 20 .add 10 1,mJ 10 20] [1,5,8,9,10]
def Qmy:SC:=.seq (.block 1 (sR [iJ 12 1 8 10,lJ 13 12,mJ 7 13] [1,5,7,8,9,10] Qmw)) Qmx
def Qk3:SC:=sR [bJ 11 .lss 10 9] [1,5,8,9,10,11] (cX 11 0 Qmy)
def Qmz:SC:=sR [mJ 21 5,mJ 4 21] [4] .ret
def Qm0:SC:=.seq (sR [mJ 8 0,nJ 9 8,zJ 10 0] [1,5,8,9,10] (bL 0 Qk3)) Qmz
def Qm1:SC:=sR [fI 5 (.mv (.k (.c (.sl true 1 []))))] [0,1,5] Qm0
def Qrz:SC:=sR [fI 4 (.mv (.k (.c (.sl true 1 []))))] [0,1] Qm1
def Qfj:List RS:=[.tmp 4]
theorem Qru:mFn prog Qck 2 22 Qrz Qfj=true:=by kernel_rfl
def Qr5:SC:=cT 12 (sR [fB 2 true] [2] .ret) .skip
def Qe3:List Item:=[sJ 1 3 14]
def Qe4:List Item:=eI 3 (.alloc [.sl true 3 []])::Qe3
def Qe5:List Item:=[mJ 4 16]
def Qcp:List Item:=[oJ 21 20,mJ 22 21,gFm 23 22 4,gF 24 22 (.len (.t 23)),gF 25 22 (.bin 0 .eql (.t 24) (kI 0)),pT 26 22 25]
def Qe6:List Item:=aJ 20 Qhr [.t 17,.t 19]::Qcp
def Qe7:List Item:=[gT 34 31 (.not (.t 33)),pF 35 31 34,mJ 2 35]
def Qe8:List Item:=mJ 31 30::gT 32 31 (.ld 1 true (.t 3))::.e (some 33) (some (31,true)) (.call Qcj [.t 32])::Qe7
def Qe9:List Item:=aJ 30 Qhr [.t 27,.t 29]::Qe8
def Qr6:SC:=cT 26 (sR (mJ 27 4::tJ 28 1 3::aJ 29 Qcs [.t 28]::Qe9) [2] .ret) .skip
def Qd6:List Item:=[nJ 45 44,zJ 46 0]
def Qd7:List Item:=[oJ 70 69]
def Qqd:SC:=cT 70 (sR [fB 2 false] [2] .ret) .skip
def Qqe:SC:=.seq (.dreg 21 [0,1,2,3,4,5,6,7,8,9,10,11,12,13,14,15,16,17,18,19,20] ( mJ 50 4::fJ 51 0 3::lJ 52 51::mJ 53 6::iJ 54 3 52 53::fJ 55 2 54::lJ 56 55::mJ 57 8::fI 58 (.iad 1 (.t 57) (kI 0))::lJ 59 58::iJ 60 5 56 59::fJ 61 1 60::lJ 62 61::mJ 63 8::fI 64 (.iad 1 (.t 63) (kI 1))::lJ 65 64::iJ 66 4 62 65::fJ 67 3 66::lJ 68 67::aJ 69 Qt5 [.t 50,.t 68]::Qd7) [3,4,6,36,37,38,44,45,46,70]) Qqd
def Qqf:SC:=.reg [cJ 71 .add 46 1,mJ 46 71] [3,4,6,36,37,38,44,45,46]
def Qqg:SC:=.seq (.block 3 (sR [iJ 48 1 44 46,lJ 49 48,mJ 8 49] [3,4,6,8,36,37,38,44,45,46] Qqe)) Qqf
def Qm8:SC:=sR [bJ 47 .lss 46 45] [3,4,6,36,37,38,44,45,46,47] (cX 47 2 Qqg)
def Qqh:SC:=sR (tJ 42 1 3::mJ 43 6::aJ 44 Qfc [.t 42,.t 43]::Qd6) [3,4,6,36,37,38,44,45,46] (bL 2 Qm8)
def Qqi:SC:=.reg [cJ 72 .add 38 1,mJ 38 72] [3,4,36,37,38]
def Qqj:SC:=.seq (.block 1 (sR [iJ 40 1 36 38,lJ 41 40,mJ 6 41] [3,4,6,36,37,38] Qqh)) Qqi
def Qm9:SC:=sR [bJ 39 .lss 38 37] [3,4,36,37,38,39] (cX 39 0 Qqj)
def Qqk:SC:=cT 88 (sR [fB 2 false] [2] .ret) .skip
def Qql:SC:=.reg [mJ 77 9,cJ 78 .add 77 1,mJ 9 78] [3,4,9]
def Qqm:SC:=.seq (.block 5 (.seq (.dreg 10 [0,1,2,3,4,5,6,7,8,9] ( mJ 79 4::mJ 80 9::cJ 81 .sub 80 1::iJ 82 1 79 81::lJ 83 82::mJ 84 4::mJ 85 9::iJ 86 1 84 85::lJ 87 86::bJ 88 .geq 83 87::[]) [3,4,9,88]) Qqk)) Qql
def Qna:SC:=.seq (sR [mJ 73 9,mJ 74 4,nJ 75 74,bJ 76 .lss 73 75] [3,4,9,76] (cT 76 .skip (.exit 4))) Qqm
def Qqn:SC:=.seq (.dreg 12 [0,1,2,3,4,5,6,7,8,9,10,11] ( mJ 89 4::mJ 90 4::nJ 91 90::cJ 92 .sub 91 1::iJ 93 1 89 92::lJ 94 93::fJ 95 0 3::lJ 96 95::nJ 97 96::cJ 98 .sub 97 1::bJ 99 .eql 94 98::mJ 2 99::[]) [2]) .ret
def Qqo:SC:=.seq (sR [zJ 9 1] [3,4,9] (bL 4 Qna)) Qqn
def Qqp:SC:=.seq (sR [mJ 36 4,nJ 37 36,zJ 38 0] [3,4,36,37,38] (bL 0 Qm9)) Qqo
def Qqq:SC:=.seq (sR (mJ 17 4::tJ 18 1 3::aJ 19 Qcs [.t 18]::Qe6) [3,4,26] Qr6) Qqp
def Qqr:SC:=sR (tJ 15 1 3::aJ 16 Qeb [.t 15]::Qe5) [3,4] Qqq
def Qqs:SC:=sR (mJ 13 0::aJ 14 Qcl [.t 13]::Qe4) [3] Qqr
def Qqt:SC:=.seq (sR [mJ 10 0,nJ 11 10,cJ 12 .gtr 11 1048576] [0,12] Qr5) Qqs
def Qyg:SC:=sR [fB 2 false] [0] Qqt
def Qdt:List RS:=[.tmp 2]
theorem Qv5:mFn prog Qgm 1 100 Qyg Qdt=true:=by kernel_rfl
def Qhd:List Item:=[oJ 11 10]
def Qyo:SC:=cT 11 (sR [mJ 12 3,mJ 2 12] [2] .ret) .skip
def Qhe:List Item:=[mJ 4 16]
def Qhf:List Item:=[mJ 6 33]
def Qyp:SC:=.reg [mJ 44 7,cJ 45 .add 44 1,mJ 7 45] [1,4,5,6,7]
def Qyq:SC:=.seq (.block 3 (.dreg 27 [0,1,2,3,4,5,6,7,8,9,10,11,12,13,14,15,16,17,18,19,20,21,22,23,24,25,26] ( mJ 46 4::fJ 47 0 1::lJ 48 47::mJ 49 5::iJ 50 3 48 49::fJ 51 2 50::lJ 52 51::mJ 53 6::mJ 54 7::iJ 55 1 53 54::lJ 56 55::fI 57 (.iad 1 (.t 56) (kI 0))::lJ 58 57::iJ 59 5 52 58::fJ 60 1 59::lJ 61 60::mJ 62 6::mJ 63 7::iJ 64 1 62 63::lJ 65 64::fI 66 (.iad 1 (.t 65) (kI 1))::lJ 67 66::iJ 68 4 61 67::fJ 69 3 68::lJ 70 69::iJ 71 1 46 70::.e none none (.sto 1 (.t 71) (.k (.c (.bool true))))::[]) [1,4,5,6,7])) Qyp
def Qvl:SC:=.seq (sR [mJ 34 7,mJ 35 6,nJ 36 35,bJ 37 .lss 34 36,mJ 38 37,gTm 39 38 4,gTm 40 38 5,gT 41 38 (.iad 1 (.t 39) (.t 40)),gTl 42 38 41,pF 43 38 42] [1,4,5,6,7,43] (cT 43 .skip (.exit 2))) Qyq
def Qyr:SC:=sR [zJ 7 0] [1,4,5,6,7] (bL 2 Qvl)
def Qys:SC:=.reg [mJ 29 5,cJ 30 .sub 29 1,mJ 5 30] [1,4,5]
def Qyt:SC:=.seq (.block 1 (sR (tJ 31 1 1::mJ 32 5::aJ 33 Qc9 [.t 31,.t 32]::Qhf) [1,4,5,6] Qyr)) Qys
def Qsd:SC:=.seq (sR [mJ 27 5,cJ 28 .geq 27 0] [1,4,5,28] (cT 28 .skip (.exit 0))) Qyt
def Qfs:List Item:=[mJ 2 73]
def Qvf:SC:=sR (mJ 72 4::aJ 73 Qza [.t 72]::Qfs) [2] .ret
def Qvg:SC:=.seq (sR [fJ 23 0 1,lJ 24 23,nJ 25 24,cJ 26 .sub 25 1,mJ 5 26] [1,4,5] (bL 0 Qsd)) Qvf
def Qvh:SC:=sR [mJ 17 4,fJ 18 0 1,lJ 19 18,nJ 20 19,cJ 21 .sub 20 1,iJ 22 1 17 21,.e none none (.sto 1 (.t 22) (.k (.c (.bool true))))] [1,4] Qvg
def Qvi:SC:=sR (fJ 13 0 1::lJ 14 13::nJ 15 14::eI 16 (.mks 1 [.bool false] (.t 15))::Qhe) [1,4] Qvh
def Qvj:SC:=.seq (sR (tJ 9 1 1::aJ 10 Qbd [.t 9]::Qhd) [1,3,11] Qyo) Qvi
def Qvk:SC:=sR [fI 8 (.bsl 1 []),mJ 3 8] [1,3] Qvj
def Q6j:SC:=sR [vJ 1 0,fI 2 (.mv (.k (.c (.sl true 1 []))))] [1] Qvk
def Qfg:List RS:=[.tmp 2]
theorem Q4x:mFn prog Qcs 1 74 Q6j Qfg=true:=by kernel_rfl
def Qdz:List Item:=[sJ 1 2 5]
def Qd0:List Item:=aJ 5 Qzf [.t 4]::Qdz
def Qnx:SC:=sR (mJ 3 0::aJ 4 Qzi [.t 3]::Qd0) [2] .ret
def Qse:SC:=sR [eI 2 (.alloc [.sl true 3 []])] [0,2] Qnx
def Qfl:List RS:=[.cell 2 1 true]
theorem Qrw:mFn prog Qcl 1 6 Qse Qfl=true:=by kernel_rfl
end Go.AE.Y

namespace Go.AE.Y
attribute [local go_sem] cond_true cond_false Bool.not_true Bool.not_false
attribute [local instance] Classical.propDecidable
open Go.Proofs.Tryz
variable {H H0:Heap}{K:V→Heap→Prop}{E B Lg:List (Nat×Obj)}{q:CodeD}{cs:List CodeD}
theorem Qa30 (ho:q.ok):∀n,n≤q.blocks.length→(caTo q n).length≤n * 1200
 |0,_=>by simp[caTo]
 |n+1,h=>by
  have h1:=Qa30 ho n (by omega)
  have h2:=Q69 (q:=q) (b:=n) (j:=(Qbn q n).ins.length)
  have h3:=ho.il n (by omega)
  rw[Qb5 (by omega)]at h2
  rw[Qnz,Qb5 (by omega),List.length_append];omega
theorem Qa80 (ho:q.ok):(caL q).length≤1000000:=by
 have:=Qa30 ho _ (Nat.le_refl _)
 have:=ho.b1
 rw[caL];omega
theorem Qbi6 (h:Qcb cs=true){k:Nat}(hk:k<cs.length):Qf ((caL cs[k]).map fun p=>(Qzm cs[k] p).n)=Q5 (kcN (cdAt cs k)):=by
 rw[Qaja hk,Q5,kcN,List.map_map]
 congr 1
 refine List.map_congr_left fun p hp=>?_
 obtain⟨b,i,rfl,hb,hi,ho,he⟩:=Qanw hp
 obtain⟨n,hn,_⟩:=Qai9 h hk hb hi ho
 show _=Int.ofNat (Qzm cs[k] ((b:Int),(i:Int))).n.toNat
 rw[he,hn];rfl
set_option maxHeartbeats 1000000 in
theorem Qbko {x4:Nat}{p:Plc}(hx4:H x4=.st [.int .i64 q.params,.int .i64 q.regs,.sl false 5 (Qm q.blocks)])(hp:p∈caL q)(hK:K (.c (.int .i64 (Qzm q p).n)) H) :
  Qv prog Qa4 [.c (.sl true 1 [[.int .i64 p.1],[.int .i64 p.2]]),.c (.ptr x4 0)] H K:=by
 obtain⟨b,i,rfl,hb,hi,ho,he⟩:=Qanw hp
 obtain⟨y,hy⟩:∃y,q.blocks[b]=y:=⟨_,rfl⟩
 simp only[hy]at hi ho he
 obtain⟨x,hx⟩:∃x,y.ins[i]=x:=⟨_,rfl⟩
 rw[hx]at he
 rw[he]at hK
 have tn0:Int.toNat 0=0:=rfl
 have tn1:Int.toNat 1=1:=rfl
 have h01:((0:Int)≤1)=True:=by simp
 have l01:(0<0+1+1)=True:=by simp
 have l11:(1<0+1+1)=True:=by simp
 refine Qb Qar Qms ?_
 refine Qa ?_
 simp only[go_sem]
 refine Qal ?_
 simp only[go_sem,hx4,hb,Qk,Q7 _ _ hb,BlkD.cells,hy,hi,Qan,Qbs _ _ hi,InsD.cells,hx,tn0,tn1,h01,l01,l11,Int.le_refl,List.getD_cons_zero,List.getD_cons_succ]
 refine Qj ?_
 simp only[go_sem,Q6,Qab,Qd2,List.mem_singleton,forall_eq,RS.op]
 exact hK
set_option maxHeartbeats 4000000 in
theorem Qbbd {x4:Nat}{ps:List Plc}{f:Bool}(hx4:H x4=.st [.int .i64 q.params,.int .i64 q.regs,.sl false 5 (Qm q.blocks)])(hps:∀p∈ps,p∈caL q)(hl:ps.length≤1000000)
  (hK:∀(H':Heap),Upd H H' []→K (.c (.sl false 1 (Qf (ps.map fun p=>(Qzm q p).n)))) H') :
  Qv prog Qck [.c (.sl f 1 (Qbw ps)),.c (.fn Qa4 [.ptr x4 0])] H K:=by
 refine Qz ?_
 refine Qb Qar Qru ?_
 have kn:=Kn.start1 hx4 (by nofun)
 refine Qa ?_
 simp only[go_sem]
 refine Qa ?_
 simp only[go_sem]
 refine Q4 ?_
 refine Qa ?_
 simp only[go_sem,Qca]
 try intro _
 refine Qg (Qc (Qs (fun m e1 H1=>∃(i:Nat) (t:C) (Lg:List (Nat×Obj)),m=ps.length-i∧i≤ps.length∧Gr Lg 1 (Qf ((ps.take i).map fun p=>(Qzm q p).n)) t∧Kn H H1 [(x4,.st [.int .i64 q.params,.int .i64 q.regs,.sl false 5 (Qm q.blocks)])] ([]++Lg)∧
  lk 1 e1=.c (.fn Qa4 [.ptr x4 0])∧lk 5 e1=.c t∧lk 8 e1=.c (.sl f 1 (Qbw ps))∧lk 9 e1=.c (.int .i64 ps.length)∧lk 10 e1=.c (.int .i64 i)) ps.length ?_ ?_))
 ·exact⟨0,_,[],by omega,by omega,.nil 1,kn,rfl,rfl,rfl,rfl,rfl⟩
 ·clear kn
  rintro m e1 H1 ⟨i,t,Lg,hm,hi,hgr,kn,l1,l5,l8,l9,l10⟩
  have htw:=hgr.isOw
  refine Qa ?_
  simp only[go_sem,l1,l5,l8,l9,l10,htw]
  refine Qg (Qe rfl ?_ ?_)
  ·intro hc
   have hlt:i<ps.length:=by simpa using hc
   obtain⟨p,hp⟩:∃p,ps[i]=p:=⟨_,rfl⟩
   have hpm:p∈caL q:=hps p (by rw[←hp];exact List.getElem_mem hlt)
   refine Qh ?_
   try simp only[go_sem]
   refine Qg (Qc ?_)
   refine Qa ?_
   simp only[go_sem,l1,l5,l8,l9,l10,htw,hlt,Qca,Qrn _ _ hlt,hp,pRow]
   refine Qq ?_
   simp only[go_sem,htw]
   refine Qbko (kn.e 0 rfl) hpm ?_
   simp only[go_sem,Qdw,htw]
   refine kn.growR (new:=Qf [(Qzm q p).n]) hgr (.mk' _ _ _ _) (Qu _) (by simp only[Qd,List.length_map,List.length_take,LIM,List.length_cons,List.length_nil];omega) fun t2 Lg2 H4 hgr2 ht2 kn=>?_
   simp only[go_sem,Qdv,ht2]
   refine Qq ?_
   simp only[go_sem,ht2]
   refine⟨Qo (by omega) (by omega),?_⟩
   show ∃m,_
   refine⟨ps.length-(i+1),by omega,i+1,t2,Lg2,rfl,by omega,?_,kn,rfl,rfl,rfl,rfl,rfl⟩
   have:Qf ((ps.take (i+1)).map fun p=>(Qzm q p).n)=Qf ((ps.take i).map fun p=>(Qzm q p).n)++Qf [(Qzm q p).n]:=by
    rw[List.take_succ_eq_append_getElem hlt,hp];simp[Qf]
   rw[this];exact hgr2
  ·intro hc
   have hge:ps.length≤i:=by simpa using hc
   rw[List.take_of_length_le hge]at hgr
   refine Qr ?_
   simp only[go_sem,X.next]
   refine Qa ?_
   simp only[go_sem,l5,htw]
   refine Qj ?_
   simp only[go_sem,Q6,Qab,Qfj,List.mem_singleton,forall_eq,RS.op,htw]
   exact⟨_,.c _ _ (hgr.frz kn (Qu _)),hK _ (kn.fin.drop1 hx4)⟩
set_option maxHeartbeats 2000000 in
theorem Qbl1 {f:Bool}{k:Nat}(hg:Qcb cs=true)(hk:k<cs.length)(hK:∀H',Upd H H' []→K (.c (.sl false 1 (Q5 (kcN (cdAt cs k))))) H') :
  Qv prog Qbi [.c (.int .i64 k),.c (.pp [.sl f 3 (Qp cs)])] H K:=by
 have ho:=Qaef hg hk
 have hkn:=Qbi6 hg hk
 obtain⟨q,hq⟩:∃q,cs[k]=q:=⟨_,rfl⟩
 rw[hq]at ho hkn
 refine Qz ?_
 refine Qb Qar Qt8 ?_
 refine Qa ?_
 simp only[go_sem]
 refine Qa ?_
 simp only[go_sem,hk,Q1,Qak _ _ hk,CodeD.cells,hq]
 intro x4 hx4 H1 h1
 have kn:=(Kn.start0 H).al hx4 h1
 have hx4:=kn.l 0 rfl
 simp only[go_sem,Qd3,hx4]
 intro H2 h2
 have kn:Kn H H2 [] [(x4,.st [.int .i64 q.params,.int .i64 q.regs,.sl false 5 (Qm q.blocks)])]:=kn.stL 0 rfl h2
 have hx4:=kn.l 0 rfl
 refine Qa ?_
 simp only[go_sem,hx4]
 refine Q1g ho fun H3 hu=>?_
 have kn:=kn.call0 hu
 have hx4:=kn.l 0 rfl
 simp only[go_sem,Qd5]
 refine Qbbd hx4 (fun p h=>h) (Qa80 ho) fun H4 hu=>?_
 have kn:=kn.call0 hu
 simp only[go_sem,Qd4]
 refine Qj ?_
 simp only[go_sem,Q6,Qab,Qgv,List.mem_singleton,forall_eq,RS.op]
 have:=hK _ kn.fin
 rw[←hkn]at this
 exact⟨_,.c _ _ (Qip (noOw_mem (Qu _))),this⟩
structure Vst (cs:List CodeD)(ks ns ks':List Nat):Prop where
 nd:ks'.Nodup
 sub:∀x∈ks,x∈ks'
 ns:∀x∈ns,x∈ks'
 cl:∀x∈ks',x∈ks∨∀m∈kcN (cdAt cs x),m∈ks'
 need:∀x∈ks',Nd cs x
theorem Vst.nil {ks:List Nat}(h:ks.Nodup)(hn:∀x∈ks,Nd cs x):Vst cs ks [] ks:=⟨h,fun _ h=>h,by simp,fun _ h=>.inl h,hn⟩
theorem Vst.app {ks ns k1 k2:List Nat}{n:Nat}(h:Vst cs ks ns k1)(k:Vst cs k1 [n] k2):Vst cs ks (ns++[n]) k2:=
 ⟨k.nd,fun x hx=>k.sub x (h.sub x hx),fun x hx=>by
  rcases List.mem_append.1 hx with hx|hx
  ·exact k.sub x (h.ns x hx)
  ·exact k.ns x hx,fun x hx=>by
  rcases k.cl x hx with h1|h1
  ·rcases h.cl x h1 with h2|h2
   ·exact .inl h2
   ·exact .inr fun m hm=>k.sub m (h2 m hm)
  ·exact .inr h1,k.need⟩
theorem Vst.one {ks k1:List Nat}{n:Nat}(h:Vst cs (ks++[n]) (kcN (cdAt cs n)) k1):Vst cs ks [n] k1:=
 ⟨h.nd,fun x hx=>h.sub x (List.mem_append_left _ hx),fun x hx=>h.sub x (List.mem_append_right _ hx),fun x hx=>by
  rcases h.cl x hx with h1|h1
  ·rcases List.mem_append.1 h1 with h1|h1
   ·exact .inl h1
   ·simp only[List.mem_singleton]at h1
    subst h1
    exact .inr h.ns
  ·exact .inr h1,h.need⟩
theorem Qbht {ks:List Nat}(hg:Qcb cs=true)(h:ks.Nodup)(hn:∀x∈ks,Nd cs x):ks.length≤4:=by
 have:=Q1j h fun x hx=>Qa56 hg (hn x hx)
 have:=(of_decide_eq_true hg).1
 omega
def Qa82 (x5 x6:Nat)(f:Bool)(cs:List CodeD):List C:=[.ptr x5 0,.pp [.fn Qbi [.pp [.sl f 3 (Qp cs)]]],.ptr x6 0]
def clE (M x5 x6:Nat)(f:Bool)(cs:List CodeD)(ver:Nat)(ks:List Nat):List (Nat×Obj):=
 [(M,.map ver (Qhk ks)),(x5,.st [.mp M]),(x6,.st [.fn Qc8 (Qa82 x5 x6 f cs)])]
set_option maxHeartbeats 2000000 in
theorem Qbm4 {F:Heap}{M x5 x6:Nat}{f:Bool}(hg:Qcb cs=true) :
  ∀(n:Nat) (ks:List Nat) (ver:Nat) (H:Heap) (K:V→Heap→Prop),Nd cs n→ks.Nodup→(∀x∈ks,Nd cs x)→Kn F H (clE M x5 x6 f cs ver ks) []→
   (∀(ks':List Nat) (ver':Nat) (H':Heap),Vst cs ks [n] ks'→Kn F H' (clE M x5 x6 f cs ver' ks') []→K (.tup []) H')→
   Qv prog Qc8 ([.c (.int .i64 n)]++(Qa82 x5 x6 f cs).map .c) H K:=by
 intro n
 induction n using Nat.strongRecOn with
 |ind n ih=>
 intro ks ver H K hn hnd hns kn hK
 have hnl:=Qa56 hg hn
 have hM:=kn.e 0 rfl
 have hx5:=kn.e 1 rfl
 have hx6:=kn.e 2 rfl
 refine Qb Qar Q78 ?_
 refine Qa ?_
 simp only[go_sem,Qa82,hx5,hM,Qaow,Qbh,Q8h,Qav8]
 refine Qe rfl ?_ ?_
 ·intro hc
  have hnk:n∉ks:=by simpa using hc
  have hkl:=Qbht hg hnd hns
  refine Qa ?_
  simp only[go_sem,hx5,hM,Q8h,Qbbe,Qa8m _ _ hnk]
  refine⟨by simp only[LIM];omega,fun H1 h1=>?_⟩
  have kn:Kn F H1 (clE M x5 x6 f cs (ver+1) (ks++[n])) []:=kn.stE 0 rfl h1
  refine Qa ?_
  simp only[go_sem]
  refine Qbl1 hg hnl fun H2 hu=>?_
  have kn:=kn.call0 hu
  obtain⟨L,hL⟩:∃L,kcN (cdAt cs n)=L:=⟨_,rfl⟩
  have hLn:∀x∈L,x<n∧Nd cs x:=fun x hx=>by
   rw[←hL]at hx
   exact⟨Qbi5 hg hnl hx,.to hn hx⟩
  rw[hL]
  simp only[go_sem,Qh7,Qw]
  try intro hlim
  simp only[LIM]at hlim
  have hnd2:(ks++[n]).Nodup:=List.nodup_append.2 ⟨hnd,by simp,fun a ha c hc=>by
   simp only[List.mem_singleton]at hc
   subst hc;exact fun e=>hnk (e▸ha)⟩
  have hns2:∀x∈ks++[n],Nd cs x:=fun x hx=>by
   rcases List.mem_append.1 hx with hx|hx
   ·exact hns x hx
   ·simp only[List.mem_singleton]at hx
    subst hx;exact hn
  refine Qc (Qs (fun m e1 H1=>∃(i:Nat) (k1:List Nat) (ver1:Nat),m=L.length-i∧i≤L.length∧Vst cs (ks++[n]) (L.take i) k1∧Kn F H1 (clE M x5 x6 f cs ver1 k1) []∧
   e1=[(3,.c (.ptr x6 0)),(15,.c (.sl false 1 (Q5 L))),(16,.c (.int .i64 L.length)),(17,.c (.int .i64 i))]) L.length ?_ ?_)
  ·exact⟨0,_,_,by omega,by omega,.nil hnd2 hns2,kn,rfl⟩
  ·clear kn hx6
   rintro m e1 H3 ⟨i,k1,ver1,hm,hi,hv,kn,rfl⟩
   have hx6:=kn.e 2 rfl
   refine Qa ?_
   simp only[go_sem]
   refine Qg (Qe rfl ?_ ?_)
   ·intro hc2
    have hlt:i<L.length:=by simpa using hc2
    have hgd:L.getD i 0=L[i]:=by simp[List.getD_eq_getElem?_getD,hlt]
    obtain⟨h1,h2⟩:=hLn _ (List.getElem_mem hlt)
    rw[←hgd]at h1 h2
    refine Qh ?_
    try simp only[go_sem]
    refine Qg (Qc ?_)
    refine Qa ?_
    simp only[go_sem,hlt,Qw,Qad _ _ hlt]
    refine Qq ?_
    simp only[go_sem,hx6]
    refine ih _ h1 k1 ver1 H3 _ h2 hv.nd hv.need kn fun k2 ver2 H4 hv2 kn=>?_
    refine Qq ?_
    simp only[go_sem,X.next]
    refine⟨Qo (by omega) (by omega),L.length-(i+1),by omega,i+1,k2,ver2,rfl,by omega,?_,kn,rfl⟩
    rw[List.take_succ_eq_append_getElem hlt,←hgd]
    exact hv.app hv2
   ·intro hc2
    have hge:L.length≤i:=by simpa using hc2
    rw[List.take_of_length_le hge]at hv
    refine Qr ?_
    simp only[go_sem,X.next,Q6,Qab,Qgt,List.not_mem_nil]
    refine⟨fun _=>trivial,hK k1 ver1 H3 (.one ?_) kn⟩
    rw[hL];exact hv
 ·intro hc
  have hnk:n∈ks:=by simpa using hc
  refine Qh ?_
  simp only[go_sem,Q6,Qab,Qgt,List.not_mem_nil]
  exact⟨fun _=>trivial,hK ks ver H ⟨hnd,fun _ h=>h,by simpa using hnk,fun _ h=>.inl h,hns⟩ kn⟩
set_option maxHeartbeats 2000000 in
theorem Qa83 {ns:List Nat}{f:Bool}(hg:Qcb cs=true)(hns:ns=[cs.length-1])(hK:∀H',Upd H H' []→K (.c (.sl false 1 (Q5 (Qjf cs)))) H') :
  Qv prog Qkl [.c (.sl true 1 (Q5 ns)),.c (.fn Qbi [.pp [.sl f 3 (Qp cs)]])] H K:=by
 refine Qz ?_
 refine Qb Qar Qaog ?_
 refine Qa ?_
 simp only[go_sem]
 refine Qa ?_
 simp only[go_sem]
 intro M hM0 H1 h1
 have kn:Kn H H1 [] [(M,.map 0 (Qhk []))]:=(Kn.start0 H).al hM0 h1
 simp only[go_sem,Qot]
 intro x5 hx5 H3 h3
 have kn:=kn.al hx5 h3
 have hx5:=kn.l 1 rfl
 simp only[go_sem,Qos,hx5]
 intro H4 h4
 have kn:=kn.stL 1 rfl h4
 refine Qa ?_
 simp only[go_sem]
 intro x6 hx6 H5 h5
 have kn:=kn.al hx6 h5
 have hx6:=kn.l 2 rfl
 refine Qa ?_
 simp only[go_sem,hx6]
 intro H6 h6
 have kn:Kn H H6 [] (clE M x5 x6 f cs 0 []++[]):=kn.stL 2 rfl h6
 have kF:=kn.mid
 have hnl:ns.length=1:=by rw[hns];rfl
 refine Q4 ?_
 refine Qa ?_
 simp only[go_sem,Qw]
 try intro hlim
 refine Qg (Qc (Qs (fun m e1 H1=>∃(i:Nat) (k1:List Nat) (ver1:Nat),m=ns.length-i∧i≤ns.length∧Vst cs [] (ns.take i) k1∧Kn H6 H1 (clE M x5 x6 f cs ver1 k1) []∧
  e1=[(5,.c (.ptr x5 0)),(6,.c (.ptr x6 0)),(11,.c (.sl true 1 (Q5 ns))),(12,.c (.int .i64 ns.length)),(13,.c (.int .i64 i))]) ns.length ?_ ?_))
 ·exact⟨0,_,_,by omega,by omega,.nil List.nodup_nil (by simp),kF,rfl⟩
 ·clear kF hx5 hx6
  rintro m e1 H8 ⟨i,k1,ver1,hm,hi,hv,kF,rfl⟩
  have hx6:=kF.e 2 rfl
  have hx5:=kF.e 1 rfl
  have hM:=kF.e 0 rfl
  refine Qa ?_
  simp only[go_sem]
  refine Qg (Qe rfl ?_ ?_)
  ·intro hc2
   have hlt:i<ns.length:=by simpa using hc2
   have hgd:ns.getD i 0=ns[i]:=by simp[List.getD_eq_getElem?_getD,hlt]
   have hnd:Nd cs (ns.getD i 0):=by
    have:ns[i]∈ns:=List.getElem_mem hlt
    rw[←hgd]at this
    rw[hns]at this⊢
    simp only[List.mem_singleton]at this
    rw[this];exact .top
   refine Qh ?_
   try simp only[go_sem]
   refine Qg (Qc ?_)
   refine Qa ?_
   simp only[go_sem,hlt,Qw,Qad _ _ hlt]
   refine Qq ?_
   simp only[go_sem,hx6]
   refine Qbm4 hg _ k1 ver1 H8 _ hnd hv.nd hv.need kF fun k2 ver2 H9 hv2 kF=>?_
   refine Qq ?_
   simp only[go_sem,X.next]
   refine⟨Qo (by omega) (by omega),ns.length-(i+1),by omega,i+1,k2,ver2,rfl,by omega,?_,kF,rfl⟩
   rw[List.take_succ_eq_append_getElem hlt,←hgd]
   exact hv.app hv2
  ·intro hc2
   have hge:ns.length≤i:=by simpa using hc2
   rw[List.take_of_length_le hge]at hv
   have hkl:=Qbht hg hv.nd hv.need
   refine Qr ?_
   simp only[go_sem,X.next]
   refine Qa ?_
   simp only[go_sem,hx5]
   refine Q08 hM hv.nd (by simp only[LIM];omega) fun fl2 l H9 hu hasc hmem=>?_
   have kn:=kn.comp (kF.call0 hu) rfl
   simp only[go_sem,Qou]
   refine Qj ?_
   simp only[go_sem,Q6,Qab,Q1m,List.mem_singleton,forall_eq,RS.op]
   have hl:l=Qjf cs:=by
    refine Qbbg hg hasc ?_ ?_ ?_
    ·rw[hmem];exact hv.ns _ (by rw[hns];simp)
    ·intro k hk n hn
     rw[hmem]at hk⊢
     exact (hv.cl k hk).resolve_left (by simp) n hn
    ·intro k hk
     rw[hmem]at hk
     exact hv.need k hk
   rw[hl]
   exact⟨_,.c _ _ (Qip (noOw_mem (Qaq _))),hK _ kn.fin⟩
theorem Qajb {f:Bool}(hg:Qcb cs=true)(hK:∀H',Upd H H' []→K (.c (.sl false 1 (Q5 (Qjf cs)))) H') :
  Qv prog Qec [.ag [.sl f 3 (Qp cs)]] H K:=by
 have h1:=(of_decide_eq_true hg).1
 have e1:(cs.length:Int)-1=((cs.length-1:Nat):Int):=by omega
 refine Qz ?_
 refine Qb Qar Q4u ?_
 refine Qa ?_
 simp only[go_sem]
 refine Qa ?_
 simp only[go_sem,Q1,e1]
 try intro _
 refine⟨Qo (by omega) (by omega),?_⟩
 refine Qa83 (ns:=[cs.length-1]) (f:=f) hg rfl fun H1 hu=>?_
 have kn:=(Kn.start0 H).call0 hu
 simp only[go_sem,Qg3]
 refine Qj ?_
 simp only[go_sem,Q6,Qab,Qli,List.mem_singleton,forall_eq,RS.op]
 exact⟨_,.c _ _ (Qip (noOw_mem (Qaq _))),hK _ kn.fin⟩
noncomputable def Q4y (cs:List CodeD):List Nat:=if Qcb cs=true then Qjf cs else []
theorem Q7x {fl:Bool}(hfit:∀c∈cs,c.fits)(hK:∀H',Upd H H' []→K (.c (.sl false 1 (Q5 (Q4y cs)))) H') :
  Qv prog Qeb [.ag [.sl fl 3 (Qp cs)]] H K:=by
 refine Qz ?_
 refine Qb Qar Q4t ?_
 refine Qa ?_
 simp only[go_sem]
 refine Q4 ?_
 refine Qa ?_
 simp only[go_sem]
 refine Qkw hfit fun H1 hu=>?_
 have kn:=(Kn.start0 H).call0 hu
 simp only[go_sem,Qgy]
 refine Qg (Qe rfl ?_ ?_)
 ·intro hc
  have hg:Qcb cs=false:=Qrx hc
  refine Qa ?_
  simp only[go_sem]
  refine Qj ?_
  simp only[go_sem,X.next,Q6,Qab,Qff,List.mem_singleton,forall_eq,RS.op]
  have:=hK _ kn.fin
  rw[Q4y,hg]at this
  exact⟨_,.c _ _ FrzR.nil.sl,this⟩
 ·intro hc
  have hg:Qcb cs=true:=Qeh hc
  rw[Q4y,if_pos hg]at hK
  refine Qh ?_
  try simp only[go_sem]
  refine Qa ?_
  simp only[go_sem]
  refine Qajb hg fun H2 hu=>?_
  have kn:=kn.call0 hu
  simp only[go_sem,Qgz]
  refine Qj ?_
  simp only[go_sem,Q6,Qab,Qff,List.mem_singleton,forall_eq,RS.op]
  exact⟨_,.c _ _ (Qip (noOw_mem (Qaq _))),hK _ kn.fin⟩
end Go.AE.Y

namespace Go.AE.Y
attribute [local go_sem] cond_true cond_false Bool.not_true Bool.not_false
attribute [local instance] Classical.propDecidable
open Go.Proofs.Tryz
variable {H H0:Heap}{K:V→Heap→Prop}{E B Lg:List (Nat×Obj)}{q:CodeD}{cs:List CodeD}
structure Fnd (cs:List CodeD)(bs:List Bool)(n:Nat):Prop where
 len:bs.length=cs.length
 top:bs.getD (cs.length-1) false=true
 nd:∀x,bs.getD x false=true→Nd cs x
 cl:∀x,n≤x→bs.getD x false=true→∀m∈kcN (cdAt cs x),bs.getD m false=true
theorem Qanh {bs:List Bool}{m x:Nat}(h:bs.getD x false=true):(bs.set m true).getD x false=true:=by
 rw[Qct];split
 ·rfl
 ·exact h
theorem Fnd.set {bs:List Bool}{n m k:Nat}(h:Fnd cs bs n)(hg:Qcb cs=true)(hk:bs.getD k false=true)(hm:m∈kcN (cdAt cs k))(hkn:k<n):Fnd cs (bs.set m true) n:=by
 have hnk:=h.nd k hk
 have hlt:=Qbi5 hg (Qa56 hg hnk) hm
 refine⟨by rw[List.length_set];exact h.len,Qanh h.top,fun x hx=>?_,fun x hx hb m' hm'=>?_⟩
 ·rw[Qct]at hx
  split at hx
  ·rename_i hh
   rw[hh.1];exact .to hnk hm
  ·exact h.nd x hx
 ·rw[Qct,if_neg (by omega)]at hb
  exact Qanh (h.cl x hx hb m' hm')
theorem Qa9h (hg:Qcb cs=true):Fnd cs ((List.replicate cs.length false).set (cs.length-1) true) cs.length:=by
 have h1:=(of_decide_eq_true hg).1
 refine⟨by simp,?_,fun x hx=>?_,fun x hx hb=>?_⟩
 ·rw[Qct,if_pos ⟨rfl,by rw[List.length_replicate];omega⟩]
 ·rw[Qct]at hx
  split at hx
  ·rename_i hh
   rw[hh.1];exact .top
  ·rw[Qav]at hx;simp at hx
 ·rw[Qct,if_neg (by omega),Qav]at hb;simp at hb
theorem Qbem {bs:List Bool}(hg:Qcb cs=true)(h:Fnd cs bs 0):Q8i bs bs.length=Qjf cs:=by
 have hm:∀x,x∈Q8i bs bs.length↔bs.getD x false=true:=fun x=>by
  simp only[Q8i,List.mem_filter,List.mem_range]
  refine⟨fun h=>h.2,fun hx=>⟨?_,hx⟩⟩
  by_cases hl:x<bs.length
  ·exact hl
  ·rw[List.getD_eq_getElem?_getD,List.getElem?_eq_none (by omega)]at hx;simp at hx
 refine Qbbg hg (List.Pairwise.filter _ List.pairwise_lt_range) ((hm _).2 h.top) (fun k hk n hn=>?_) fun k hk=>h.nd k ((hm k).1 hk)
 exact (hm n).2 (h.cl k (Nat.zero_le _) ((hm k).1 hk) n hn)
set_option maxHeartbeats 4000000 in
theorem Qq5 {fl:Bool}(hfit:∀c∈cs,c.fits)(hK:∀H',Upd H H' []→K (.c (.sl false 1 (Q5 (Q4y cs)))) H') :
  Qv prog Qcs [.ag [.sl fl 3 (Qp cs)]] H K:=by
 refine Qz ?_
 refine Qb Qar Q4x ?_
 refine Qa ?_
 simp only[go_sem]
 refine Qa ?_
 simp only[go_sem]
 refine Q4 ?_
 refine Qa ?_
 simp only[go_sem]
 refine Qey hfit fun H1 hu=>?_
 have kn:=(Kn.start0 H).call0 hu
 simp only[go_sem,Qhd]
 refine Qg (Qe rfl ?_ ?_)
 ·intro hc
  have hg:Qcb cs=false:=Qrx hc
  refine Qa ?_
  simp only[go_sem]
  refine Qj ?_
  simp only[go_sem,X.next,Q6,Qab,Qfg,List.mem_singleton,forall_eq,RS.op]
  have:=hK _ kn.fin
  rw[Q4y,hg]at this
  exact⟨_,.c _ _ FrzR.nil.sl,this⟩
 ·intro hc
  have hg:Qcb cs=true:=Qeh hc
  rw[Q4y,if_pos hg]at hK
  have h14:=(of_decide_eq_true hg).1
  have e1:(cs.length:Int)-1=((cs.length-1:Nat):Int):=by omega
  have hl1:cs.length-1<cs.length:=by omega
  have hlr:cs.length-1<(List.replicate cs.length false).length:=by rw[List.length_replicate];exact hl1
  refine Qh ?_
  try simp only[go_sem]
  refine Qa ?_
  simp only[go_sem,Q1,Qa9]
  try intro _
  refine⟨by simp only[LIM];omega,fun y hy H2 h2=>?_⟩
  have kn:=kn.al hy h2
  have hy:=kn.l 0 rfl
  simp only[go_sem,Qhe]
  refine Qa ?_
  simp only[go_sem,hy,Q1,e1,hl1,Qt,List.length_replicate,Q0 _ _ hlr,Qba,Nat.zero_add,Nat.le_refl]
  try intro _
  refine⟨Qo (by omega) (by omega),fun H3 h3=>?_⟩
  have kn:Kn H H3 [] [(y,.vec 1 (Ql ((List.replicate cs.length false).set (cs.length-1) true)))]:=kn.stL 0 rfl h3
  refine Q4 ?_
  refine Qa ?_
  simp only[go_sem,Q1]
  try intro _
  refine⟨Qo (by omega) (by omega),?_⟩
  refine Qg (Qc (Qs (fun m e1 H1=>∃(bs:List Bool),Fnd cs bs m∧m≤cs.length∧Kn H H1 [] [(y,.vec 1 (Ql bs))]∧
   lk 1 e1=.c (.pp [.sl fl 3 (Qp cs)])∧lk 4 e1=.c (.vsl y 1 0 cs.length)∧lk 5 e1=.c (.int .i64 ((m:Int)-1))) cs.length ?_ ?_))
  ·exact⟨_,Qa9h hg,by omega,kn,rfl,rfl,rfl⟩
  ·clear kn hy
   rintro m e1 H4 ⟨bs,hf,hm,kn,l1,l4,l5⟩
   refine Q4 ?_
   refine Qa ?_
   simp only[go_sem,l1,l4,l5]
   refine Qg (Qe rfl ?_ ?_)
   ·intro hc2
    obtain⟨k,rfl⟩:∃k,m=k+1:=⟨m-1,by simp at hc2;omega⟩
    have e5:((k+1:Nat):Int)-1=(k:Int):=by omega
    rw[e5]at l5
    have hkl:k<cs.length:=by omega
    have ho:=Qaef hg hkl
    have hgk:hasG cs (k:Int)=true:=by
     simp only[hasG,hg,Bool.true_and,decide_eq_true_eq];omega
    obtain⟨q,hq⟩:∃q,cs[k]=q:=⟨_,rfl⟩
    have hcl:Qhn cs (k:Int)=caL q:=by
     rw[Qhn,if_pos hgk]
     simp[hkl,hq]
    have hcd:cdAt cs k=q:=by rw[Qaja hkl,hq]
    rw[hq]at ho
    have hcle:=Qa80 ho
    refine Qh ?_
    try simp only[go_sem]
    refine Qg (Qc ?_)
    refine Qa ?_
    simp only[go_sem,l1,l4,l5,e5]
    refine Qtv hfit fun H5 hu=>?_
    have kn:=kn.call0 hu
    rw[hcl]
    simp only[go_sem,Qhf]
    refine Qa ?_
    simp only[go_sem,l1,l4,l5,e5]
    refine Qc (Qs (fun m2 e1 H1=>∃(i:Nat) (bs:List Bool),m2=(caL q).length-i∧i≤(caL q).length∧Fnd cs bs (k+1)∧(∀x∈(kcN q).take i,bs.getD x false=true)∧Kn H H1 [] [(y,.vec 1 (Ql bs))]∧
     lk 1 e1=.c (.pp [.sl fl 3 (Qp cs)])∧lk 4 e1=.c (.vsl y 1 0 cs.length)∧lk 5 e1=.c (.int .i64 (k:Int))∧lk 6 e1=.c (.sl false 1 (Qbw (caL q)))∧lk 7 e1=.c (.int .i64 i)) (caL q).length ?_ ?_)
    ·exact⟨0,bs,by omega,by omega,hf,by simp,kn,rfl,rfl,rfl,rfl,rfl⟩
    ·clear kn hf l1 l4 l5
     rintro m2 e2 H6 ⟨i,bs,hm2,hi,hf,hin,kn,l1,l4,l5,l6,l7⟩
     have hy:=kn.l 0 rfl
     have hkb:k<bs.length:=by rw[hf.len];exact hkl
     have hbl:=hf.len
     have htk:List.take cs.length (Ql bs)=Ql bs:=List.take_of_length_le (by rw[Qt];omega)
     have done:(∀x∈kcN q,bs.getD x false=true)∨bs.getD k false=false→Fnd cs bs k:=fun h=>⟨hf.len,hf.top,hf.nd,fun x hx hb m' hm'=>by
      by_cases hxk:x=k
      ·subst hxk
       rw[hcd]at hm'
       rcases h with h|h
       ·exact h m' hm'
       ·rw[h]at hb;simp at hb
      ·exact hf.cl x (by omega) hb m' hm'⟩
     refine Q4 ?_
     refine Qa ?_
     simp only[go_sem,l1,l4,l5,l6,l7,Qca]
     try intro _
     by_cases hlt:i<(caL q).length
     ·have hlt':decide ((i:Int)<((caL q).length:Int))=true:=decide_eq_true (by omega)
      simp only[go_sem,hlt',l1,l4,l5,l6,l7,hy,hkl,hkb,hbl,htk,Qt,Q0 _ _ hkb,List.drop_zero,Nat.zero_add,Nat.le_refl]
      refine Qg (Qe rfl ?_ ?_)
      ·intro hc3
       have hbk:bs.getD k false=true:=hc3
       obtain⟨p,hp⟩:∃p,(caL q)[i]=p:=⟨_,rfl⟩
       obtain⟨b,j,rfl,hb,hj,ho14,he⟩:=Qanw (p:=p) (by rw[←hp];exact List.getElem_mem hlt)
       obtain⟨w,hw,hwk⟩:∃n:Nat,q.blocks[b].ins[j].n=n∧n<k:=by
        have:=Qai9 (b:=b) (i:=j) hg hkl
        simp only[hq]at this
        exact this hb hj ho14
       have hkc:(kcN q).take (i+1)=(kcN q).take i++[w]:=by
        rw[List.take_succ_eq_append_getElem (by rw[kcN,List.length_map];exact hlt)]
        congr 2
        simp only[kcN,List.getElem_map,hp,he,hw,Int.toNat_natCast]
       have hwm:w∈kcN (cdAt cs k):=by
        rw[hcd]
        have:w∈(kcN q).take (i+1):=by rw[hkc];simp
        exact List.mem_of_mem_take this
       have hf2:=hf.set hg hbk hwm (by omega)
       obtain⟨z,hz⟩:∃z,q.blocks[b]=z:=⟨_,rfl⟩
       simp only[hz]at hj hw
       obtain⟨x,hx⟩:∃x,z.ins[j]=x:=⟨_,rfl⟩
       rw[hx]at hw
       have hwl:w<cs.length:=by omega
       have hwb:w<bs.length:=by omega
       have tn0:Int.toNat 0=0:=rfl
       have tn1:Int.toNat 1=1:=rfl
       have h01:((0:Int)≤1)=True:=by simp
       have l01:(0<0+1+1)=True:=by simp
       have l11:(1<0+1+1)=True:=by simp
       refine Qh ?_
       try simp only[go_sem]
       refine Qg (Qc ?_)
       refine Qbc ?_
       simp only[go_sem,l1,l4,l5,l6,l7,hlt,hkl,Qca,Qrn _ _ hlt,hp,pRow,Q1,Qak _ _ hkl,CodeD.cells,hq,hb,Qk,Q7 _ _ hb,BlkD.cells,hz,hj,Qan,Qbs _ _ hj,InsD.cells,hx,hw,hy,hwl,hwb,hbl,Qt,Q0 _ _ hwb,Qba,tn0,tn1,h01,l01,l11,Int.le_refl,List.getD_cons_zero,List.getD_cons_succ,Nat.zero_add,Nat.le_refl]
       intro H7 h7
       have kn:Kn H H7 [] [(y,.vec 1 (Ql (bs.set w true)))]:=kn.stL 0 rfl h7
       refine Qq ?_
       simp only[go_sem,l1,l4,l5,l6,l7]
       refine⟨Qo (by omega) (by omega),?_⟩
       show ∃m,_
       refine⟨(caL q).length-(i+1),by omega,i+1,_,rfl,by omega,hf2,fun x hx=>?_,kn,rfl,rfl,rfl,rfl,rfl⟩
       rw[hkc]at hx
       rcases List.mem_append.1 hx with hx|hx
       ·exact Qanh (hin x hx)
       ·simp only[List.mem_singleton]at hx
        subst hx
        rw[Qct,if_pos ⟨rfl,hwb⟩]
      ·intro hc3
       have hbk:bs.getD k false=false:=hc3
       refine Qr ?_
       simp only[go_sem,X.next]
       refine Qq ?_
       simp only[go_sem,l1,l4,l5]
       refine⟨Qo (by omega) (by omega),?_⟩
       show ∃m,_
       exact⟨k,by omega,bs,done (.inr hbk),by omega,kn,rfl,rfl,rfl⟩
     ·have hlt':decide ((i:Int)<((caL q).length:Int))=false:=decide_eq_false (by omega)
      simp only[go_sem,hlt',l1,l4,l5,l6,l7,hy,hkl,hkb,hbl,htk,Qt,Q0 _ _ hkb,List.drop_zero,Nat.zero_add,Nat.le_refl]
      refine Qg (Qe rfl ?_ ?_)
      ·intro h;simp at h
      intro _
      rw[List.take_of_length_le (by rw[kcN,List.length_map];omega)]at hin
      refine Qr ?_
      simp only[go_sem,X.next]
      refine Qq ?_
      simp only[go_sem,l1,l4,l5]
      refine⟨Qo (by omega) (by omega),?_⟩
      show ∃m,_
      exact⟨k,by omega,bs,done (.inl hin),by omega,kn,rfl,rfl,rfl⟩
   ·intro hc2
    obtain rfl:m=0:=by simp at hc2;omega
    refine Qr ?_
    simp only[go_sem,X.next]
    refine Qa ?_
    simp only[go_sem,l4]
    refine Qa91 (vslc (kn.l 0 rfl) (by rw[Qt,hf.len])) rfl (by rw[hf.len];omega) fun H5 hu=>?_
    have kn:=kn.call0 hu
    simp only[go_sem,Qfs]
    refine Qj ?_
    simp only[go_sem,Q6,Qab,Qfg,List.mem_singleton,forall_eq,RS.op]
    have:=hK _ kn.fin
    rw[←Qbem hg hf]at this
    exact⟨_,.c _ _ (Qip (noOw_mem (Qaq _))),this⟩
theorem Qyz {bs:List UInt8}(hK:∀(cs:List CodeD) (H':Heap),Upd H H' []→UnitOk cs→K (.ag [.sl false 3 (Qp cs)]) H') :
  Qv prog Qcl [.c (.sl false 1 (Qb2 bs))] H K:=by
 refine Qz ?_
 refine Qb Qar Qrw ?_
 refine Qa ?_
 simp only[go_sem]
 intro x2 hx2 H1 h1
 have kn:=(Kn.start0 H).al hx2 h1
 refine Qa ?_
 simp only[go_sem]
 refine Qbaa fun R H2 hR h2=>?_
 have kn:=kn.al hR h2 (R.o_ne 0)
 simp only[go_sem,Qd0]
 refine Qa96 (kn.l 1 rfl) (by omega) fun cs H3 k2 hk3 hk4 hu hok=>?_
 have kn:=kn.callL 1 rfl hu (R.o_ne _)
 have hx2:=kn.l 0 rfl
 simp only[go_sem,Qdz,hx2]
 intro H5 h5
 have kn:=kn.stL 0 rfl h5
 have hx2:=kn.l 0 rfl
 refine Qj ?_
 simp only[go_sem,Q6,Qab,Qfl,List.mem_singleton,forall_eq,RS.op,hx2]
 exact⟨_,Qex cs,hK cs _ kn.fin hok⟩
end Go.AE.Y

namespace Go.AE.Y
attribute [local go_sem] cond_true cond_false Bool.not_true Bool.not_false
attribute [local instance] Classical.propDecidable
open Go.Proofs.Tryz
variable {H H0:Heap}{K:V→Heap→Prop}{E B Lg:List (Nat×Obj)}
set_option maxHeartbeats 8000000 in
theorem FnCodesNeeded_c {bs:List UInt8}(hK:∀H',K (.c (.bool true)) H'):Qv prog Qgm [.c (.sl false 1 (Qb2 bs))] H K:=by
 refine Qb Qar Qv5 ?_
 have retT':∀(e:Env) (H':Heap),lk 2 e=.c (.bool true)→Q6 Qdt K .ret e H':=by
  intro e H' h2
  simp only[go_sem,Q6,Qab,Qdt,List.mem_singleton,forall_eq,RS.op,h2]
  exact hK H'
 refine Qa ?_
 simp only[go_sem]
 refine Q4 ?_
 refine Qa ?_
 simp only[go_sem,Qaw]
 intro _
 refine Qg (Qe rfl (fun hc=>?_) (fun hc=>?_))
 ·refine Qa ?_
  simp only[go_sem]
  refine Qj ?_
  exact retT' _ _ rfl
 refine Qh ?_
 try simp only[go_sem]
 refine Qa ?_
 simp only[go_sem]
 refine Qyz fun cs H1 hu hok=>?_
 have hfit:=hok.fits
 have kn:=(Kn.start0 H).call0 hu
 simp only[go_sem,Qe4]
 intro x3 hx3 H2 h2
 have kn:=kn.al hx3 h2
 have hx3:=kn.l 0 rfl
 simp only[go_sem,Qe3,hx3]
 intro H3 h3
 have kn:Kn H H3 [] [(x3,.st [.sl false 3 (Qp cs)])]:=kn.stL 0 rfl h3
 have hx3:=kn.l 0 rfl
 refine Qa ?_
 simp only[go_sem,hx3]
 refine Q7x hfit fun H4 hu=>?_
 have kn:=kn.call0 hu
 have hx3:=kn.l 0 rfl
 simp only[go_sem,Qe5]
 refine Q4 ?_
 refine Qa ?_
 simp only[go_sem,hx3]
 refine Qq5 hfit fun H5 hu=>?_
 have kn:=kn.call0 hu
 have hx3:=kn.l 0 rfl
 simp only[go_sem,Qe6]
 refine Qa41 (ns:=(Q4y cs).map Int.ofNat) (ms:=(Q4y cs).map Int.ofNat) (.mk' _ _ _ _) rfl (.mk' _ _ _ _) rfl ?_
 cases hg:Qcb cs with
 |false=>
  have hn:Q4y cs=[]:=by rw[Q4y,hg];simp
  simp only[go_sem,Qcp,hn,Qw,List.length_nil,decide_true]
  try intro _
  refine Qg (Qe rfl ?_ ?_)
  ·intro _
   refine Qa ?_
   simp only[go_sem,hx3]
   refine Qq5 hfit fun H6 hu=>?_
   have kn:=kn.call0 hu
   have hx3:=kn.l 0 rfl
   rw[hn]
   simp only[go_sem,Qe9]
   refine Qa41 (ns:=[]) (ms:=[]) (.mk' _ _ _ _) rfl (.mk' _ _ _ _) rfl ?_
   simp only[go_sem,Qe8,hx3,decide_true]
   refine Qkw hfit fun H7 hu=>?_
   rw[hg]
   simp only[go_sem,Qe7]
   refine Qj ?_
   exact retT' _ _ rfl
  ·intro h;simp at h
 |true=>
  have hn:Q4y cs=Qjf cs:=by rw[Q4y,if_pos hg]
  obtain⟨L,hL⟩:∃L,Qjf cs=L:=⟨_,rfl⟩
  have hlast:=Qa57 hg
  have hasc:=Q8f (cs:=cs)
  have hle:=Qbf2 (cs:=cs)
  have hmem:=fun n=>Qog (n:=n) hg
  have h14:=(of_decide_eq_true hg).1
  rw[hL]at hlast hasc hle hmem hn
  obtain⟨hl0,hlast⟩:=hlast
  have hl0':decide ((L.length:Int)=0)=false:=decide_eq_false (by omega)
  simp only[go_sem,Qcp,hn,Qw,hl0',decide_true]
  try intro _
  refine Qg (Qe rfl ?_ ?_)
  ·intro h;simp at h
  intro _
  refine Qh ?_
  try simp only[go_sem]
  refine Q4 ?_
  refine Qa ?_
  simp only[go_sem,Qw]
  try intro _
  refine Qg (Qc (Qs (fun mm e1 H1=>∃(i:Nat),mm=L.length-i∧i≤L.length∧Kn H H1 [] [(x3,.st [.sl false 3 (Qp cs)])]∧
   lk 3 e1=.c (.ptr x3 0)∧lk 4 e1=.c (.sl false 1 (Q5 L))∧lk 36 e1=.c (.sl false 1 (Q5 L))∧lk 37 e1=.c (.int .i64 L.length)∧lk 38 e1=.c (.int .i64 i)) L.length ?_ ?_))
  ·exact⟨0,by omega,by omega,kn,rfl,rfl,rfl,rfl,rfl⟩
  ·clear kn hx3
   rintro mm e1 H6 ⟨i,hmm,hi,kn,l3,l4,l36,l37,l38⟩
   have hx3:=kn.l 0 rfl
   refine Qa ?_
   simp only[go_sem,l3,l4,l36,l37,l38]
   refine Qg (Qe rfl ?_ ?_)
   ·intro hc1
    have hlt:i<L.length:=by simpa using hc1
    obtain⟨k,hk⟩:∃k,L[i]=k:=⟨_,rfl⟩
    have hgd:L.getD i 0=k:=by simp[List.getD_eq_getElem?_getD,hlt,hk]
    have hnd:Nd cs k:=(hmem k).1 (by rw[←hk];exact List.getElem_mem hlt)
    have hkl:=Qa56 hg hnd
    have ho:=Qaef hg hkl
    have hgk:hasG cs (k:Int)=true:=by
     simp only[hasG,hg,Bool.true_and,decide_eq_true_eq];omega
    obtain⟨q,hq⟩:∃q,cs[k]=q:=⟨_,rfl⟩
    have hcl:Qhn cs (k:Int)=caL q:=by
     rw[Qhn,if_pos hgk]
     simp[hkl,hq]
    rw[hq]at ho
    have hcle:=Qa80 ho
    refine Qh ?_
    try simp only[go_sem]
    refine Qg (Qc ?_)
    refine Qa ?_
    simp only[go_sem,l3,l4,l36,l37,l38,hlt,Qw,Qad _ _ hlt,hgd]
    refine Qa ?_
    simp only[go_sem,hx3]
    refine Qaek hfit fun H7 hu=>?_
    have kn:=kn.call0 hu
    rw[hcl]
    simp only[go_sem,Qd6,Qca]
    try intro _
    refine Qc (Qs (fun m2 e1 H1=>∃(j:Nat),m2=(caL q).length-j∧j≤(caL q).length∧Kn H H1 [] [(x3,.st [.sl false 3 (Qp cs)])]∧
     lk 3 e1=.c (.ptr x3 0)∧lk 4 e1=.c (.sl false 1 (Q5 L))∧lk 6 e1=.c (.int .i64 k)∧lk 36 e1=.c (.sl false 1 (Q5 L))∧lk 37 e1=.c (.int .i64 L.length)∧lk 38 e1=.c (.int .i64 i)∧
     lk 44 e1=.c (.sl false 1 (Qbw (caL q)))∧lk 45 e1=.c (.int .i64 (caL q).length)∧lk 46 e1=.c (.int .i64 j)) (caL q).length ?_ ?_)
    ·exact⟨0,by omega,by omega,kn,rfl,rfl,rfl,rfl,rfl,rfl,rfl,rfl,rfl⟩
    ·clear kn hx3 l3 l4 l36 l37 l38
     rintro m2 e2 H8 ⟨j,hm2,hj,kn,l3,l4,l6,l36,l37,l38,l44,l45,l46⟩
     have hx3:=kn.l 0 rfl
     refine Qa ?_
     simp only[go_sem,l3,l4,l6,l36,l37,l38,l44,l45,l46]
     refine Qg (Qe rfl ?_ ?_)
     ·intro hc2
      have hlt2:j<(caL q).length:=by simpa using hc2
      obtain⟨p,hp⟩:∃p,(caL q)[j]=p:=⟨_,rfl⟩
      have hpm:p∈caL q:=by rw[←hp];exact List.getElem_mem hlt2
      have hkc:(Qzm q p).n.toNat∈L:=(hmem _).2 (.to hnd (by
       rw[Qaja hkl,hq];exact List.mem_map.2 ⟨p,hpm,rfl⟩))
      obtain⟨b,t,rfl,hb,ht,ho14,he⟩:=Qanw hpm
      obtain⟨w,hw,hwk⟩:∃n:Nat,q.blocks[b].ins[t].n=n∧n<k:=by
       have:=Qai9 (b:=b) (i:=t) hg hkl
       simp only[hq]at this
       exact this hb ht ho14
      rw[he,hw,Int.toNat_natCast]at hkc
      obtain⟨z,hz⟩:∃z,q.blocks[b]=z:=⟨_,rfl⟩
      simp only[hz]at ht hw
      obtain⟨x,hx⟩:∃x,z.ins[t]=x:=⟨_,rfl⟩
      rw[hx]at hw
      have tn0:Int.toNat 0=0:=rfl
      have tn1:Int.toNat 1=1:=rfl
      have h01:((0:Int)≤1)=True:=by simp
      have l01:(0<0+1+1)=True:=by simp
      have l11:(1<0+1+1)=True:=by simp
      have hct:(L.map Int.ofNat).contains (w:Int)=true:=List.contains_iff_mem.2 (List.mem_map.2 ⟨w,hkc,rfl⟩)
      refine Qh ?_
      try simp only[go_sem]
      refine Qg (Qc ?_)
      refine Qa ?_
      simp only[go_sem,l3,l4,l6,l36,l37,l38,l44,l45,l46,hlt2,Qca,Qrn _ _ hlt2,hp,pRow]
      refine Qal ?_
      simp only[go_sem,hx3,hkl,Q1,Qak _ _ hkl,CodeD.cells,hq,hb,Qk,Q7 _ _ hb,BlkD.cells,hz,ht,Qan,Qbs _ _ ht,InsD.cells,hx,hw,tn0,tn1,h01,l01,l11,Int.le_refl,List.getD_cons_zero,List.getD_cons_succ]
      refine Qbkd (ns:=L.map Int.ofNat) (.mk' _ _ _ _) rfl ?_
      simp only[go_sem,Qd7,hct]
      refine Qe rfl ?_ ?_
      ·intro h;simp at h
      intro _
      refine Qh ?_
      try simp only[go_sem]
      refine Qq ?_
      simp only[go_sem,l3,l4,l6,l36,l37,l38,l44,l45,l46]
      refine⟨Qo (by omega) (by omega),?_⟩
      show ∃m,_
      exact⟨(caL q).length-(j+1),by omega,j+1,rfl,by omega,kn,rfl,rfl,rfl,rfl,rfl,rfl,rfl,rfl,rfl⟩
     ·intro hc2
      refine Qr ?_
      simp only[go_sem,X.next]
      refine Qq ?_
      simp only[go_sem,l3,l4,l36,l37,l38]
      refine⟨Qo (by omega) (by omega),?_⟩
      show ∃m,_
      exact⟨L.length-(i+1),by omega,i+1,rfl,by omega,kn,rfl,rfl,rfl,rfl,rfl⟩
   ·intro hc1
    refine Qr ?_
    simp only[go_sem,X.next]
    refine Q4 ?_
    refine Qa ?_
    simp only[go_sem,l3,l4]
    refine Qg (Qc (Qs (fun mm e1 H1=>∃(i:Nat),mm=L.length-i∧i≤L.length∧1≤i∧Kn H H1 [] [(x3,.st [.sl false 3 (Qp cs)])]∧
     lk 3 e1=.c (.ptr x3 0)∧lk 4 e1=.c (.sl false 1 (Q5 L))∧lk 9 e1=.c (.int .i64 i)) (L.length-1) ?_ ?_))
    ·exact⟨1,by omega,by omega,by omega,kn,rfl,rfl,rfl⟩
    ·clear kn hx3 l3 l4 l36 l37 l38
     rintro m2 e2 H8 ⟨j,hm2,hj,hj1,kn,l3,l4,l9⟩
     have hx3:=kn.l 0 rfl
     refine Q4 ?_
     refine Qa ?_
     simp only[go_sem,l3,l4,l9,Qw]
     try intro _
     refine Qg (Qe rfl ?_ ?_)
     ·intro hc2
      have hlt2:j<L.length:=by simpa using hc2
      have hj0:j-1<L.length:=by omega
      have e1:(j:Int)-1=((j-1:Nat):Int):=by omega
      have hpw:=List.pairwise_iff_getElem.1 hasc (j-1) j hj0 hlt2 (by omega)
      have g0:L.getD (j-1) 0=L[j-1]:=by simp[List.getD_eq_getElem?_getD,hj0]
      have g1:L.getD j 0=L[j]:=by simp[List.getD_eq_getElem?_getD,hlt2]
      have hge:decide ((L[j]:Int)≤(L[j-1]:Int))=false:=decide_eq_false (by omega)
      refine Qh ?_
      try simp only[go_sem]
      refine Qg (Qc ?_)
      refine Qal ?_
      simp only[go_sem,l3,l4,l9,e1,hlt2,hj0,Qw,Qad _ _ hlt2,Qad _ _ hj0,g0,g1,hge]
      try refine⟨Qo (by omega) (by omega),?_⟩
      refine Qe rfl ?_ ?_
      ·intro h;simp at h
      intro _
      refine Qh ?_
      try simp only[go_sem]
      refine Qq ?_
      simp only[go_sem,l3,l4,l9]
      refine⟨Qo (by omega) (by omega),?_⟩
      show ∃m,_
      exact⟨L.length-(j+1),by omega,j+1,rfl,by omega,by omega,kn,rfl,rfl,rfl⟩
     ·intro hc2
      have e1:(L.length:Int)-1=((L.length-1:Nat):Int):=by omega
      have e2:(cs.length:Int)-1=((cs.length-1:Nat):Int):=by omega
      have hj0:L.length-1<L.length:=by omega
      have g0:L.getD (L.length-1) 0=cs.length-1:=by
       rw[←hlast hj0]
       simp[List.getD_eq_getElem?_getD,hj0]
      refine Qr ?_
      simp only[go_sem,X.next]
      refine Qal ?_
      simp only[go_sem,l3,l4,hx3,Qw,Q1,e1,e2,hj0,Qad _ _ hj0,g0,decide_true]
      try intro _
      try refine⟨Qo (by omega) (by omega),?_⟩
      try intro _
      try refine⟨Qo (by omega) (by omega),?_⟩
      refine Qj ?_
      exact retT' _ _ rfl
end Go.AE.Y

namespace Go.AE.Y
open Go.ChangeShapes Go.WideShapes Go.ChangeAt Go.RowKit
def Qbhz (w:World)(a:Option Addr)(len cap:Nat)(zs:List Int):Prop:=
 (a=none∧len=0∧cap=0∧zs=[])∨
 ∃x,a=some x∧len≤cap∧zs.length=cap∧(∀i,i<zs.length→w.cell? (x.add i)=some (.int .u8 (zs.getD i 0)))∧∀n∈zs,(Lit.int .u8 n).wf=true
theorem Qbdn (w:World):Sat (fun _=>.none) ⟨fun b=>decide (b<w.heap.size),fun _=>none,fun _=>none⟩ w:=by
 refine⟨fun b hb=>⟨by simp;omega,rfl⟩,⟨0,fun _ _=>rfl⟩,fun b x h=>by simp at h,fun b l p h=>by simp at h,fun l=>trivial⟩
theorem Qbid {n:Int}(h:(Lit.int .u8 n).wf=true):((UInt8.ofNat n.toNat).toNat:Int)=n:=by
 simp only[Lit.wf,Bool.and_eq_true,decide_eq_true_eq]at h
 have a1:IntKind.min .u8=0:=by decide
 have a2:IntKind.max .u8=255:=by decide
 rw[a1,a2]at h
 rw[UInt8.toNat_ofNat']
 omega
theorem calls_of_acall {P:Program}{f:Nat}(h:∀bs:List UInt8,bs.length≤1048576→Qv P f [.c (.sl false 1 (Qb2 bs))] (fun _=>.none) fun v _=>v=.c (.bool true))
  {a0:Option Addr} {len0 cap0:Nat} {z0:List Int} {w:World} (hr:Qbhz w a0 len0 cap0 z0) (hl:len0≤1048576) :
  Calls P f #[.slice a0 len0 cap0] w fun e w'=>e=.returned (.bool true)∧Below w.heap.size w w':=by
 have key:∃bs:List UInt8,bs.length=len0∧RepC w ⟨fun b=>decide (b<w.heap.size),fun _=>none,fun _=>none⟩ (.sl false 1 (Qb2 bs)) (.slice a0 len0 cap0):=by
  rcases hr with ⟨rfl,rfl,rfl,rfl⟩|⟨x,rfl,hlc,hz,hcell,hwf⟩
  ·exact⟨[],rfl,.slnil _ _ _⟩
  ·obtain⟨b,off,spot⟩:=x
   have hbl:((z0.take len0).map fun n=>UInt8.ofNat n.toNat).length=len0:=by simp;omega
   by_cases h0:cap0=0
   ·subst h0
    have:len0=0:=by omega
    subst this
    exact⟨[],rfl,.slnil _ _ _⟩
   have hc0:=hcell 0 (by omega)
   have hspot:spot=none:=by simpa[Addr.add]using World.cell?_spot hc0
   subst hspot
   have hadd:∀i,(⟨b,off,none⟩:Addr).add i=⟨b,off+i,none⟩:=by
    intro i
    by_cases h:i=0 <;> simp[Addr.add,h]
   have hb:b<w.heap.size:=by
    rcases Nat.lt_or_ge b w.heap.size with h|h
    ·exact h
    ·simp[World.cell?,Addr.add,Array.getElem?_eq_none h]at hc0
   refine⟨_,hbl,?_⟩
   have hget:∀(i:Nat) (row:List C),(Qb2 ((z0.take len0).map fun n=>UInt8.ofNat n.toNat))[i]? = some row→i<len0∧row=[.int .u8 (z0.getD i 0)]:=by
    intro i row hi
    have hlt:i<len0:=by
     rcases Nat.lt_or_ge i len0 with h|h
     ·exact h
     ·rw[List.getElem?_eq_none (by rw[Qaw];omega)]at hi;simp at hi
    have hz0:i<z0.length:=by omega
    refine⟨hlt,?_⟩
    simp only[Qb2,List.getElem?_map,List.getElem?_take,if_pos hlt,List.getElem?_eq_getElem hz0,Option.map_some,Option.some.injEq]at hi
    rw[←hi,Qbid (hwf _ (List.getElem_mem hz0))]
    simp[List.getD_eq_getElem?_getD,hz0]
   have:=RepC.sl (w:=w) (g:=⟨fun b=>decide (b<w.heap.size),fun _=>none,fun _=>none⟩) false 1 (Qb2 ((z0.take len0).map fun n=>UInt8.ofNat n.toNat)) b off cap0 (fun i _=>.int .u8 (z0.getD i 0))
    (by rw[Qaw,hbl];simp only[LIM];omega) (by simp) (by rw[Qaw,hbl];exact hlc) (by simpa using hb)
    (fun i row hi=>by rw[(hget i row hi).2];rfl)
    (fun i row j c hi hj=>by
     obtain⟨h1,rfl⟩:=hget i row hi
     have hj0:j=0:=by
      rcases Nat.eq_zero_or_pos j with h|h
      ·exact h
      ·rw[List.getElem?_eq_none (by simp;omega)]at hj;simp at hj
     subst hj0
     have:=hcell i (by omega)
     rw[hadd]at this
     simpa using this)
    (fun i row j c hi hj=>by
     obtain⟨h1,rfl⟩:=hget i row hi
     have hj0:j=0:=by
      rcases Nat.eq_zero_or_pos j with h|h
      ·exact h
      ·rw[List.getElem?_eq_none (by simp;omega)]at hj;simp at hj
     subst hj0
     simp at hj;subst hj
     exact .int _ _)
   rw[Qaw,hbl]at this
   exact this
 obtain⟨bs,hbl,hrep⟩:=key
 have hc:=(h bs (by omega)).2 _ w [.slice a0 len0 cap0] (Qbdn w) rfl (fun j x u hj hu=>by
  cases j with
  |zero=>simp at hj hu;subst hj;subst hu;exact .c _ _ hrep
  |succ j=>simp at hj)
 refine hc.mono fun e w'=>?_
 rintro⟨v,x,H',g',rfl,rfl,hst,hv⟩
 have:v=.bool true:=by cases hv with|c _ _ h=>cases h;rfl
 subst this
 exact⟨rfl,hst.le.os,hst.le.tape,hst.le.output,hst.le.size,fun k hk=>(hst.le.per k (by simpa using hk)).2⟩
end Go.AE.Y

