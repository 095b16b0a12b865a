/- Part 6 of the proof: the engine, codes, walks and plain laws, each named where it stands. -/
import Derived.Test.YtajdffbgjodbfaaGreatZE
import Derived.Below
import Derived.OpenShut
import Derived.ProofKit
open Nat (reduceEqDiff reduceAdd reduceLeDiff reduceLT)
set_option linter.unusedVariables false
set_option linter.unusedSimpArgs false
set_option maxRecDepth 4000
namespace Go.AE.Y
attribute [local go_sem] cond_true cond_false Bool.not_true Bool.not_false
attribute [local instance] Classical.propDecidable
open Go.Proofs.Tryz
variable {H H' F:Heap} {K:V→Heap→Prop} {q:CodeD} {os:List OBlk} {zb wl cy R n b:Nat} {ids:List Int} {nx:Int} {cs:List Int}
def wgt (os:List OBlk) (x:Nat):Nat:=match os[x]? with
 |some o=>o.phis.length+o.ins.length
 |none=>0
theorem Qbfh {x:Nat} {o:OBlk} (h:x<os.length) (ho:os[x]=o):wgt os x=o.phis.length+o.ins.length:=by simp[wgt,h,ho]
theorem Qbb7 {n:Nat} {g:Nat→List Nat} {b:Nat}:depL n g b≤n:=by
 have:=List.length_filter_le (fun a=>Qrp g a b) (List.range n)
 simpa[depL]using this
theorem Qaq6 (ids:List Int) (b:Nat):(Qn9 ids b).Nodup:=List.Nodup.sublist List.filter_sublist List.nodup_range
theorem Qa0o {N B:Nat} {w:Nat→Nat} (hw:∀x,w x≤B) (U:Nat→Prop):potW N w U≤N * B:=by
 have key:∀m,(((List.range m).filter fun x=>decide (U x)).map w).sum≤m * B:=fun m=>by
  induction m with
  |zero=>simp
  |succ m ih=>
   rw[List.range_succ,List.filter_append,List.map_append,List.sum_append,Nat.succ_mul]
   have h1:(((List.filter (fun x=>decide (U x)) [m]).map w)).sum≤B:=by
    by_cases h:U m
    ·simp[h];exact hw m
    ·simp[h]
   omega
 exact key N
noncomputable def pW (n:Nat) (w:Nat→Nat) (U:Nat→Prop):Nat:=@potW n w U fun _=>Classical.propDecidable _
theorem Qbez {w:Nat→Nat} {U V:Nat→Prop} {b:Nat} (hb:b<n) (hU:U b) (hV:∀x,V x↔U x∧x≠b):pW n w V+w b=pW n w U:=by
 unfold pW;exact Qa98 hb hU hV
theorem Qbey {w:Nat→Nat} {U V:Nat→Prop} (h:∀x,V x→U x):pW n w V≤pW n w U:=by
 unfold pW;exact Qbdl h
theorem Qa93 {N B:Nat} {w:Nat→Nat} (hw:∀x,w x≤B) (U:Nat→Prop):pW N w U≤N * B:=by
 unfold pW;exact Qa0o hw U
set_option maxHeartbeats 8000000 in
theorem Qbde (c:NC q os zb R n ids) (M:Int) (hM:M≤2 ^ 40):∀(N b:Nat) (U:Nat→Prop) (nx:Int) (cs:List Int) (cy:Nat) (H:Heap) (K:V→Heap→Prop),n<N+depL n (nxN (gnx q)) b→b<n→(∀x,Sub ids b x→U x)→NSt q os zb n R wl cy ids H nx cs (XU os zb U) H→0≤nx→nx+pW n (wgt os) U≤M→
  (∀nx' cs' H',NSt q os zb n R wl cy ids H nx' cs' (XU os zb fun x=>U x∧¬Sub ids b x) H'→0≤nx'→nx'+pW n (wgt os) (fun x=>U x∧¬Sub ids b x)≤M→K (.tup []) H')→
  Qv prog Qcb [.c (.ptr wl 0),.c (.int .i64 b),.c (.vsl cy 1 0 R)] H K:=by
 intro N
 induction N with
 |zero=>intro b U nx cs cy H K h1;have:=Qbb7 (n:=n) (g:=nxN (gnx q)) (b:=b);omega
 |succ N ih=>
  intro b U nx cs cy H K hN hb hUs s h0 hpot hK
  obtain⟨hl,hq,hd,hok,hyo,hpl,hil⟩:=c.get hb
  obtain⟨o,ho⟩:∃o,os[b]=o:=⟨_,rfl⟩
  obtain⟨y,hy⟩:∃y,q.blocks[b]=y:=⟨_,rfl⟩
  rw[ho]at hd hok hpl hil
  rw[hy]at hd hyo
  have ap:Apart os zb:=s.t.nodup
  have hbU:U b:=hUs b .refl
  obtain⟨U1,hU1⟩:∃U1:Nat→Prop,U1=fun x=>U x∧x≠b:=⟨_,rfl⟩
  have hU1b:¬U1 b:=by rw[hU1];exact fun h=>h.2 rfl
  have hpo:=Qbez (n:=n) (w:=wgt os) (U:=U) (V:=U1) hb hbU (fun x=>by rw[hU1])
  rw[Qbfh hl ho]at hpo
  have s1:NSt q os zb n R wl cy ids H nx cs (XC os zb U1 o b true 0 0) H:=by
   refine⟨?_,s.c⟩
   refine s.t.weak fun m r hh=>?_
   rcases hh with (h|⟨x,hx,hUx,he⟩)|⟨_,h1,h2⟩|⟨p,hp,h1,_⟩|⟨i',hi',h1,_⟩
   ·exact .inl h
   ·rw[hU1]at hUx;exact .inr ⟨x,hx,hUx.1,he⟩
   ·exact .inr ⟨b,hl,hbU,.inl ⟨h1,h2⟩⟩
   ·exact .inr ⟨b,hl,hbU,.inr ⟨p,by rw[ho];exact List.mem_append_right _ hp,h1⟩⟩
   ·exact .inr ⟨b,hl,hbU,.inr ⟨_,by rw[ho];exact List.mem_append_left _ (o.aM hi'),h1⟩⟩
  have hXph:∀p∈o.phN,∀r,¬XC os zb U1 o b true 0 0 p.1 r:=fun p hp r hh=>by
   have hp':p∈os[b].phN:=by rw[ho];exact hp
   rcases hh with h|h
   ·exact ap.ph hl hp' r h
   ·exact ap.phP hl hl hp' true 0 0 r (by rw[ho];exact h)
  clear s
  refine Qb Qas Q0a ?_
  have hw:=s1.w
  rw[wO]at hw
  obtain⟨RW,j,on,hzb,hRWl,hRWt,hRWg,_,_⟩:=Q4b s1.t c hb hl ho
  refine Qa ?_
  simp only[go_sem,hw,hzb,hRWl,hb,Nat.zero_add,Nat.le_refl]
  refine phA c hb hl ho hXph s1 ⟨rfl,rfl,rfl,rfl⟩ h0 (by omega) (by omega) fun e2 H2 s2 k2=>?_
  refine phB c hb hl ho hd hq hy s2 k2 (by omega) fun e3 H3 cs3 s3 k3=>?_
  refine phC c hb hl ho hd hq hy hU1b s3 k3 (by omega) (by omega) (by omega) fun e4 H4 nx4 cs4 hn1 hn2 s4 k4=>?_
  refine phD c hb hl ho hd hq hy hU1b s4 k4 fun e5 H5 s5 k5=>?_
  refine phE c hb hl ho hd hq hy s5 k5 fun e6 H6 s6 k6=>?_
  obtain⟨l0,l1,l2,l6⟩:=k6
  have hw:=s6.w
  rw[wO]at hw
  refine Qa ?_
  simp only[go_sem,l0,l1,l2,l6,hw]
  refine Qa37 (by rw[c.t.1];have:=c.ok.b1;rw[c.hn]at this;omega) fun H7 hu=>?_
  have s7:NSt q os zb n R wl cy ids H nx4 cs4 (XU os zb U1) H7:=⟨s6.t.call0 hu,s6.c⟩
  simp only[go_sem,Qeo,l0,l1,l2,l6]
  obtain⟨kl,hkl⟩:∃kl,Qn9 ids b=kl:=⟨_,rfl⟩
  rw[hkl]
  have hkll:kl.length≤160:=by
   have h1:=List.length_filter_le (fun i=>decide (ids.getD i 0=(b:Int))) (List.range ids.length)
   rw[List.length_range,c.t.1]at h1
   have h2:=c.ok.b1
   rw[c.hn]at h2
   rw[←hkl,Qn9,c.t.1];omega
  have hkm:∀k∈kl,k∈Qn9 ids b:=fun k hk=>by rw[hkl];exact hk
  have hknd:kl.Nodup:=by rw[←hkl];exact Qaq6 ids b
  refine Qa ?_
  simp only[go_sem]
  refine Qc (Qw (fun m e1 H1=>∃(i:Nat) (nx':Int) (cs:List Int),m=kl.length-i∧i≤kl.length∧NSt q os zb n R wl cy ids H nx' cs (XU os zb fun x=>U1 x∧∀k∈kl.take i,¬Sub ids k x) H1∧0≤nx'∧nx'+pW n (wgt os) (fun x=>U1 x∧∀k∈kl.take i,¬Sub ids k x)≤M∧
   lk 0 e1=.c (.ptr wl 0)∧lk 2 e1=.c (.vsl cy 1 0 R)∧lk 16 e1=.c (.sl false 1 (Qaa kl))∧lk 17 e1=.c (.int .i64 i)) kl.length ?_ ?_)
  ·refine⟨0,nx4,cs4,by omega,by omega,⟨s7.t.weak fun m r hh=>?_,s7.c⟩,by omega,?_,rfl,rfl,rfl,rfl⟩
   ·rcases hh with h|⟨x,hx,hUx,he⟩
    ·exact .inl h
    ·exact .inr ⟨x,hx,hUx.1,he⟩
   ·have:=Qbey (n:=n) (w:=wgt os) (U:=U1) (V:=fun x=>U1 x∧∀k∈kl.take 0,¬Sub ids k x) fun x hx=>hx.1
    omega
  ·clear hw hzb hRWl hRWt hRWg s1 s6 s7 hu l0 l1 l2 l6
   rintro m e7 H8 ⟨i,nx',cs,hm,hi,s,hn0,hpot',l0,l2,l16,l17⟩
   refine Q3 ?_
   refine Qa ?_
   simp only[go_sem,l0,l2,l16,l17,Q1]
   try intro _
   refine Qh (Qd rfl ?_ ?_)
   ·intro hc
    have hlt:i<kl.length:=by simpa using hc
    obtain⟨k,hk⟩:∃k,kl[i]=k:=⟨_,rfl⟩
    have hkmem:k∈Qn9 ids b:=hkm k (by rw[←hk];exact List.getElem_mem hlt)
    have hgd:kl.getD i 0=k:=by simp[List.getD_eq_getElem?_getD,hlt,hk]
    have hkid:=kidsL_mem.1 hkmem
    have hkn:k<n:=by rw[←c.t.1];exact hkid.1
    have hdep:=(c.t.up hkid.1 hkid.2).2
    have hcu:=s.cu
    refine Qi ?_
    try simp only[go_sem]
    refine Qh (Qc ?_)
    refine Qa8 ?_
    simp only[go_sem,l0,l2,l16,l17,hlt,Q1,Qar _ _ hlt,hgd,hcu,s.ct,s.cl,List.nil_append,List.length_nil,List.drop_zero,Nat.zero_add,Nat.le_refl]
    refine⟨.inl trivial,Qu _,by have h1:=c.ok.r1;have h2:=c.ok.r0;have:=c.hR;simp only[LIM];omega,fun z hz H9 h9=>?_⟩
    have t9:=s.t.al hz h9
    simp only[go_sem,Qep,l0,l2,l16,l17,hlt,Q1,Qar _ _ hlt,hgd]
    have hsub:Ty (LGo os zb) H9 [(wl,wO q ids zb n nx'),(z,.vec 1 (Qg cs))] (XU os zb fun x=>U1 x∧∀k∈kl.take i,¬Sub ids k x) H9 []:=Ty.sub (L:=[]) t9
    refine ih k (fun x=>U1 x∧∀k∈kl.take i,¬Sub ids k x) nx' cs z H9 _ (by omega) hkn (fun x hx=>?_) ⟨hsub,s.c⟩ hn0 hpot' fun nx2 cs2 H10 s10 hn2' hpot2=>?_
    ·refine⟨?_,fun k' hk' hs'=>?_⟩
     ·rw[hU1]
      refine⟨hUs x (Sub.kid hkmem hx),fun hxb=>?_⟩
      subst hxb
      exact Sub.kid_ne c.t hkmem hx
     ·have hk'm:k'∈kl:=List.mem_of_mem_take hk'
      have:=Sub.kids_apart c.t (hkm k' hk'm) hkmem hs' hx
      subst this
      rw[←hk]at hk'
      exact Qay0 hknd hlt hk'
    have hXeq:∀x,(U1 x∧∀k∈kl.take (i+1),¬Sub ids k x)↔((U1 x∧∀k∈kl.take i,¬Sub ids k x)∧¬Sub ids k x):=fun x=>by
     rw[List.take_succ_eq_append_getElem hlt,hk]
     constructor
     ·rintro⟨g1,g2⟩
      exact⟨⟨g1,fun k' hk'=>g2 k' (List.mem_append_left _ hk')⟩,g2 k (List.mem_append_right _ (by simp))⟩
     ·rintro⟨⟨g1,g2⟩,g3⟩
      refine⟨g1,fun k' hk'=>?_⟩
      rcases List.mem_append.1 hk' with h|h
      ·exact g2 k' h
      ·simp only[List.mem_singleton]at h;rw[h];exact g3
    have hfe:(fun x=>U1 x∧∀k∈kl.take (i+1),¬Sub ids k x)=fun x=>(U1 x∧∀k∈kl.take i,¬Sub ids k x)∧¬Sub ids k x:=funext fun x=>propext (hXeq x)
    have t11:=Ty.ret (L:=[]) t9 s10.t
    refine Qq ?_
    simp only[go_sem,l0,l2,l16,l17]
    refine⟨Qo (by omega) (by omega),?_⟩
    show ∃m,_
    refine⟨kl.length-(i+1),by omega,i+1,nx2,cs,rfl,by omega,?_,hn2',?_,rfl,rfl,rfl,rfl⟩
    ·rw[hfe];exact⟨t11,s.c⟩
    ·rw[hfe];exact hpot2
   ·intro hc
    have hie:i=kl.length:=by have:kl.length≤i:=(by simpa using hc);omega
    subst hie
    rw[List.take_length]at s hpot'
    refine Qs ?_
    simp only[go_sem,X.next,Q5,Qad,Qjr,List.not_mem_nil,false_imp_iff,implies_true,List.map_nil]
    have hsubset:∀x,(U x∧¬Sub ids b x)→(U1 x∧∀k∈kl,¬Sub ids k x):=fun x hx=>by
     refine⟨by rw[hU1];exact⟨hx.1,fun hxb=>hx.2 (by rw[hxb];exact .refl)⟩,fun k hk hs=>hx.2 (Sub.kid (hkm k hk) hs)⟩
    refine hK nx' cs H8 ⟨s.t.weak fun m r hh=>?_,s.c⟩ hn0 ?_
    ·rcases hh with h|⟨x,hx,hUx,he⟩
     ·exact .inl h
     ·exact .inr ⟨x,hx,hsubset x hUx,he⟩
    ·have:=Qbey (n:=n) (w:=wgt os) hsubset
     omega
theorem LGo.vec {zb:Nat} (hok:∀b∈os,b.ok) (how:∀b∈os,∀p∈b.phis,p.own):∀p∈LGo os zb,∃sz rows,p.2=.vec sz rows:=fun p hp=>by
 rcases List.mem_append.1 hp with hp|hp
 ·obtain⟨o,ho,hp⟩:=List.mem_flatMap.1 hp
  have h1:=hok o ho
  simp only[OBlk.lg,List.mem_append]at hp
  rcases hp with hp|hp|hp|hp|hp
  ·simp only[OInts.lg,List.mem_singleton]at hp;rw[hp];exact⟨_,_,rfl⟩
  ·obtain⟨x,hx,hp⟩:=List.mem_flatMap.1 hp
   obtain⟨y,_,e⟩:=how o ho x hx
   rw[e]at hp
   simp only[List.mem_singleton]at hp;rw[hp];exact⟨_,_,rfl⟩
  ·rcases h1.p with ⟨_,_,e⟩|⟨y,_,e⟩
   ·rw[e]at hp;simp at hp
   ·rw[e]at hp;simp only[List.mem_singleton]at hp;rw[hp];exact⟨_,_,rfl⟩
  ·obtain⟨x,hx,hp⟩:=List.mem_flatMap.1 hp
   simp only[OIns.lg,OInts.lg,List.mem_singleton]at hp;rw[hp];exact⟨_,_,rfl⟩
  ·rcases h1.i with ⟨_,_,e⟩|⟨y,_,e⟩
   ·rw[e]at hp;simp at hp
   ·rw[e]at hp;simp only[List.mem_singleton]at hp;rw[hp];exact⟨_,_,rfl⟩
 ·simp only[List.mem_singleton]at hp;rw[hp];exact⟨_,_,rfl⟩
theorem Qbba {LG E0:List (Nat×Obj)} {Z:Nat→Nat→Prop} (hv:∀p∈LG,∃sz rows,p.2=.vec sz rows) (kn:Kn H H (E0++LG) []):Ty LG H E0 Z H []:=by
 refine⟨LG,rfl,fun p hp ob hob=>?_,kn⟩
 have hd:=kn.dE
 rw[List.map_append]at hd
 have hnd:=(List.nodup_append.1 hd).2.1
 obtain⟨i1,g1⟩:=List.getElem?_of_mem hp
 obtain⟨i2,g2⟩:=List.getElem?_of_mem hob
 have:=Qb6 hnd g1 g2 rfl
 subst this
 rw[g1]at g2
 have e:p.2=ob:=by rw[Option.some.inj g2]
 obtain⟨sz,rows,h⟩:=hv p hp
 rw[←e,h];exact .same _ _
theorem Qaee {S:Nat→Bool} {Z:Nat→Prop} {m k:Nat} {ns:List Int} (hs:SimO Z (.vec 1 (Qg ns)) (H m)) (hS:S m=true) (hk:k=ns.length):∃ns':List Int,ns'.length=ns.length∧FrzC H S (.vsl m 1 0 k) (.sl false 1 (Qg ns')):=by
 obtain⟨ns',h1,h2,_⟩:=Qaza (X:=fun _=>Z) (m:=m) hs
 exact⟨ns',h2,(FrzR.same (Qu _)).vsl hS h1 (by rw[Qe];omega)⟩
theorem Q17 {β:Type} {S:Nat→Bool} {g:β→List C} {P:β→Prop}:∀(l:List (List C)),(∀r∈l,∃y,FrzL H S r (g y)∧P y)→∃l':List β,FrzR H S l (l'.map g)∧l'.length=l.length∧∀y∈l',P y
 |[],_=>⟨[],.nil,rfl,by simp⟩
 |x::l,h=>by
  obtain⟨y,hy,hp⟩:=h x List.mem_cons_self
  obtain⟨l',hl',hn,hps⟩:=Q17 l fun z hz=>h z (List.mem_cons_of_mem _ hz)
  refine⟨y::l',.cons hy hl',by simp[hn],fun z hz=>?_⟩
  rcases List.mem_cons.1 hz with rfl|hz
  ·exact hp
  ·exact hps z hz
theorem Qa5x {l:List (List C)} {r:List C} (h:r∈l):∃i,i<l.length∧l.getD i []=r:=by
 obtain⟨i,hi,rfl⟩:=List.mem_iff_getElem.1 h
 exact⟨i,hi,by simp[List.getD_eq_getElem?_getD,hi]⟩
theorem Qa75 {S:Nat→Bool} {Z:Nat→Nat→Prop} {o:OBlk} (hok:o.ok) (how:∀p∈o.phis,p.own) (hs:∀p∈o.phN,SimO (Z p.1) p.2 (H p.1)∧S p.1=true):∃ps:List PhiD,FrzC H S o.pc (.sl false 2 (Qaj ps))∧ps.length=o.phis.length:=by
 rcases hok.p with ⟨h1,h2,_⟩|⟨z,h1,h2⟩
 ·have h0:o.phis=[]:=List.map_eq_nil_iff.1 h2
  exact⟨[],by rw[h1];exact FrzR.nil.sl,by simp[h0]⟩
 ·obtain⟨hz,hSz⟩:=hs (z,.vec 2 (o.phis.map OPhi.row)) (List.mem_append_right _ (by rw[h2];simp))
  obtain⟨PR,g1,g2,g3⟩:=hz.get
  rw[List.length_map]at g2 g3
  obtain⟨ps,e1,e2,_⟩:=Q17 (H:=H) (S:=S) (g:=PhiD.cells) (P:=fun _=>True) PR fun r hr=>by
   obtain⟨i,hi,he⟩:=Qa5x hr
   have hi':i<o.phis.length:=by omega
   obtain⟨h4,_⟩:=g3 i hi'
   obtain⟨ya,e3,e4⟩:=how _ (List.getElem_mem hi')
   have hg:(o.phis.map OPhi.row).getD i []=[.int .i64 o.phis[i].to,.vsl ya 1 0 o.phis[i].ns.length]:=by
    simp only[List.getD_eq_getElem?_getD,List.getElem?_map,List.getElem?_eq_getElem hi',Option.map_some,Option.getD_some,OPhi.row,e3]
   rw[hg,he]at h4
   have hya:=hs (ya,.vec 1 (Qg o.phis[i].ns)) (List.mem_append_left _ (List.mem_flatMap.2 ⟨_,List.getElem_mem hi',by rw[e4];simp⟩))
   obtain⟨ns',_,hfr⟩:=Qaee hya.1 hya.2 rfl
   cases h4 with
   |cons a1 t1=>cases t1 with
    |cons a2 t2=>cases t2 with
     |nil=>
      obtain⟨v,e⟩:=a1.int
      have e5:=a2.vsl
      subst e;subst e5
      exact⟨⟨v,ns'⟩,.cons (Qf rfl) (.cons hfr .nil),trivial⟩
  exact⟨ps,by rw[h1];exact e1.vsl hSz g1 (by rw[List.length_map,g2]),by omega⟩
theorem Qbby {S:Nat→Bool} {Z:Nat→Nat→Prop} {o:OBlk} (hok:o.ok) (hs:∀p∈o.inN,SimO (Z p.1) p.2 (H p.1)∧S p.1=true):∃is:List InsD,FrzC H S o.ic (.sl false 4 (Qbo is))∧is.length=o.ins.length:=by
 rcases hok.i with ⟨h1,h2,_⟩|⟨z,h1,h2⟩
 ·have h0:o.ins=[]:=List.map_eq_nil_iff.1 h2
  exact⟨[],by rw[h1];exact FrzR.nil.sl,by simp[h0]⟩
 ·obtain⟨hz,hSz⟩:=hs (z,.vec 4 (o.ins.map OIns.row)) (List.mem_append_right _ (by rw[h2];simp))
  obtain⟨PR,g1,g2,g3⟩:=hz.get
  rw[List.length_map]at g2 g3
  obtain⟨ps,e1,e2,_⟩:=Q17 (H:=H) (S:=S) (g:=InsD.cells) (P:=fun _=>True) PR fun r hr=>by
   obtain⟨i,hi,he⟩:=Qa5x hr
   have hi':i<o.ins.length:=by omega
   obtain⟨h4,_⟩:=g3 i hi'
   have hg:(o.ins.map OIns.row).getD i []=[.int .i64 o.ins[i].op,.int .i64 o.ins[i].to,.vsl o.ins[i].a.y 1 0 o.ins[i].a.ns.length,.int .i64 o.ins[i].n]:=by
    simp only[List.getD_eq_getElem?_getD,List.getElem?_map,List.getElem?_eq_getElem hi',Option.map_some,Option.getD_some]
    rfl
   rw[hg,he]at h4
   have hya:=hs (o.ins[i].a.y,.vec 1 (Qg o.ins[i].a.ns)) (List.mem_append_left _ (o.aM hi'))
   obtain⟨ns',_,hfr⟩:=Qaee hya.1 hya.2 rfl
   cases h4 with
   |cons a1 t1=>cases t1 with
    |cons a2 t2=>cases t2 with
     |cons a3 t3=>cases t3 with
      |cons a4 t4=>cases t4 with
       |nil=>
        obtain⟨v1,f1⟩:=a1.int
        obtain⟨v2,f2⟩:=a2.int
        have f3:=a3.vsl
        obtain⟨v4,f4⟩:=a4.int
        subst f1;subst f2;subst f3;subst f4
        exact⟨⟨v1,v2,ns',v4⟩,.cons (Qf rfl) (.cons (Qf rfl) (.cons hfr (.cons (Qf rfl) .nil))),trivial⟩
  exact⟨ps,by rw[h1];exact e1.vsl hSz g1 (by rw[List.length_map,g2]),by omega⟩
theorem Qa74 {S:Nat→Bool} {Z:Nat→Nat→Prop} (c:NC q os zb R n ids) (t:∀p∈LGo os zb,SimO (Z p.1) p.2 (H p.1)) (hS:∀p∈LGo os zb,S p.1=true) :
  ∃bs:List BlkD,FrzC H S (.vsl zb 5 0 n) (.sl false 5 (Ql bs))∧bs.length=n∧∀y∈bs,y.ins.length≤1200∧y.phis.length≤1200:=by
 have hs:=t _ LGo.zbm
 obtain⟨RW,h1,h2,h3⟩:=hs.get
 rw[List.length_map,c.l]at h2
 obtain⟨bs,e1,e2,e3⟩:=Q17 (H:=H) (S:=S) (g:=BlkD.cells) (P:=fun y=>y.ins.length≤1200∧y.phis.length≤1200) RW fun r hr=>by
  obtain⟨x,hx,he⟩:=Qa5x hr
  have hxn:x<n:=by omega
  obtain⟨hl,hq,hd,hok,hyo,hpl,hil⟩:=c.get hxn
  obtain⟨RW',j,on,g1,g2,_,g4,_,_⟩:=Qa5v hs c hxn hl rfl
  rw[h1]at g1
  cases g1
  rw[g4]at he
  subst he
  have hsx:∀p∈os[x].lg,SimO (Z p.1) p.2 (H p.1)∧S p.1=true:=fun p hp=>⟨t p (LGo.of hl hp),hS p (LGo.of hl hp)⟩
  obtain⟨ps,p1,p2⟩:=Qa75 (H:=H) (S:=S) (Z:=Z) hok (c.ow _ (List.getElem_mem hl)) fun p hp=>hsx p (OBlk.phM hp)
  obtain⟨is,i1,i2⟩:=Qbby (H:=H) (S:=S) (Z:=Z) hok fun p hp=>hsx p (OBlk.inM hp)
  have hnx:=hsx _ os[x].nxM
  obtain⟨ns',_,n2⟩:=Qaee hnx.1 hnx.2 rfl
  exact⟨⟨ps,is,j,on,ns'⟩,.cons p1 (.cons i1 (.cons (Qf rfl) (.cons (Qf rfl) (.cons n2 .nil)))),by show is.length≤_;omega,by show ps.length≤_;omega⟩
 exact⟨bs,e1.vsl (hS _ LGo.zbm) h1 (by omega),by omega,e3⟩
set_option maxHeartbeats 8000000 in
theorem Qaq9 {q:CodeD} (ho:q.ok) (hpar:0≤q.params) (hpr:q.params≤q.regs) (h9:∀y∈q.blocks,y.ins.length≤900∧y.phis.length≤900) (hK:∀(d:CodeD) H',d.fits→Upd H H' []→K (.ag d.cells) H') :
  Qv prog Qlf [.ag [.int .i64 q.params,.int .i64 q.regs,.sl false 5 (Ql q.blocks)]] H K:=by
 refine Qy ?_
 refine Qb Qas Qarj ?_
 refine Qa ?_
 simp only[go_sem]
 intro x2 hx2 H1 h1
 have kn:=(Kn.start0 H).al hx2 h1
 refine Qa ?_
 simp only[go_sem]
 refine Qaz7 ho hpar h9 fun d1 H2 hd1 hp1 hr1 h9d hu=>?_
 have kn:=kn.call0 hu
 simp only[go_sem,Qpd,CodeD.cells]
 refine Qa4b hd1 h9d fun d2 H3 hd2 hp2 hr2 hu=>?_
 have kn:=kn.call0 hu
 have hp:d2.params=q.params:=hp2.trans hp1
 have hr:d2.regs=q.regs:=hr2.trans hr1
 simp only[go_sem,Qpc,CodeD.cells]
 intro x3 hx3 H4 h4
 have kn:=kn.al hx3 h4
 have hx3:=kn.l 1 rfl
 simp only[go_sem,Qpb,hx3]
 intro H5 h5
 have kn:Kn H H5 [] [(x2,.st [.int .i64 0,.int .i64 0,.sl true 5 []]),(x3,.st [.int .i64 d2.params,.int .i64 d2.regs,.sl false 5 (Ql d2.blocks)])]:=kn.stL 1 rfl h5
 have hx3:=kn.l 1 rfl
 have hb0:=hd2.b0
 have hb1:=hd2.b1
 have hrr0:=hd2.r0
 have hrr1:=hd2.r1
 refine Qao ?_
 simp only[go_sem,hx3]
 refine Qaev hd2.sg fun o H6 k2 hok hod how=>?_
 have kn:=kn.comp0 k2
 obtain⟨n,hn⟩:∃n,d2.blocks.length=n:=⟨_,rfl⟩
 have hol:o.blocks.length=n:=by rw[←hn,←hod];simp[OCode.d]
 obtain⟨zb,hbc,hbl⟩:∃z,o.bc=.vsl z 5 0 n∧o.bl=[(z,.vec 5 (o.blocks.map OBlk.row))]:=by
  rcases hok.b with ⟨_,h,_⟩|⟨y,h1,h2⟩
  ·have:=congrArg List.length h;simp only[List.length_map,List.length_nil]at this;omega
  ·exact⟨y,by rw[h1,List.length_map,hol],h2⟩
 have hrow:o.row=[.int .i64 d2.params,.int .i64 d2.regs,.vsl zb 5 0 n]:=by
  rw[OCode.row,hbc,←hod];rfl
 have hlg:o.lg=LGo o.blocks zb:=by rw[OCode.lg,hbl];rfl
 have hos:o.blocks.map OBlk.d=d2.blocks:=by rw[←hod];rfl
 have hobs:=hok.bs
 rw[hlg]at kn
 have hx3:=kn.l 1 rfl
 simp only[go_sem,Qph,hx3]
 refine Qaja (rows:=Ql d2.blocks) (nx:=gnx d2) (Qaq5 hd2.gd) (by rw[Qk];exact hd2.fitB) fun H7 hu=>?_
 have kn:=kn.call0 hu
 have hx3:=kn.l 1 rfl
 rw[Qk,hn]
 simp only[go_sem,Qpg,hx3]
 refine Qaz6 (by omega) (by omega) fun ids H8 htree hu=>?_
 have kn:=kn.call0 hu
 have hx3:=kn.l 1 rfl
 rw[hrow]
 simp only[go_sem,Qpf,hx3]
 intro x4 hx4 H9 h9'
 have kn:=kn.al hx4 h9'
 have hx3:=kn.l 1 rfl
 simp only[go_sem,Qpe]
 obtain⟨R,hR⟩:∃R:Nat,d2.regs.toNat=R:=⟨_,rfl⟩
 have hRq:d2.regs=(R:Int):=by omega
 refine Qa ?_
 simp only[go_sem,hx3]
 refine⟨by omega,by simp only[LIM];omega,fun cy hcy H10 h10=>?_⟩
 rw[Qr2,hR]at h10
 have kn:=kn.al hcy h10
 simp only[go_sem,Qpi,hR]
 refine Q3 ?_
 refine Qa ?_
 simp only[go_sem]
 generalize hos0:o.blocks=os at *
 have kn:Kn H H10 [] ([(cy,.vec 1 (Qg (List.replicate R 0)))]++([(x2,.st [.int .i64 0,.int .i64 0,.sl true 5 []]),(x3,.st [.int .i64 d2.params,.int .i64 d2.regs,.sl false 5 (Ql d2.blocks)])]++([(x4,wO d2 ids zb n q.params)]++LGo os zb))):=kn.perm (Qr fun f hf h0 hc hp=>by
  have e2:∀(a b:Nat×Obj),f [a,b]=f [a]+f [b]:=fun a b=>hc a [b]
  simp only[hf,e2,wO];omega)
 refine Qh (Qc (Qw (fun m e1 H1=>∃(r:Nat) (cs:List Int),m=q.params.toNat-r∧(r:Int)≤q.params∧cs.length=R∧
  Kn H H1 [] ([(cy,.vec 1 (Qg cs))]++([(x2,.st [.int .i64 0,.int .i64 0,.sl true 5 []]),(x3,.st [.int .i64 d2.params,.int .i64 d2.regs,.sl false 5 (Ql d2.blocks)])]++([(x4,wO d2 ids zb n q.params)]++LGo os zb)))∧
  lk 1 e1=.c (.pp [.int .i64 q.params,.int .i64 q.regs,.sl false 5 (Ql q.blocks)])∧lk 2 e1=.c (.ptr x2 0)∧lk 4 e1=.c (.ptr x4 0)∧lk 5 e1=.c (.vsl cy 1 0 R)∧lk 6 e1=.c (.int .i64 r)) q.params.toNat ?_ ?_))
 ·exact⟨0,List.replicate R 0,by omega,hpar,by simp,kn,rfl,rfl,rfl,rfl,rfl⟩
 ·clear kn h10
  rintro m e1 H11 ⟨r,cs,hm,hrp,hcl,kn,l1,l2,l4,l5,l6⟩
  refine Q3 ?_
  refine Qa ?_
  simp only[go_sem,l1,l2,l4,l5,l6]
  refine Qh (Qd rfl ?_ ?_)
  ·intro hc
   have hlt:(r:Int)<q.params:=by simpa using hc
   have hrR:r<R:=by omega
   have hrc:r<cs.length:=by omega
   have hcu:=kn.l 0 rfl
   have hct:(Qg cs).take R=Qg cs:=List.take_of_length_le (by rw[Qe];omega)
   refine Qi ?_
   try simp only[go_sem]
   refine Qh (Qc ?_)
   refine Qq ?_
   simp only[go_sem,hcu,hct,Qe,hcl,hrR,Qt _ _ hrc,Qcd,Nat.zero_add,Nat.le_refl]
   intro H12 h12
   have kn:=kn.stL 0 rfl h12
   refine Qq ?_
   simp only[go_sem]
   refine⟨Qo (by omega) (by omega),?_⟩
   show ∃m,_
   exact⟨q.params.toNat-(r+1),by omega,r+1,_,rfl,by omega,by rw[List.length_set];exact hcl,kn,rfl,rfl,rfl,rfl,by simp[lk]⟩
  ·intro hc
   refine Qs ?_
   simp only[go_sem,X.next]
   have hC:NC d2 os zb R n ids:=⟨hd2,hn,hR,hol,fun x h h'=>by
    have h1:(os.map OBlk.d)[x]? = some os[x].d:=by simp[h]
    rw[hos,List.getElem?_eq_getElem h']at h1
    exact (Option.some.inj h1).symm,hobs,how,htree⟩
   have kn:Kn H H11 [] ((([(x4,wO d2 ids zb n q.params),(cy,.vec 1 (Qg cs))])++LGo os zb)++[(x2,.st [.int .i64 0,.int .i64 0,.sl true 5 []]),(x3,.st [.int .i64 d2.params,.int .i64 d2.regs,.sl false 5 (Ql d2.blocks)])]):=kn.perm (Qr fun f hf h0 hc hp=>by
    have e2:∀(a b:Nat×Obj),f [a,b]=f [a]+f [b]:=fun a b=>hc a [b]
    simp only[hf,e2];omega)
   have hw0:wgt os=wgt os:=rfl
   have hwb:∀x,wgt os x≤2400:=fun x=>by
    rw[wgt]
    cases hx:os[x]? with
    |none=>simp
    |some o'=>
     obtain⟨hxl,hxo⟩:=List.getElem?_eq_some_iff.1 hx
     have hxn:x<n:=by omega
     obtain⟨_,_,_,_,_,a1,a2⟩:=hC.get hxn
     rw[hxo]at a1 a2
     show o'.phis.length+o'.ins.length≤2400
     omega
   have hpb:=Qa93 (N:=n) hwb (fun _=>True)
   have hst:NSt d2 os zb n R x4 cy ids H11 q.params cs (XU os zb fun _=>True) H11:=⟨Qbba (LGo.vec hobs how) kn.mid,hcl⟩
   refine Qa ?_
   simp only[go_sem,l1,l2,l4,l5,l6]
   refine Qbde hC (2 ^ 40) (Int.le_refl _) (n+1) 0 (fun _=>True) q.params cs cy H11 _ (by omega) (by omega) (fun _ _=>trivial) hst (by omega) (by
    have:n * 2400≤160 * 2400:=Nat.mul_le_mul_right _ (by omega)
    omega) fun nx' cs' H12 s2 hn0 hpot=>?_
   obtain⟨t2,hcl2⟩:=s2
   have hwx:=Ty.e t2 0 rfl
   have ht2:=t2
   obtain⟨E1,g1,g2,k3⟩:=t2
   have kn:=kn.comp k3 (by simp[g1])
   have kn:Kn H H12 [] ([(x4,wO d2 ids zb n nx'),(x2,.st [.int .i64 0,.int .i64 0,.sl true 5 []])]++([(x3,.st [.int .i64 d2.params,.int .i64 d2.regs,.sl false 5 (Ql d2.blocks)])]++([(cy,.vec 1 (Qg cs'))]++E1))):=kn.perm (Qr fun f hf h0 hc hp=>by
    have e2:∀(a b:Nat×Obj),f [a,b]=f [a]+f [b]:=fun a b=>hc a [b]
    simp only[hf,h0,e2];omega)
   rw[wO]at hwx
   try simp only[go_sem,l2,l4]
   refine Qa ?_
   simp only[go_sem,l2,l4,hwx]
   intro H13 h13
   have kn:=kn.stL 0 rfl h13
   have hx4:=kn.l 0 rfl
   have hx2:=kn.l 1 rfl
   refine Qa ?_
   simp only[go_sem,hx4,hx2]
   intro H14 h14
   have kn:=kn.stL 1 rfl h14
   have hx2:=kn.l 1 rfl
   refine Qj ?_
   simp only[go_sem,Q5,Qad,Q3y,List.mem_singleton,forall_eq,RS.op,hx2]
   have hE:∀p∈E1,H14 p.1=p.2∧un H p.1=true:=fun p hp=>by
    have hm:p∈([(x4,Obj.st [.int .i64 d2.params,.int .i64 d2.regs,.sl false 5 (Ql d2.blocks),.int .i64 d2.params,.int .i64 nx',.vsl zb 5 0 n,.sl false 1 (Qg ids),.int .i64 nx']),(x2,.st [.int .i64 d2.params,.int .i64 nx',.vsl zb 5 0 n])]++([(x3,.st [.int .i64 d2.params,.int .i64 d2.regs,.sl false 5 (Ql d2.blocks)])]++([(cy,.vec 1 (Qg cs'))]++E1)):List (Nat×Obj)):=by
     simp[hp]
    exact⟨(kn.get p (List.mem_append_right _ hm)).1,Qd1 (kn.loc p hm)⟩
   have hty:TT d2 os zb n x4 cy ids H11 nx' cs' (XU os zb fun x=>True∧¬Sub ids 0 x) H12:=ht2
   have hH:∀p∈LGo os zb,H14 p.1=H12 p.1:=fun p hp=>by
    have h1:p.1∈E1.map Prod.fst:=by rw[g1];exact Qai hp
    obtain⟨p',hp',he⟩:=List.mem_map.1 h1
    rw[←he,(hE p' hp').1,(k3.get p' (List.mem_append_left _ (List.mem_append_right _ hp'))).1]
   have hS:∀p∈LGo os zb,un H p.1=true:=fun p hp=>by
    have h1:p.1∈E1.map Prod.fst:=by rw[g1];exact Qai hp
    obtain⟨p',hp',he⟩:=List.mem_map.1 h1
    rw[←he];exact (hE p' hp').2
   have hty2:∀p∈LGo os zb,SimO (XU os zb (fun x=>True∧¬Sub ids 0 x) p.1) p.2 (H14 p.1):=fun p hp=>by
    rw[hH p hp];exact Ty.get hty hp
   obtain⟨bs,b1,b2,b3⟩:=Qa74 (S:=un H) hC hty2 hS
   exact⟨_,FrzL.ag (.cons (Qf rfl) (.cons (Qf rfl) (.cons b1 .nil))),hK ⟨d2.params,nx',bs⟩ _ (fun y hy=>by have:=b3 y hy;exact⟨by omega,by omega⟩) kn.fin⟩
end Go.AE.Y

namespace Go.AE.Y
attribute [local go_sem] cond_true cond_false Bool.not_true Bool.not_false
attribute [local instance] Classical.propDecidable
open Go.Proofs.Tryz
variable {H H0:Heap} {K:V→Heap→Prop} {E B Lg:List (Nat×Obj)} {q:CodeD}
theorem Qa8b {S:Nat→Bool} (q:CodeD):FrzV H S (.ag q.cells) (.ag q.cells):=FrzL.ag (.cons (.same _ rfl) (.cons (.same _ rfl) (.cons (.same _ rfl) .nil)))
structure CodeD.sgl (q:CodeD):Prop where
 ok:q.ok
 p0:0≤q.params
 pr:q.params≤q.regs
 h9:∀y∈q.blocks,y.ins.length≤900∧y.phis.length≤900
theorem Qbbb {cs:List CodeD} (h:Qjn cs=true) {c:CodeD} (hc:c∈cs):c.sgl:=by
 obtain⟨k,hk,rfl⟩:=List.mem_iff_getElem.1 hc
 have ho:=Qayb h hk
 obtain⟨_,h2,h3⟩:=of_decide_eq_true h
 obtain⟨g1,g2⟩:=h2 k hk
 simp only[Qqc,Bool.and_eq_true,decide_eq_true_eq]at g1
 refine⟨ho,by omega,by omega,fun y hy=>?_⟩
 have a1:=Qr6 (f:=Qnp) (List.getElem_mem hk)
 have a2:=Qr6 (f:=Qp2) hy
 simp only[Qnp,Qp2]at *
 omega
set_option maxHeartbeats 2000000 in
theorem Qa36 (hq:q.sgl) (hK:∀(d:CodeD) H',d.fits→Upd H H' []→K (.ag d.cells) H') :
  Qv prog Quz [.ag [.int .i64 q.params,.int .i64 q.regs,.sl false 5 (Ql q.blocks)],.c (.str [115,105,110,103,108,101])] H K:=by
 refine Qy ?_
 refine Qb Qas Qa4w ?_
 refine Qa ?_
 simp only[go_sem]
 intro x4 hx4 H1 h1
 have kn:=(Kn.start0 H).al hx4 h1
 refine Q3 ?_
 refine Qa ?_
 simp only[go_sem]
 refine Qh (Qc ?_)
 refine Qa ?_
 simp only[go_sem]
 refine Qd rfl (fun hc=>absurd hc (by decide)) (fun _=>?_)
 refine Qa ?_
 simp only[go_sem]
 refine Qd rfl (fun hc=>absurd hc (by decide)) (fun _=>?_)
 refine Qa ?_
 simp only[go_sem]
 refine Qd rfl (fun hc=>absurd hc (by decide)) (fun _=>?_)
 refine Qa ?_
 simp only[go_sem]
 refine Qd rfl (fun hc=>absurd hc (by decide)) (fun _=>?_)
 refine Qa ?_
 simp only[go_sem]
 refine Qd rfl (fun _=>?_) (fun hc=>absurd hc (by decide))
 refine Qa ?_
 simp only[go_sem]
 refine Qaq9 hq.ok hq.p0 hq.pr hq.h9 fun d H2 hd hu=>?_
 have kn:=kn.call0 hu
 have hx4:=kn.l 0 rfl
 simp only[go_sem,Qxt,CodeD.cells,hx4]
 intro H3 h3
 have kn:=kn.stL 0 rfl h3
 have hx4:=kn.l 0 rfl
 refine Qj ?_
 simp only[go_sem,X.next,Q5,Qad,Qajz,List.mem_singleton,forall_eq,RS.op,hx4]
 exact⟨_,Qa8b d,hK d _ hd kn.fin⟩
set_option maxHeartbeats 4000000 in
theorem Qa34 {cs:List CodeD} {fl:Bool} (hfit:∀c∈cs,c.fits) (hK:∀(ds:List CodeD) (b:Bool) H',(b=true→UnitOk ds)→Upd H H' []→K (.tup [.ag [.sl false 3 (Qp ds)],.c (.bool b)]) H') :
  Qv prog Qux [.ag [.sl fl 3 (Qp cs)],.c (.str [115,105,110,103,108,101])] H K:=by
 refine Qy ?_
 refine Qb Qas Qa4t ?_
 refine Qa ?_
 simp only[go_sem]
 intro x4 hx4 H1 h1
 have kn:=(Kn.start0 H).al hx4 h1
 simp only[go_sem,Qxg]
 refine Q3 ?_
 refine Qa ?_
 simp only[go_sem]
 refine Qf3 hfit fun H2 hu=>?_
 have kn:=kn.call0 hu
 simp only[go_sem,Qxh]
 refine Qh (Qd rfl ?_ ?_)
 ·intro _
  have hx4:=kn.l 0 rfl
  refine Qa ?_
  simp only[go_sem,hx4]
  intro H3 h3
  have kn:=kn.stL 0 rfl h3
  have hx4:=kn.l 0 rfl
  simp only[go_sem,Qxi]
  refine Qj ?_
  simp only[go_sem,X.next,Q5,Qad,Qsc,List.forall_mem_cons,List.not_mem_nil,RS.op,hx4]
  refine⟨fun _=>trivial,_,Qve (FrzL.ag (.cons (FrzR.nil.sl) .nil)) (.c _ _ (Qf rfl)),hK [] false _ (fun h=>by simp at h) kn.fin⟩
 ·intro hc
  have hG:Qjn cs=true:=Qdt hc
  refine Qi ?_
  try simp only[go_sem]
  refine Qa ?_
  simp only[go_sem]
  intro x6 hx6 H3 h3
  have kn:=kn.al hx6 h3
  have hx6:=kn.l 1 rfl
  simp only[go_sem,Qxj,hx6]
  intro H4 h4
  have kn:Kn H H4 [] [(x4,.st [.sl true 3 []]),(x6,.st [.sl true 3 []])]:=kn.stL 1 rfl h4
  refine Q3 ?_
  refine Qa ?_
  simp only[go_sem]
  have hcl:=(Qaim hfit hG).1
  refine Qh (Qc (Qw (fun m e1 H1=>∃(ds:List CodeD) (t:C) (Lg:List (Nat×Obj)),m=cs.length-ds.length∧ds.length≤cs.length∧(∀d∈ds,d.fits)∧Gr Lg 3 (Qp ds) t∧Kn H H1 [] ([(x4,.st [.sl true 3 []]),(x6,.st [t])]++Lg)∧
   lk 1 e1=.c (.str [115,105,110,103,108,101])∧lk 2 e1=.c (.pp [.sl fl 3 (Qp cs)])∧lk 4 e1=.c (.ptr x4 0)∧lk 6 e1=.c (.ptr x6 0)∧lk 7 e1=.c (.int .i64 ds.length)) cs.length ?_ ?_))
  ·exact⟨[],_,[],by simp,by simp,by simp,.nil 3,by simpa using kn,rfl,rfl,rfl,rfl,rfl⟩
  ·clear kn hx6
   rintro m e1 H5 ⟨ds,t,Lg,hm,hdl,hds,hgr,kn,l1,l2,l4,l6,l7⟩
   have htw:=hgr.isOw
   refine Q3 ?_
   refine Qa ?_
   simp only[go_sem,l1,l2,l4,l6,l7,Q4]
   try intro _
   refine Qh (Qd rfl ?_ ?_)
   ·intro hc2
    have hlt:ds.length<cs.length:=by simpa using hc2
    have hx6:=kn.l 1 rfl
    obtain⟨q,hq⟩:∃q,cs[ds.length]=q:=⟨_,rfl⟩
    have hqs:q.sgl:=Qbbb hG (by rw[←hq];exact List.getElem_mem hlt)
    refine Qi ?_
    try simp only[go_sem]
    refine Qh (Qc ?_)
    refine Qa8 ?_
    simp only[go_sem,l1,l2,l4,l6,l7,hx6,htw,hlt,Q4,Qal _ _ hlt,CodeD.cells,hq]
    refine Qa36 hqs fun d H6 hd hu=>?_
    have kn:=kn.call0 hu
    have hx6:=kn.l 1 rfl
    simp only[go_sem,Qxl,CodeD.cells,hx6,htw]
    refine kn.growR (new:=Qp [d]) hgr (.mk' _ _ _ _) (Qbw _) (by simp only[Q4,LIM,List.length_cons,List.length_nil];omega) fun t2 Lg2 H7 hgr2 ht2 kn=>?_
    have hx6:=kn.l 1 rfl
    simp only[go_sem,Qxk,hx6,ht2]
    intro H8 h8
    have kn:=kn.stL 1 rfl h8
    refine Qq ?_
    simp only[go_sem,l1,l2,l4,l6,l7]
    refine⟨Qo (by omega) (by omega),?_⟩
    show ∃m,_
    refine⟨cs.length-(ds.length+1),by omega,ds++[d],t2,Lg2,by simp,by simp only[List.length_append,List.length_cons,List.length_nil];omega,fun w hw=>?_,?_,kn,rfl,rfl,rfl,rfl,by simp[lk]⟩
    ·rcases List.mem_append.1 hw with hw|hw
     ·exact hds w hw
     ·simp only[List.mem_singleton]at hw;rw[hw];exact hd
    ·have:Qp (ds++[d])=Qp ds++Qp [d]:=by simp[Qp]
     rw[this];exact hgr2
   ·intro _
    refine Qs ?_
    simp only[go_sem,X.next]
    have hx6:=kn.l 1 rfl
    obtain⟨S,hSL,hSB,hfz,kn⟩:=kn.freeze0
    have hx6b:=hSB (x6,.st [t]) (by simp)
    have hft:FrzC H5 S t (.sl false 3 (Qp ds)):=Gr.frzM hgr hSL (FrzR.same (Qbw _))
    have kn:=kn.setL (o':=.st [.sl false 3 (Qp ds)]) 1 rfl (by simp)
    refine c_gh (Qe7 S (Qaq1 ?_) (hfz.set (o:=.st [.sl false 3 (Qp ds)]) hx6b.2 (by rw[hx6b.1];exact FrzKL.st (.cons htw hft .nil)))) (e':=[(4,.c (.ptr x4 0)),(6,.c (.ptr x6 0))]) ?_
    ·simp only[List.forall_mem_cons]
     exact⟨.c _ _ (.same _ rfl),.c _ _ (.same _ rfl),by simp⟩
    generalize (H5.frz S).set x6 (Obj.st [C.sl false 3 (Qp ds)])=H6 at *
    have hx6:=kn.l 1 rfl
    have hx4:=kn.l 0 rfl
    clear hfz hx6b hft hSL hSB
    refine Q3 ?_
    refine Qa ?_
    simp only[go_sem,hx6]
    refine Qf3 hds fun H7 hu=>?_
    have kn:=kn.call0 hu
    have hx6:=kn.l 1 rfl
    have hx4:=kn.l 0 rfl
    simp only[go_sem,Qsw]
    refine Qh (Qd rfl ?_ ?_)
    ·intro _
     refine Qa ?_
     simp only[go_sem,hx4]
     intro H8 h8
     have kn:=kn.stL 0 rfl h8
     have hx4:=kn.l 0 rfl
     simp only[go_sem,Qsx]
     refine Qj ?_
     simp only[go_sem,X.next,Q5,Qad,Qsc,List.forall_mem_cons,List.not_mem_nil,RS.op,hx4]
     refine⟨fun _=>trivial,_,Qve (FrzL.ag (.cons (FrzR.nil.sl) .nil)) (.c _ _ (Qf rfl)),hK [] false _ (fun h=>by simp at h) kn.fin⟩
    ·intro hc3
     have hG2:Qjn ds=true:=Qdt hc3
     refine Qi ?_
     try simp only[go_sem]
     refine Qa ?_
     simp only[go_sem,hx6,hx4]
     intro H8 h8
     have kn:=kn.stL 0 rfl h8
     have hx4:=kn.l 0 rfl
     simp only[go_sem,Qsy]
     refine Qj ?_
     simp only[go_sem,X.next,Q5,Qad,Qsc,List.forall_mem_cons,List.not_mem_nil,RS.op,hx4]
     obtain⟨u1,u2,u3⟩:=Qaim hds hG2
     refine⟨fun _=>trivial,_,Qve (Qdd ds) (.c _ _ (Qf rfl)),hK ds true _ (fun _=>⟨u2,u1,u3⟩) kn.fin⟩
theorem Qaiq {cs:List CodeD} {fl:Bool} (hfit:∀c∈cs,c.fits) (hK:∀(ds:List CodeD) (b:Bool) H',(b=true→UnitOk ds)→Upd H H' []→K (.tup [.ag [.sl false 3 (Qp ds)],.c (.bool b)]) H') :
  Qv prog Qei [.ag [.sl fl 3 (Qp cs)]] H K:=by
 refine Qy ?_
 refine Qb Qas Q3g ?_
 refine Qa ?_
 simp only[go_sem]
 intro x2 hx2 H1 h1
 have kn:=(Kn.start0 H).al hx2 h1
 simp only[go_sem,Qgu]
 refine Qa ?_
 simp only[go_sem]
 refine Qa34 hfit fun ds b H2 hb hu=>?_
 have kn:=kn.call0 hu
 have hx2:=kn.l 0 rfl
 simp only[go_sem,Qgw,List.getD_cons_zero,List.getD_cons_succ,hx2]
 intro H3 h3
 have kn:=kn.stL 0 rfl h3
 have hx2:=kn.l 0 rfl
 simp only[go_sem,Qgv]
 refine Qj ?_
 simp only[go_sem,Q5,Qad,Qlv,List.forall_mem_cons,List.not_mem_nil,RS.op,hx2]
 exact⟨fun _=>trivial,_,Qve (Qdd ds) (.c _ _ (Qf rfl)),hK ds b _ hb kn.fin⟩
def oneU:List CodeD:=[⟨0,1,[⟨[],[⟨1,0,[],0⟩],3,0,[]⟩]⟩]
theorem Qbdg:UnitOk oneU:=by
 refine⟨by simp[oneU],by simp[oneU],fun c hc=>?_⟩
 simp only[oneU,List.mem_singleton]at hc
 subst hc
 refine⟨by simp,by simp,fun y hy=>?_,fun y hy=>?_⟩
 ·simp only[List.mem_singleton]at hy;subst hy;simp
 ·simp only[List.mem_singleton]at hy;subst hy;simp
theorem Qa91 {S:Nat→Bool}:FrzC H S (.sl true 3 [[.int .i64 0,.int .i64 1,.sl true 5 [[.sl true 2 [],.sl true 4 [[.int .i64 1,.int .i64 0,.sl true 1 [],.int .i64 0]],.int .i64 3,.int .i64 0,.sl true 1 []]]]]) (.sl false 3 (Qp oneU)):=
 FrzR.sl (.cons (.cons (Qf rfl) (.cons (Qf rfl) (.cons (FrzR.sl (.cons (.cons FrzR.nil.sl (.cons (FrzR.sl (.cons (.cons (Qf rfl) (.cons (Qf rfl) (.cons FrzR.nil.sl (.cons (Qf rfl) .nil)))) .nil)) (.cons (Qf rfl) (.cons (Qf rfl) (.cons FrzR.nil.sl .nil))))) .nil)) .nil))) .nil)
theorem Qa4a {R:Rdr} {k:Nat} (hH:H R.l=R.o k) (hk:k+7100000≤2^30)
  (hK:∀(cs:List CodeD) (H':Heap) (k':Nat),k<k'→k'≤k+7050000→Upd H H' [(R.l,R.o k')]→UnitOk cs→K (.ag [.sl false 3 (Qp cs)]) H') :
  Qv prog Qu3 [.c (.ptr R.l 0)] H K:=by
 refine Qy ?_
 refine Qb Qas Qa43 ?_
 refine Qa ?_
 simp only[go_sem]
 intro x2 hx2 H1 h1
 have kn:=(Kn.start1 hH (R.o_ne k)).al hx2 h1
 refine Qa ?_
 simp only[go_sem]
 refine Qai9 (kn.e 0 rfl) (by omega) fun cs H3 k2 hk3 hk4 hu hok=>?_
 have kn:=kn.callE 0 rfl hu (R.o_ne _)
 simp only[go_sem,Qyj]
 refine Qaiq hok.fits fun ds b H4 hb hu=>?_
 have kn:=kn.call0 hu
 simp only[go_sem,Qyi,List.getD_cons_zero,List.getD_cons_succ]
 intro x3 hx3 H5 h5
 have kn:=kn.al hx3 h5
 have hx3:=kn.l 1 rfl
 simp only[go_sem,Qyh,hx3]
 intro H6 h6
 have kn:=kn.stL 1 rfl h6
 have hx2:=kn.l 0 rfl
 have hx3:=kn.l 1 rfl
 simp only[go_sem,Qyg]
 refine Q3 ?_
 refine Qa ?_
 simp only[go_sem]
 refine Qh (Qd rfl ?_ ?_)
 ·intro _
  refine Qa ?_
  simp only[go_sem,hx2]
  intro H7 h7
  have kn:=kn.stL 0 rfl h7
  have hx2:=kn.l 0 rfl
  refine Qj ?_
  simp only[go_sem,X.next,Q5,Qad,Q3x,List.mem_singleton,forall_eq,RS.op,hx2]
  exact⟨_,FrzL.ag (.cons Qa91 .nil),hK oneU _ k2 hk3 hk4 kn.fin Qbdg⟩
 ·intro hc
  have hbt:b=true:=Qdt hc
  refine Qi ?_
  try simp only[go_sem]
  refine Qa ?_
  simp only[go_sem,hx2,hx3]
  intro H7 h7
  have kn:=kn.stL 0 rfl h7
  have hx2:=kn.l 0 rfl
  refine Qj ?_
  simp only[go_sem,Q5,Qad,Q3x,List.mem_singleton,forall_eq,RS.op,hx2]
  exact⟨_,Qdd ds,hK ds _ k2 hk3 hk4 kn.fin (hb hbt)⟩
theorem Qa39 {R:Rdr} {k:Nat} (hH:H R.l=R.o k) (hk:k+7300000≤2^30)
  (hK:∀(cs:List CodeD) (H':Heap) (k':Nat),k<k'→k'≤k+7150000→Upd H H' [(R.l,R.o k')]→UnitOk cs→K (.ag [.sl false 3 (Qp cs)]) H') :
  Qv prog Qu2 [.c (.ptr R.l 0)] H K:=by
 refine Qy ?_
 refine Qb Qas Qa42 ?_
 refine Qa ?_
 simp only[go_sem]
 intro x2 hx2 H1 h1
 have kn:=(Kn.start1 hH (R.o_ne k)).al hx2 h1
 refine Q3 ?_
 refine Qa ?_
 simp only[go_sem]
 refine Qa5 (kn.e 0 rfl) (by omega) fun v H2 hv hu=>?_
 have kn:=kn.callE 0 rfl hu (R.o_ne _)
 simp only[go_sem,Qyd]
 refine Qh (Qd rfl ?_ ?_)
 ·intro hc
  refine Qa ?_
  simp only[go_sem]
  refine Q28 (kn.e 0 rfl) (by omega) fun cs H3 k2 hk3 hk4 hu hok=>?_
  have kn:=kn.callE 0 rfl hu (R.o_ne _)
  have hx2:=kn.l 0 rfl
  simp only[go_sem,Qye,hx2]
  intro H4 h4
  have kn:=kn.stL 0 rfl h4
  have hx2:=kn.l 0 rfl
  refine Qj ?_
  simp only[go_sem,X.next,Q5,Qad,Q3w,List.mem_singleton,forall_eq,RS.op,hx2]
  exact⟨_,Qdd cs,hK cs _ k2 (by omega) (by omega) kn.fin hok⟩
 ·intro hc
  refine Qi ?_
  try simp only[go_sem]
  refine Qa ?_
  simp only[go_sem]
  refine Qa4a (kn.e 0 rfl) (by omega) fun cs H3 k2 hk3 hk4 hu hok=>?_
  have kn:=kn.callE 0 rfl hu (R.o_ne _)
  have hx2:=kn.l 0 rfl
  simp only[go_sem,Qyf,hx2]
  intro H4 h4
  have kn:=kn.stL 0 rfl h4
  have hx2:=kn.l 0 rfl
  refine Qj ?_
  simp only[go_sem,Q5,Qad,Q3w,List.mem_singleton,forall_eq,RS.op,hx2]
  exact⟨_,Qdd cs,hK cs _ k2 (by omega) (by omega) kn.fin hok⟩
theorem Qara {R:Rdr} {k:Nat} (hH:H R.l=R.o k) (hk:k+7400000≤2^30)
  (hK:∀(cs:List CodeD) (H':Heap) (k':Nat),k<k'→k'≤k+7200000→Upd H H' [(R.l,R.o k')]→UnitOk cs→K (.ag [.sl false 3 (Qp cs)]) H') :
  Qv prog Qlg [.c (.ptr R.l 0)] H K:=by
 refine Qy ?_
 refine Qb Qas Qark ?_
 refine Qa ?_
 simp only[go_sem]
 intro x2 hx2 H1 h1
 have kn:=(Kn.start1 hH (R.o_ne k)).al hx2 h1
 refine Q3 ?_
 refine Qa ?_
 simp only[go_sem]
 refine Qa5 (kn.e 0 rfl) (by omega) fun v H2 hv hu=>?_
 have kn:=kn.callE 0 rfl hu (R.o_ne _)
 simp only[go_sem,Qpj]
 refine Qh (Qd rfl ?_ ?_)
 ·intro hc
  refine Qa ?_
  simp only[go_sem]
  refine Qa39 (kn.e 0 rfl) (by omega) fun cs H3 k2 hk3 hk4 hu hok=>?_
  have kn:=kn.callE 0 rfl hu (R.o_ne _)
  have hx2:=kn.l 0 rfl
  simp only[go_sem,Qpk,hx2]
  intro H4 h4
  have kn:=kn.stL 0 rfl h4
  have hx2:=kn.l 0 rfl
  refine Qj ?_
  simp only[go_sem,X.next,Q5,Qad,Qqf,List.mem_singleton,forall_eq,RS.op,hx2]
  exact⟨_,Qdd cs,hK cs _ k2 (by omega) (by omega) kn.fin hok⟩
 ·intro hc
  refine Qi ?_
  try simp only[go_sem]
  refine Qa ?_
  simp only[go_sem]
  refine Q28 (kn.e 0 rfl) (by omega) fun cs H3 k2 hk3 hk4 hu hok=>?_
  have kn:=kn.callE 0 rfl hu (R.o_ne _)
  have hx2:=kn.l 0 rfl
  simp only[go_sem,Qpl,hx2]
  intro H4 h4
  have kn:=kn.stL 0 rfl h4
  have hx2:=kn.l 0 rfl
  refine Qj ?_
  simp only[go_sem,Q5,Qad,Qqf,List.mem_singleton,forall_eq,RS.op,hx2]
  exact⟨_,Qdd cs,hK cs _ k2 (by omega) (by omega) kn.fin hok⟩
end Go.AE.Y

namespace Go.AE.Y
attribute [local go_sem] cond_true cond_false Bool.not_true Bool.not_false
attribute [local instance] Classical.propDecidable
open Go.Proofs.Tryz
variable {H H0:Heap} {K:V→Heap→Prop} {E B Lg:List (Nat×Obj)} {q:CodeD}
def caI (q:CodeD) (b j:Nat):List Plc:=((List.range j).filter fun i=>decide ((((Qbs q b).ins[i]?).map InsD.op).getD 0=14)).map fun (i:Nat)=>((b:Int),(i:Int))
def caTo (q:CodeD) (b:Nat):List Plc:=(List.range b).flatMap fun b=>caI q b (Qbs q b).ins.length
def caL (q:CodeD):List Plc:=caTo q q.blocks.length
theorem Qa78 {b j:Nat} (h:j<(Qbs q b).ins.length):caI q b (j+1)=caI q b j++if (Qbs q b).ins[j].op=14 then [((b:Int),(j:Int))]else []:=by
 rw[caI,caI,List.range_succ,List.filter_append,List.map_append]
 congr 1
 have e:(((Qbs q b).ins[j]?).map InsD.op).getD 0=(Qbs q b).ins[j].op:=by simp[h]
 by_cases hc:(Qbs q b).ins[j].op=14
 ·rw[if_pos hc];simp[e,hc]
 ·rw[if_neg hc];simp[e,hc]
theorem Qaiv {b:Nat}:caTo q (b+1)=caTo q b++caI q b (Qbs q b).ins.length:=by simp[caTo,List.range_succ]
noncomputable def Qaiw (cs:List CodeD) (k:Int):List Plc:=if Qvf cs k=true then match cs[k.toNat]? with
 |some q=>caL q
 |none=>[]else []
theorem Qa3a {b j:Nat}:(caI q b j).length≤j:=by
 rw[caI,List.length_map]
 exact Nat.le_trans (List.length_filter_le _ _) (by simp)
set_option maxHeartbeats 4000000 in
theorem Qacy {cs:List CodeD} {fl:Bool} {k:Int} (hfit:∀c∈cs,c.fits) (hK:∀(H':Heap),Upd H H' []→K (.c (.sl false 1 (Qda (Qaiw cs k)))) H') :
  Qv prog Qeh [.ag [.sl fl 3 (Qp cs)],.c (.int .i64 k)] H K:=by
 refine Qy ?_
 refine Qb Qas Q3f ?_
 refine Qa ?_
 simp only[go_sem]
 refine Qa ?_
 simp only[go_sem]
 refine Q3 ?_
 refine Qa ?_
 simp only[go_sem]
 refine Qays hfit fun H1 hu=>?_
 have kn:=(Kn.start0 H).call0 hu
 simp only[go_sem,Qgr]
 refine Qh (Qd rfl ?_ ?_)
 ·intro hc
  have hg:Qvf cs k=false:=Qoa hc
  refine Qa ?_
  simp only[go_sem]
  refine Qj ?_
  simp only[go_sem,X.next,Q5,Qad,Qfp,List.mem_singleton,forall_eq,RS.op]
  have e:Qaiw cs k=[]:=by rw[Qaiw,hg];simp
  have:=hK _ kn.fin
  rw[e]at this
  exact⟨_,.c _ _ FrzR.nil.sl,this⟩
 ·intro hc
  have hg:Qvf cs k=true:=Qdt hc
  obtain⟨m,hm,rfl,ho⟩:=Qr0 hg
  obtain⟨q,hq⟩:∃q,cs[m]=q:=⟨_,rfl⟩
  rw[hq]at ho
  have e:Qaiw cs (m:Int)=caL q:=by
   rw[Qaiw,if_pos hg]
   simp[hm,hq]
  have hb1:=ho.b1
  refine Qi ?_
  try simp only[go_sem]
  refine Qa ?_
  simp only[go_sem,hm,Q4,Qal _ _ hm,CodeD.cells,hq]
  intro x6 hx6 H2 h2
  have kn:=kn.al hx6 h2
  have hx6:=kn.l 0 rfl
  simp only[go_sem,Qgs,hx6]
  intro H3 h3
  have kn:Kn H H3 [] ([(x6,.st [.int .i64 q.params,.int .i64 q.regs,.sl false 5 (Ql q.blocks)])]++[]):=kn.stL 0 rfl h3
  refine Q3 ?_
  refine Qa ?_
  simp only[go_sem]
  refine Qh (Qc (Qw (fun m2 e1 H1=>∃(b:Nat) (t:C) (Lg:List (Nat×Obj)),m2=q.blocks.length-b∧b≤q.blocks.length∧(caTo q b).length≤b * 1200∧Gr Lg 1 (Qda (caTo q b)) t∧Kn H H1 [] ([(x6,.st [.int .i64 q.params,.int .i64 q.regs,.sl false 5 (Ql q.blocks)])]++Lg)∧
   lk 5 e1=.c t∧lk 6 e1=.c (.ptr x6 0)∧lk 7 e1=.c (.int .i64 b)) q.blocks.length ?_ ?_))
  ·exact⟨0,_,[],by omega,by omega,by simp[caTo],.nil 1,kn,rfl,rfl,rfl⟩
  ·clear kn hx6
   rintro m2 e1 H4 ⟨b,t,Lg,hm2,hb,hcl,hgr,kn,l5,l6,l7⟩
   have htw:=hgr.isOw
   have hx6:=kn.l 0 rfl
   refine Q3 ?_
   refine Qa ?_
   simp only[go_sem,l5,l6,l7,hx6,htw,Qk]
   try intro _
   refine Qh (Qd rfl ?_ ?_)
   ·intro hc2
    have hlt:b<q.blocks.length:=by simpa using hc2
    obtain⟨y,hy⟩:∃y,q.blocks[b]=y:=⟨_,rfl⟩
    have hya:Qbs q b=y:=by rw[Qd2 hlt,hy]
    have hil:=ho.il b hlt
    rw[hy]at hil
    refine Qi ?_
    try simp only[go_sem]
    refine Qh (Qc ?_)
    refine Qa ?_
    simp only[go_sem,htw]
    refine Qc (Qw (fun m3 e1 H1=>∃(j:Nat) (t:C) (Lg:List (Nat×Obj)),m3=y.ins.length-j∧j≤y.ins.length∧Gr Lg 1 (Qda (caTo q b++caI q b j)) t∧Kn H H1 [] ([(x6,.st [.int .i64 q.params,.int .i64 q.regs,.sl false 5 (Ql q.blocks)])]++Lg)∧
     lk 5 e1=.c t∧lk 6 e1=.c (.ptr x6 0)∧lk 7 e1=.c (.int .i64 b)∧lk 8 e1=.c (.int .i64 j)) y.ins.length ?_ ?_)
    ·exact⟨0,t,Lg,by omega,by omega,by simpa[caI]using hgr,kn,rfl,rfl,rfl,rfl⟩
    ·clear kn hx6 hgr htw l5 l6 l7
     rintro m3 e2 H5 ⟨j,t,Lg,hm3,hj,hgr,kn,l5,l6,l7,l8⟩
     have htw:=hgr.isOw
     have hx6:=kn.l 0 rfl
     refine Q3 ?_
     refine Qa ?_
     simp only[go_sem,l5,l6,l7,l8,hx6,htw,hlt,Qk,Q8 _ _ hlt,BlkD.cells,hy,Qav]
     try intro _
     refine Qh (Qd rfl ?_ ?_)
     ·intro hc3
      have hlt3:j<y.ins.length:=by simpa using hc3
      obtain⟨x,hx⟩:∃x,y.ins[j]=x:=⟨_,rfl⟩
      have hsucc:caI q b (j+1)=caI q b j++if x.op=14 then [((b:Int),(j:Int))]else []:=by
       have:=Qa78 (q:=q) (b:=b) (j:=j) (by rw[hya];exact hlt3)
       simp only[hya,hx]at this
       exact this
      have hlen:=Qa3a (q:=q) (b:=b) (j:=j)
      refine Qi ?_
      try simp only[go_sem]
      refine Qde (fun e2 H2=>∃(t:C) (Lg:List (Nat×Obj)),Gr Lg 1 (Qda (caTo q b++caI q b (j+1))) t∧Kn H H2 [] ([(x6,.st [.int .i64 q.params,.int .i64 q.regs,.sl false 5 (Ql q.blocks)])]++Lg)∧
       lk 5 e2=.c t∧lk 6 e2=.c (.ptr x6 0)∧lk 7 e2=.c (.int .i64 b)∧lk 8 e2=.c (.int .i64 j)) ?_ ?_
      ·intro Q hnr _ _
       refine Qc ?_
       refine Qa ?_
       simp only[go_sem,l5,l6,l7,l8,hx6,htw,hlt,Qk,Q8 _ _ hlt,BlkD.cells,hy,hlt3,Qav,Qc0 _ _ hlt3,InsD.cells,hx]
       refine Qd rfl ?_ ?_
       ·intro hc4
        have h14:x.op=14:=by simpa using hc4
        refine Qq ?_
        simp only[go_sem,htw]
        refine kn.growR (new:=Qda [((b:Int),(j:Int))]) hgr (.mk' _ _ _ _) (Qht _) (by
         simp only[Qlp,List.length_append,LIM,List.length_cons,List.length_nil]
         have:b * 1200≤160 * 1200:=Nat.mul_le_mul_right _ (by omega)
         omega) fun t2 Lg2 H6 hgr2 ht2 kn=>?_
        simp only[go_sem,Qgt,ht2]
        refine hnr _ _ ⟨t2,Lg2,?_,kn,rfl,rfl,rfl,rfl⟩
        rw[hsucc,if_pos h14,←List.append_assoc]
        have:Qda (caTo q b++caI q b j++[((b:Int),(j:Int))])=Qda (caTo q b++caI q b j)++Qda [((b:Int),(j:Int))]:=by simp[Qda]
        rw[this];exact hgr2
       ·intro hc4
        have h14:¬x.op=14:=by simpa using hc4
        refine Qi ?_
        try simp only[go_sem]
        refine hnr _ _ ⟨t,Lg,?_,kn,rfl,rfl,rfl,rfl⟩
        rw[hsucc,if_neg h14,List.append_nil];exact hgr
      ·rintro e3 H6 ⟨t,Lg,hgr,kn,l5,l6,l7,l8⟩
       have htw:=hgr.isOw
       refine Qq ?_
       simp only[go_sem,l5,l6,l7,l8,htw]
       refine⟨Qo (by omega) (by omega),?_⟩
       show ∃m,_
       exact⟨y.ins.length-(j+1),by omega,j+1,t,Lg,rfl,by omega,hgr,kn,rfl,rfl,rfl,rfl⟩
     ·intro hc3
      have hje:j=y.ins.length:=by have:y.ins.length≤j:=(by simpa using hc3);omega
      subst hje
      have hlen:=Qa3a (q:=q) (b:=b) (j:=y.ins.length)
      refine Qs ?_
      simp only[go_sem,X.next]
      refine Qq ?_
      simp only[go_sem,l5,l6,l7,htw]
      refine⟨Qo (by omega) (by omega),?_⟩
      show ∃m,_
      refine⟨q.blocks.length-(b+1),by omega,b+1,t,Lg,rfl,by omega,?_,?_,kn,rfl,rfl,rfl⟩
      ·rw[Qaiv,hya,List.length_append,Nat.succ_mul];omega
      ·rw[Qaiv,hya];exact hgr
   ·intro hc2
    have hbe:b=q.blocks.length:=by have:q.blocks.length≤b:=(by simpa using hc2);omega
    subst hbe
    refine Qs ?_
    simp only[go_sem,X.next]
    refine Qa ?_
    simp only[go_sem,l5,htw]
    refine Qj ?_
    simp only[go_sem,Q5,Qad,Qfp,List.mem_singleton,forall_eq,RS.op,htw]
    have:=hK _ kn.fin
    rw[e]at this
    exact⟨_,.c _ _ (hgr.frz kn (Qht _)),this⟩
set_option maxHeartbeats 4000000 in
theorem Qa4e {R:Rdr} {k:Nat} (hH:H R.l=R.o k) (hk:k+40000000≤2^30)
  (hK:∀(cs:List CodeD) (H':Heap) (k':Nat),k<k'→k'≤k+39000000→Upd H H' [(R.l,R.o k')]→UnitOk cs→K (.ag [.sl false 3 (Qp cs)]) H') :
  Qv prog Qu7 [.c (.ptr R.l 0)] H K:=by
 refine Qy ?_
 refine Qb Qas Qa47 ?_
 refine Qa ?_
 simp only[go_sem]
 intro x2 hx2 H1 h1
 have kn:=(Kn.start1 hH (R.o_ne k)).al hx2 h1
 refine Q3 ?_
 refine Qa ?_
 simp only[go_sem]
 refine Qh (Qc (Qw (fun m e1 H1=>∃(i k':Nat) (L:List (Nat×Obj)),m=4-i∧i≤4∧k≤k'∧k'≤k+i * 7300000∧Kn H H1 [(R.l,R.o k')] ([(x2,.st [.sl true 3 []])]++L)∧
  lk 0 e1=.c (.ptr R.l 0)∧lk 2 e1=.c (.ptr x2 0)∧lk 4 e1=.c (.int .i64 i)) 4 ?_ ?_))
 ·exact⟨0,k,[],by omega,by omega,by omega,by omega,kn,rfl,rfl,rfl⟩
 ·clear kn
  rintro m e1 H2 ⟨i,k1,L,hm,hi,hk1,hk2,kn,l0,l2,l4⟩
  have hx2:=kn.l 0 rfl
  refine Qa ?_
  simp only[go_sem,l0,l2,l4]
  refine Qh (Qd rfl ?_ ?_)
  ·intro hc
   have hlt:i<4:=by
    have:=of_decide_eq_true hc
    omega
   refine Qi ?_
   try simp only[go_sem]
   refine Qh (Qc ?_)
   refine Qa ?_
   simp only[go_sem]
   refine Qara (kn.e 0 rfl) (by omega) fun cs H3 k3 hk3 hk4 hu hok=>?_
   have kn:=kn.callE 0 rfl hu (R.o_ne _)
   simp only[go_sem,Qyw]
   intro x3 hx3 H4 h4
   have kn:=(kn.al hx3 h4).perm List.perm_append_comm
   have hx3:=kn.l 0 rfl
   simp only[go_sem,Qyv,hx3]
   intro H5 h5
   have kn:Kn H H5 [(R.l,R.o k3)] ([(x2,.st [.sl true 3 []])]++([(x3,.st [.sl false 3 (Qp cs)])]++L)):=
    (kn.stL 0 rfl h5).perm (Qr fun f hf h0 hc hp=>by
     show f ([(x3,_)]++([(x2,_)]++L))=_
     simp only[hf];omega)
   have hx3:=kn.l 1 rfl
   obtain⟨u0,u4,ugd⟩:=hok
   have hi1:((cs.length:Int)-1)=((cs.length-1:Nat):Int):=by omega
   have hcsf:∀c∈cs,c.fits:=fun c hc=>(ugd c hc).f
   refine Qde (fun e2 H2=>∃(bb:Bool),Kn H H2 [(R.l,R.o k3)] ([(x2,.st [.sl true 3 []])]++([(x3,.st [.sl false 3 (Qp cs)])]++L))∧lk 0 e2=.c (.ptr R.l 0)∧lk 2 e2=.c (.ptr x2 0)∧lk 3 e2=.c (.ptr x3 0)∧lk 4 e2=.c (.int .i64 i)∧lk 21 e2=.c (.bool bb)) ?_ ?_
   ·intro Q hnr _ _
    refine Qq ?_
    simp only[go_sem,hx3,Q4]
    intro _ _
    refine⟨fun _=>Qo (by omega) (by omega),fun h=>?_,fun h=>?_⟩
    ·refine Qacy hcsf fun H6 hu=>?_
     have kn:=kn.call0 hu
     simp only[go_sem,Ql3,h]
     try intro _
     exact hnr _ _ ⟨_,kn,rfl,rfl,rfl,rfl,rfl⟩
    ·simp only[go_sem,Ql3,h]
     try intro _
     exact hnr _ _ ⟨_,kn,rfl,rfl,rfl,rfl,rfl⟩
   ·rintro e2 H6 ⟨bb,kn,l0,l2,l3,l4,l21⟩
    refine Qd (c:=bb) l21 ?_ ?_
    ·intro _
     have hx2:=kn.l 0 rfl
     have hx3:=kn.l 1 rfl
     refine Qa ?_
     simp only[go_sem,l0,l2,l3,l4,hx2,hx3]
     intro H7 h7
     have kn:=kn.stL 0 rfl h7
     have hx2:=kn.l 0 rfl
     refine Qj ?_
     simp only[go_sem,X.next,Q5,Qad,Q3z,List.mem_singleton,forall_eq,RS.op,hx2]
     exact⟨_,Qdd cs,hK cs _ k3 (by omega) (by omega) kn.fin ⟨u0,u4,ugd⟩⟩
    ·intro _
     refine Qi ?_
     try simp only[go_sem]
     refine Qq ?_
     simp only[go_sem,l0,l2,l3,l4]
     refine⟨Qo (by omega) (by omega),?_⟩
     show ∃m,_
     exact⟨4-(i+1),by omega,i+1,k3,_,rfl,by omega,by omega,by omega,kn,rfl,rfl,rfl⟩
  ·intro _
   refine Qs ?_
   simp only[go_sem,X.next]
   refine Qa ?_
   simp only[go_sem,l0,l2]
   refine Q28 (kn.e 0 rfl) (by omega) fun cs H3 k3 hk3 hk4 hu hok=>?_
   have kn:=kn.callE 0 rfl hu (R.o_ne _)
   have hx2:=kn.l 0 rfl
   simp only[go_sem,Qyx,hx2]
   intro H4 h4
   have kn:=kn.stL 0 rfl h4
   have hx2:=kn.l 0 rfl
   refine Qj ?_
   simp only[go_sem,Q5,Qad,Q3z,List.mem_singleton,forall_eq,RS.op,hx2]
   exact⟨_,Qdd cs,hK cs _ k3 (by omega) (by omega) kn.fin hok⟩
set_option maxHeartbeats 2000000 in
theorem Qz9 {fl:Bool} {bs:List UInt8} (hK:∀(cs:List CodeD) (k:Int) (H':Heap),Upd H H' []→UnitOk cs→-1≤k→k≤4→K (.tup [.ag [.sl false 3 (Qp cs)],.c (.int .i64 k)]) H') :
  Qv prog Qck [.c (.sl fl 1 (Qbn bs))] H K:=by
 refine Qy ?_
 refine Qb Qas Qqd ?_
 refine Qa ?_
 simp only[go_sem]
 intro x2 hx2 H1 h1
 have kn:=(Kn.start0 H).al hx2 h1
 simp only[go_sem,Qdg]
 refine Qa ?_
 simp only[go_sem]
 refine Qa4i fun R H2 hR h2=>?_
 have kn:=kn.al hR h2 (R.o_ne 0)
 simp only[go_sem,Qdh]
 refine Qa ?_
 simp only[go_sem]
 refine Qa4e (kn.l 1 rfl) (by omega) fun cs H3 k2 hk3 hk4 hu hok=>?_
 have kn:=kn.callL 1 rfl hu (R.o_ne _)
 simp only[go_sem,Qdj]
 intro x5 hx5 H4 h4
 have kn:=kn.al hx5 h4
 have hx5:=kn.l 2 rfl
 simp only[go_sem,Qdi,hx5]
 intro H5 h5
 have kn:Kn H H5 [] [(x2,.st [.sl true 3 []]),(R.l,R.o k2),(x5,.st [.sl false 3 (Qp cs)])]:=kn.stL 2 rfl h5
 have hx5:=kn.l 2 rfl
 obtain⟨h0,h4',hgd⟩:=hok
 refine Qao ?_
 simp only[go_sem,hx5,Q4]
 try intro _
 refine⟨Qo (by omega) (by omega),?_⟩
 try intro _
 refine⟨Qo (by omega) (by omega),?_⟩
 try intro _
 refine Qg8 (ns:=[(cs.length:Int)-1,0,(cs.length:Int)-1,-1,(cs.length:Int)]) (kn.l 1 rfl) (by omega) (by simp) fun n H8 hn hu=>?_
 have kn:=kn.callL 1 rfl hu (R.o_ne _)
 have hn2:-1≤n∧n≤4:=by simp at hn;omega
 have hx5:=kn.l 2 rfl
 have hx2:=kn.l 0 rfl
 simp only[go_sem,Qdl,hx5,hx2]
 intro H12 h12
 have kn:=kn.stL 0 rfl h12
 have hx2:=kn.l 0 rfl
 simp only[go_sem,Qdk]
 refine Qj ?_
 simp only[go_sem,Q5,Qad,Qfq,List.forall_mem_cons,List.not_mem_nil,RS.op,hx2]
 exact⟨fun _=>trivial,_,Qve (Qdd cs) (.c _ _ (Qf rfl)),hK cs n _ kn.fin ⟨h0,h4',hgd⟩ hn2.1 hn2.2⟩
theorem Q9p {fl:Bool} {bs:List UInt8} (hK:∀(cs:List CodeD) (k:Int) (H':Heap),Upd H H' []→UnitOk cs→-1≤k→k≤4→K (.tup [.ag [.sl false 3 (Qp cs)],.c (.int .i64 k)]) H') :
  Qv prog Qc7 [.c (.sl fl 1 (Qbn bs))] H K:=by
 refine Qy ?_
 refine Qb Qas Qvk ?_
 refine Qa ?_
 simp only[go_sem]
 intro x2 hx2 H1 h1
 have kn:=(Kn.start0 H).al hx2 h1
 simp only[go_sem,Qer]
 refine Qa ?_
 simp only[go_sem]
 refine Qz9 fun cs k H2 hu hok hk1 hk2=>?_
 have kn:=kn.call0 hu
 have hx2:=kn.l 0 rfl
 simp only[go_sem,Qet,List.getD_cons_zero,List.getD_cons_succ,hx2]
 intro H4 h4
 have kn:=kn.stL 0 rfl h4
 have hx2:=kn.l 0 rfl
 simp only[go_sem,Qes]
 refine Qj ?_
 simp only[go_sem,Q5,Qad,Qh0,List.forall_mem_cons,List.not_mem_nil,RS.op,hx2]
 exact⟨fun _=>trivial,_,Qve (Qdd cs) (.c _ _ (Qf rfl)),hK cs k _ kn.fin hok hk1 hk2⟩
end Go.AE.Y

namespace Go.AE.Y
attribute [local go_sem] cond_true cond_false Bool.not_true Bool.not_false
attribute [local instance] Classical.propDecidable
open Go.Proofs.Tryz
variable {H H0:Heap} {K:V→Heap→Prop} {E B Lg:List (Nat×Obj)} {q:CodeD}
def bks (q:CodeD):Nat:=q.blocks.length
noncomputable def blocksI (cs:List CodeD):Int:=if Qjn cs=true then (Qgy bks cs:Nat)else -1
end Go.AE.Y

namespace Go.AE.Y
attribute [local go_sem] cond_true cond_false Bool.not_true Bool.not_false
attribute [local instance] Classical.propDecidable
open Go.Proofs.Tryz
variable {H H0:Heap} {K:V→Heap→Prop} {E B Lg:List (Nat×Obj)} {q:CodeD}
noncomputable def Qacx (cs:List CodeD) (k:Int):Int:=if Qvf cs k=true then match cs[k.toNat]? with
 |some q=>(Qnp q:Nat)
 |none=>-1 else -1
theorem Q2d {cs:List CodeD} {m:Nat} (h:Qvf cs (m:Int)=true) (hm:m<cs.length):Qacx cs (m:Int)=(Qnp cs[m]:Nat):=by
 rw[Qacx,if_pos h]
 simp[hm]
theorem Qa4d {fl:Bool} (ho:q.ok) (hK:∀H',Upd H H' []→K (.c (.int .i64 (Qnp q))) H') :
  Qv prog Qu6 [.ag [.int .i64 q.params,.int .i64 q.regs,.sl fl 5 (Ql q.blocks)]] H K:=by
 have hb:=ho.b1
 have hsb:=Q9n ho.fts
 refine Qy ?_
 refine Qb Qas Qa46 ?_
 refine Qa ?_
 simp only[go_sem]
 refine Qa ?_
 simp only[go_sem]
 refine Q3 ?_
 refine Qa ?_
 simp only[go_sem]
 refine Qh (Qc (Qw (fun m e1 H1=>∃(i:Nat),m=q.blocks.length-i∧i≤q.blocks.length∧Kn H H1 [] []∧
  lk 1 e1=.c (.pp [.int .i64 q.params,.int .i64 q.regs,.sl fl 5 (Ql q.blocks)])∧lk 3 e1=.c (.int .i64 (Qgy Qp2 (q.blocks.take i):Nat))∧lk 4 e1=.c (.int .i64 i)) q.blocks.length ?_ ?_))
 ·exact⟨0,by omega,by omega,Kn.start0 H,rfl,rfl,rfl⟩
 ·rintro m e1 H1 ⟨i,hm,hi,kn,l1,l3,l4⟩
  refine Q3 ?_
  refine Qa ?_
  simp only[go_sem,l1,l3,l4,Qk]
  intro _
  refine Qh (Qd rfl ?_ ?_)
  ·intro hc
   have hlt:i<q.blocks.length:=by simpa using hc
   have hss:=Qdc (f:=Qp2) hlt
   have hle:=Qwu (f:=Qp2) (l:=q.blocks) (i+1)
   have hil:=ho.il i hlt
   obtain⟨y,hy⟩:∃y,q.blocks[i]=y:=⟨_,rfl⟩
   rw[hy]at hss hil
   have hcy:Qp2 y=y.ins.length+y.phis.length:=rfl
   have hmul:q.blocks.length * 549755813888≤160 * 549755813888:=Nat.mul_le_mul_right _ hb
   refine Qi ?_
   try simp only[go_sem]
   refine Qh (Qc ?_)
   refine Qa8 ?_
   simp only[go_sem,hlt,Qk,Q8 _ _ hlt,BlkD.cells,hy,Qav,Q7]
   try intro _
   refine⟨Qo (by omega) (by omega),Qo (by omega) (by omega),?_⟩
   refine Qq ?_
   simp only[go_sem]
   refine⟨Qo (by omega) (by omega),?_⟩
   show ∃m,_
   refine⟨q.blocks.length-(i+1),by omega,i+1,rfl,by omega,kn,rfl,?_,rfl⟩
   rw[hss,hcy]
   have:((Qgy Qp2 (q.blocks.take i):Nat):Int)+y.ins.length+y.phis.length=((Qgy Qp2 (q.blocks.take i)+(y.ins.length+y.phis.length):Nat):Int):=by omega
   show V.c (C.int .i64 _)=_
   rw[this]
  ·intro hc
   have hge:q.blocks.length≤i:=by simpa using hc
   refine Qs ?_
   simp only[go_sem,X.next]
   refine Qa ?_
   simp only[go_sem,l3]
   refine Qj ?_
   simp only[go_sem,Q5,Qad,Qaj6,List.mem_singleton,forall_eq,RS.op]
   rw[List.take_of_length_le hge]
   exact⟨_,.c _ _ (Qf rfl),hK _ kn.fin⟩
theorem Qz7 {cs:List CodeD} {fl:Bool} {k:Int} (hfit:∀c∈cs,c.fits) (hK:∀(H':Heap),Upd H H' []→K (.c (.int .i64 (Qacx cs k))) H') :
  Qv prog Qd5 [.ag [.sl fl 3 (Qp cs)],.c (.int .i64 k)] H K:=by
 refine Qy ?_
 refine Qb Qas Qafb ?_
 refine Qa ?_
 simp only[go_sem]
 refine Q3 ?_
 refine Qa ?_
 simp only[go_sem]
 refine Qays hfit fun H1 hu=>?_
 have kn:=(Kn.start0 H).call0 hu
 simp only[go_sem,Qk2]
 refine Qh (Qd rfl ?_ ?_)
 ·intro hc
  have hg:Qvf cs k=false:=Qoa hc
  refine Qa ?_
  simp only[go_sem]
  refine Qj ?_
  simp only[go_sem,X.next,Q5,Qad,Qjb,List.mem_singleton,forall_eq,RS.op]
  have e:Qacx cs k=-1:=by rw[Qacx,hg];simp
  have:=hK _ kn.fin
  rw[e]at this
  exact⟨_,.c _ _ (Qf rfl),this⟩
 ·intro hc
  have hg:Qvf cs k=true:=Qdt hc
  obtain⟨m,hm,rfl,ho⟩:=Qr0 hg
  have e:=Q2d hg hm
  obtain⟨q,hq⟩:∃q,cs[m]=q:=⟨_,rfl⟩
  rw[hq]at ho e
  refine Qi ?_
  try simp only[go_sem]
  refine Qa ?_
  simp only[go_sem,hm,Q4,Qal _ _ hm,CodeD.cells,hq]
  refine Qa4d ho fun H2 hu=>?_
  have kn:=kn.call0 hu
  simp only[go_sem,Qk3]
  refine Qj ?_
  simp only[go_sem,Q5,Qad,Qjb,List.mem_singleton,forall_eq,RS.op]
  have:=hK _ kn.fin
  rw[e]at this
  exact⟨_,.c _ _ (Qf rfl),this⟩
theorem Qwz {cs:List CodeD} {fl:Bool} {k:Int} (hfit:∀c∈cs,c.fits) (hK:∀(H':Heap),Upd H H' []→K (.c (.int .i64 (Qacx cs k))) H') :
  Qv prog Qd3 [.ag [.sl fl 3 (Qp cs)],.c (.int .i64 k)] H K:=by
 refine Qy ?_
 refine Qb Qas Qaez ?_
 refine Qa ?_
 simp only[go_sem]
 refine Q3 ?_
 refine Qa ?_
 simp only[go_sem]
 refine Qa79 hfit fun H1 hu=>?_
 have kn:=(Kn.start0 H).call0 hu
 simp only[go_sem,Qjt]
 refine Qh (Qd rfl ?_ ?_)
 ·intro hc
  have hg:Qvf cs k=false:=Qoa hc
  refine Qa ?_
  simp only[go_sem]
  refine Qj ?_
  simp only[go_sem,X.next,Q5,Qad,Qi7,List.mem_singleton,forall_eq,RS.op]
  have e:Qacx cs k=-1:=by rw[Qacx,hg];simp
  have:=hK _ kn.fin
  rw[e]at this
  exact⟨_,.c _ _ (Qf rfl),this⟩
 ·intro hc
  have hg:Qvf cs k=true:=Qdt hc
  obtain⟨m,hm,rfl,ho⟩:=Qr0 hg
  have e:=Q2d hg hm
  obtain⟨q,hq⟩:∃q,cs[m]=q:=⟨_,rfl⟩
  rw[hq]at ho e
  refine Qi ?_
  try simp only[go_sem]
  refine Qa ?_
  simp only[go_sem,hm,Q4,Qal _ _ hm,CodeD.cells,hq]
  refine Qp3 ho.fts ho.b1 fun H2 hu=>?_
  have kn:=kn.call0 hu
  simp only[go_sem,Qju]
  refine Qj ?_
  simp only[go_sem,Q5,Qad,Qi7,List.mem_singleton,forall_eq,RS.op]
  have:=hK _ kn.fin
  rw[e]at this
  exact⟨_,.c _ _ (Qf rfl),this⟩
theorem Qa3r {cs:List CodeD} {k:Int} (h:Qvf cs k=true):Qjn cs=true:=by
 simp only[Qvf,Bool.and_eq_true]at h;exact h.1
theorem Qbcm {cs:List CodeD} {k:Nat} (h:Qjn cs=true) (hk:k<cs.length):Qvf cs (k:Int)=true:=by
 simp only[Qvf,Bool.and_eq_true,decide_eq_true_eq]
 exact⟨h,by omega,by omega⟩
set_option maxHeartbeats 4000000 in
theorem FnCodeSize_c {bs:List UInt8} (hK:∀H',K (.c (.bool true)) H'):Qv prog Qjp [.c (.sl false 1 (Qbn bs))] H K:=by
 refine Qb Qas Q3e ?_
 have retT':∀(e:Env) (H':Heap),lk 2 e=.c (.bool true)→Q5 Qfo K .ret e H':=by
  intro e H' h2
  simp only[go_sem,Q5,Qad,Qfo,List.mem_singleton,forall_eq,RS.op,h2]
  exact hK H'
 refine Qa ?_
 simp only[go_sem]
 refine Q3 ?_
 refine Qa ?_
 simp only[go_sem,Qat]
 intro _
 refine Qh (Qd rfl (fun hc=>?_) (fun hc=>?_))
 ·refine Qa ?_
  simp only[go_sem]
  refine Qj ?_
  exact retT' _ _ rfl
 refine Qi ?_
 try simp only[go_sem]
 refine Qa ?_
 simp only[go_sem]
 refine Q9p fun cs n H1 hu hok hn1 hn2=>?_
 have hfit:=hok.fits
 have kn:=(Kn.start0 H).call0 hu
 simp only[go_sem,Qgm,List.getD_cons_zero,List.getD_cons_succ]
 intro x3 hx3 H2 h2
 have kn:=kn.al hx3 h2
 have hx3:=kn.l 0 rfl
 simp only[go_sem,Qgl,hx3]
 intro H3 h3
 have kn:Kn H H3 [] [(x3,.st [.sl false 3 (Qp cs)])]:=kn.stL 0 rfl h3
 have hx3:=kn.l 0 rfl
 simp only[go_sem,Qgk]
 refine Qa ?_
 simp only[go_sem,hx3]
 refine Qwz hfit fun H4 hu=>?_
 have kn:=kn.call0 hu
 have hx3:=kn.l 0 rfl
 simp only[go_sem,Qgn]
 refine Q3 ?_
 refine Qa ?_
 simp only[go_sem,hx3]
 refine Qz7 hfit fun H5 hu=>?_
 have kn:=kn.call0 hu
 have hx3:=kn.l 0 rfl
 simp only[go_sem,Qgo,decide_true]
 by_cases hg:Qvf cs n=true
 ·obtain⟨k0,hk0,rfl,ho⟩:=Qr0 hg
  have hB:=Q2d hg hk0
  have hU:=Qa3r hg
  have h800:=(of_decide_eq_true hU).2.2
  have hc4:cs.length≤4:=by have:=(of_decide_eq_true hU).1;omega
  have hmem:=Qr6 (f:=Qnp) (List.getElem_mem hk0)
  rw[hB]
  refine Qh (Qd rfl (fun h=>?_) (fun _=>?_))
  ·have:=of_decide_eq_true h;omega
  refine Qi ?_
  try simp only[go_sem]
  refine Qa ?_
  simp only[go_sem]
  refine Q3 ?_
  refine Qa ?_
  simp only[go_sem,hx3,Q4]
  try intro _
  refine Qh (Qc (Qw (fun m e1 H1=>∃(k:Nat),m=cs.length-k∧k≤cs.length∧Kn H H1 [] [(x3,.st [.sl false 3 (Qp cs)])]∧
   lk 3 e1=.c (.ptr x3 0)∧lk 5 e1=.c (.int .i64 (Qnp cs[k0]:Nat))∧lk 6 e1=.c (.int .i64 (Qgy Qnp (cs.take k):Nat))∧lk 39 e1=.c (.int .i64 cs.length)∧lk 40 e1=.c (.int .i64 k)) cs.length ?_ ?_))
  ·exact⟨0,by omega,by omega,kn,rfl,rfl,rfl,rfl,rfl⟩
  ·clear kn hx3
   rintro m e1 H6 ⟨k,hm,hk,kn,l3,l5,l6,l39,l40⟩
   have hx3:=kn.l 0 rfl
   refine Qa ?_
   simp only[go_sem,l3,l5,l6,l39,l40]
   refine Qh (Qd rfl ?_ ?_)
   ·intro hc1
    have hlt:k<cs.length:=by simpa using hc1
    have hss:=Qdc (f:=Qnp) hlt
    have hle:=Qwu (f:=Qnp) (l:=cs) (k+1)
    refine Qi ?_
    try simp only[go_sem]
    refine Qh (Qc ?_)
    refine Qa ?_
    simp only[go_sem]
    refine Qq ?_
    simp only[go_sem,hx3]
    refine Qwz hfit fun H7 hu=>?_
    have kn:=kn.call0 hu
    rw[Q2d (Qbcm hU hlt) hlt]
    simp only[go_sem,Qgq]
    refine⟨Qo (by omega) (by omega),?_⟩
    refine Qq ?_
    simp only[go_sem]
    refine⟨Qo (by omega) (by omega),?_⟩
    show ∃m,_
    refine⟨cs.length-(k+1),by omega,k+1,rfl,by omega,kn,rfl,rfl,?_,rfl,by simp[lk]⟩
    rw[hss];rfl
   ·intro hc1
    have hge:cs.length≤k:=by simpa using hc1
    rw[List.take_of_length_le hge]at l6
    have hle:decide (((Qnp cs[k0]:Nat):Int)≤(Qgy Qnp cs:Nat))=true:=decide_eq_true (by omega)
    refine Qs ?_
    simp only[go_sem,X.next]
    refine Qa ?_
    simp only[go_sem,l3,l5,l6,hx3]
    refine Qazj hfit fun H7 hu=>?_
    have hcI:Qac4 cs=(Qgy Qnp cs:Nat):=by rw[Qac4,if_pos hU]
    rw[hcI]
    simp only[go_sem,Qfz]
    refine Qj ?_
    exact retT' _ _ (by simp[lk,List.take_of_length_le hge];omega)
 ·have hgf:Qvf cs n=false:=by simpa using hg
  have hB:Qacx cs n=-1:=by rw[Qacx,if_neg hg]
  rw[hB]
  refine Qh (Qd rfl (fun _=>?_) (fun h=>?_))
  ·refine Qa ?_
   simp only[go_sem,hx3]
   refine Qz7 hfit fun H6 hu=>?_
   rw[hB]
   simp only[go_sem,Qgp,decide_true]
   refine Qj ?_
   exact retT' _ _ rfl
  ·have:=of_decide_eq_false h;omega
end Go.AE.Y

namespace Go.AE.Y
open Go.ChangeShapes Go.WideShapes Go.ChangeAt Go.RowKit
def Qbbs (w:World) (a:Option Addr) (len cap:Nat) (zs:List Int):Prop:=
 (a=none∧len=0∧cap=0∧zs=[])∨
 ∃x,a=some x∧len≤cap∧zs.length=cap∧(∀i,i<zs.length→w.cell? (x.add i)=some (.int .u8 (zs.getD i 0)))∧∀n∈zs,(Lit.int .u8 n).wf=true
theorem Qa7p (w:World):Sat (fun _=>.none) ⟨fun b=>decide (b<w.heap.size),fun _=>none,fun _=>none⟩ w:=by
 refine⟨fun b hb=>⟨by simp;omega,rfl⟩,⟨0,fun _ _=>rfl⟩,fun b x h=>by simp at h,fun b l p h=>by simp at h,fun l=>trivial⟩
theorem Qbb5 {n:Int} (h:(Lit.int .u8 n).wf=true):((UInt8.ofNat n.toNat).toNat:Int)=n:=by
 simp only[Lit.wf,Bool.and_eq_true,decide_eq_true_eq]at h
 have a1:IntKind.min .u8=0:=by decide
 have a2:IntKind.max .u8=255:=by decide
 rw[a1,a2]at h
 rw[UInt8.toNat_ofNat']
 omega
theorem calls_of_acall {P:Program} {f:Nat} (h:∀bs:List UInt8,bs.length≤1048576→Qv P f [.c (.sl false 1 (Qbn bs))] (fun _=>.none) fun v _=>v=.c (.bool true))
  {a0:Option Addr} {len0 cap0:Nat} {z0:List Int} {w:World} (hr:Qbbs w a0 len0 cap0 z0) (hl:len0≤1048576) :
  Calls P f #[.slice a0 len0 cap0] w fun e w'=>e=.returned (.bool true)∧Below w.heap.size w w':=by
 have key:∃bs:List UInt8,bs.length=len0∧RepC w ⟨fun b=>decide (b<w.heap.size),fun _=>none,fun _=>none⟩ (.sl false 1 (Qbn bs)) (.slice a0 len0 cap0):=by
  rcases hr with ⟨rfl,rfl,rfl,rfl⟩|⟨x,rfl,hlc,hz,hcell,hwf⟩
  ·exact⟨[],rfl,.slnil _ _ _⟩
  ·obtain⟨b,off,spot⟩:=x
   have hbl:((z0.take len0).map fun n=>UInt8.ofNat n.toNat).length=len0:=by simp;omega
   by_cases h0:cap0=0
   ·subst h0
    have:len0=0:=by omega
    subst this
    exact⟨[],rfl,.slnil _ _ _⟩
   have hc0:=hcell 0 (by omega)
   have hspot:spot=none:=by simpa[Addr.add]using World.cell?_spot hc0
   subst hspot
   have hadd:∀i,(⟨b,off,none⟩:Addr).add i=⟨b,off+i,none⟩:=by
    intro i
    by_cases h:i=0 <;> simp[Addr.add,h]
   have hb:b<w.heap.size:=by
    rcases Nat.lt_or_ge b w.heap.size with h|h
    ·exact h
    ·simp[World.cell?,Addr.add,Array.getElem?_eq_none h]at hc0
   refine⟨_,hbl,?_⟩
   have hget:∀(i:Nat) (row:List C),(Qbn ((z0.take len0).map fun n=>UInt8.ofNat n.toNat))[i]? = some row→i<len0∧row=[.int .u8 (z0.getD i 0)]:=by
    intro i row hi
    have hlt:i<len0:=by
     rcases Nat.lt_or_ge i len0 with h|h
     ·exact h
     ·rw[List.getElem?_eq_none (by rw[Qat];omega)]at hi;simp at hi
    have hz0:i<z0.length:=by omega
    refine⟨hlt,?_⟩
    simp only[Qbn,List.getElem?_map,List.getElem?_take,if_pos hlt,List.getElem?_eq_getElem hz0,Option.map_some,Option.some.injEq]at hi
    rw[←hi,Qbb5 (hwf _ (List.getElem_mem hz0))]
    simp[List.getD_eq_getElem?_getD,hz0]
   have:=RepC.sl (w:=w) (g:=⟨fun b=>decide (b<w.heap.size),fun _=>none,fun _=>none⟩) false 1 (Qbn ((z0.take len0).map fun n=>UInt8.ofNat n.toNat)) b off cap0 (fun i _=>.int .u8 (z0.getD i 0))
    (by rw[Qat,hbl];simp only[LIM];omega) (by simp) (by rw[Qat,hbl];exact hlc) (by simpa using hb)
    (fun i row hi=>by rw[(hget i row hi).2];rfl)
    (fun i row j c hi hj=>by
     obtain⟨h1,rfl⟩:=hget i row hi
     have hj0:j=0:=by
      rcases Nat.eq_zero_or_pos j with h|h
      ·exact h
      ·rw[List.getElem?_eq_none (by simp;omega)]at hj;simp at hj
     subst hj0
     have:=hcell i (by omega)
     rw[hadd]at this
     simpa using this)
    (fun i row j c hi hj=>by
     obtain⟨h1,rfl⟩:=hget i row hi
     have hj0:j=0:=by
      rcases Nat.eq_zero_or_pos j with h|h
      ·exact h
      ·rw[List.getElem?_eq_none (by simp;omega)]at hj;simp at hj
     subst hj0
     simp at hj;subst hj
     exact .int _ _)
   rw[Qat,hbl]at this
   exact this
 obtain⟨bs,hbl,hrep⟩:=key
 have hc:=(h bs (by omega)).2 _ w [.slice a0 len0 cap0] (Qa7p w) rfl (fun j x u hj hu=>by
  cases j with
  |zero=>simp at hj hu;subst hj;subst hu;exact .c _ _ hrep
  |succ j=>simp at hj)
 refine hc.mono fun e w'=>?_
 rintro⟨v,x,H',g',rfl,rfl,hst,hv⟩
 have:v=.bool true:=by cases hv with|c _ _ h=>cases h;rfl
 subst this
 exact⟨rfl,hst.le.os,hst.le.tape,hst.le.output,hst.le.size,fun k hk=>(hst.le.per k (by simpa using hk)).2⟩
end Go.AE.Y

