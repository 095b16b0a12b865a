/- Part 6 of the proof: the engine, codes, walks and plain laws, each named where it stands. -/
import Derived.Test.YtajdffbgjodbfaaGreatZE
import Derived.Below
import Derived.OpenShut
import Derived.ProofKit
open Nat (reduceEqDiff reduceAdd reduceLeDiff reduceLT)
set_option linter.unusedVariables false
set_option linter.unusedSimpArgs false
set_option maxRecDepth 4000
namespace Go.AE.Y
attribute [local go_sem] cond_true cond_false Bool.not_true Bool.not_false
attribute [local instance] Classical.propDecidable
open Go.Proofs.Tryz
variable {H H' F:Heap} {K:V→Heap→Prop} {q:CodeD} {os:List OBlk} {zb wl cy R n b:Nat} {ids:List Int} {nx:Int} {cs:List Int}
def wgt (os:List OBlk) (x:Nat):Nat:=match os[x]? with
 |some o=>o.phis.length+o.ins.length
 |none=>0
theorem Qbc3 {x:Nat} {o:OBlk} (h:x<os.length) (ho:os[x]=o):wgt os x=o.phis.length+o.ins.length:=by simp[wgt,h,ho]
theorem Qa9u {n:Nat} {g:Nat→List Nat} {b:Nat}:depL n g b≤n:=by
 have:=List.length_filter_le (fun a=>Qqz g a b) (List.range n)
 simpa[depL]using this
theorem Qape (ids:List Int) (b:Nat):(Qni ids b).Nodup:=List.Nodup.sublist List.filter_sublist List.nodup_range
theorem Qayk {N B:Nat} {w:Nat→Nat} (hw:∀x,w x≤B) (U:Nat→Prop):potW N w U≤N * B:=by
 have key:∀m,(((List.range m).filter fun x=>decide (U x)).map w).sum≤m * B:=fun m=>by
  induction m with
  |zero=>simp
  |succ m ih=>
   rw[List.range_succ,List.filter_append,List.map_append,List.sum_append,Nat.succ_mul]
   have h1:(((List.filter (fun x=>decide (U x)) [m]).map w)).sum≤B:=by
    by_cases h:U m
    ·simp[h];exact hw m
    ·simp[h]
   omega
 exact key N
noncomputable def pW (n:Nat) (w:Nat→Nat) (U:Nat→Prop):Nat:=@potW n w U fun _=>Classical.propDecidable _
theorem Qbcl {w:Nat→Nat} {U V:Nat→Prop} {b:Nat} (hb:b<n) (hU:U b) (hV:∀x,V x↔U x∧x≠b):pW n w V+w b=pW n w U:=by
 unfold pW;exact Qa7w hb hU hV
theorem Qbck {w:Nat→Nat} {U V:Nat→Prop} (h:∀x,V x→U x):pW n w V≤pW n w U:=by
 unfold pW;exact Qba7 h
theorem Qa7r {N B:Nat} {w:Nat→Nat} (hw:∀x,w x≤B) (U:Nat→Prop):pW N w U≤N * B:=by
 unfold pW;exact Qayk hw U
set_option maxHeartbeats 8000000 in
theorem Qba0 (c:NC q os zb R n ids) (M:Int) (hM:M≤2 ^ 40):∀(N b:Nat) (U:Nat→Prop) (nx:Int) (cs:List Int) (cy:Nat) (H:Heap) (K:V→Heap→Prop),n<N+depL n (nxN (gnx q)) b→b<n→(∀x,Sub ids b x→U x)→NSt q os zb n R wl cy ids H nx cs (XU os zb U) H→0≤nx→nx+pW n (wgt os) U≤M→
  (∀nx' cs' H',NSt q os zb n R wl cy ids H nx' cs' (XU os zb fun x=>U x∧¬Sub ids b x) H'→0≤nx'→nx'+pW n (wgt os) (fun x=>U x∧¬Sub ids b x)≤M→K (.tup []) H')→
  Qw prog Qca [.c (.ptr wl 0),.c (.int .i64 b),.c (.vsl cy 1 0 R)] H K:=by
 intro N
 induction N with
 |zero=>intro b U nx cs cy H K h1;have:=Qa9u (n:=n) (g:=nxN (gnx q)) (b:=b);omega
 |succ N ih=>
  intro b U nx cs cy H K hN hb hUs s h0 hpot hK
  obtain⟨hl,hq,hd,hok,hyo,hpl,hil⟩:=c.get hb
  obtain⟨o,ho⟩:∃o,os[b]=o:=⟨_,rfl⟩
  obtain⟨y,hy⟩:∃y,q.blocks[b]=y:=⟨_,rfl⟩
  rw[ho]at hd hok hpl hil
  rw[hy]at hd hyo
  have ap:Apart os zb:=s.t.nodup
  have hbU:U b:=hUs b .refl
  obtain⟨U1,hU1⟩:∃U1:Nat→Prop,U1=fun x=>U x∧x≠b:=⟨_,rfl⟩
  have hU1b:¬U1 b:=by rw[hU1];exact fun h=>h.2 rfl
  have hpo:=Qbcl (n:=n) (w:=wgt os) (U:=U) (V:=U1) hb hbU (fun x=>by rw[hU1])
  rw[Qbc3 hl ho]at hpo
  have s1:NSt q os zb n R wl cy ids H nx cs (XC os zb U1 o b true 0 0) H:=by
   refine⟨?_,s.c⟩
   refine s.t.weak fun m r hh=>?_
   rcases hh with (h|⟨x,hx,hUx,he⟩)|⟨_,h1,h2⟩|⟨p,hp,h1,_⟩|⟨i',hi',h1,_⟩
   ·exact .inl h
   ·rw[hU1]at hUx;exact .inr ⟨x,hx,hUx.1,he⟩
   ·exact .inr ⟨b,hl,hbU,.inl ⟨h1,h2⟩⟩
   ·exact .inr ⟨b,hl,hbU,.inr ⟨p,by rw[ho];exact List.mem_append_right _ hp,h1⟩⟩
   ·exact .inr ⟨b,hl,hbU,.inr ⟨_,by rw[ho];exact List.mem_append_left _ (o.aM hi'),h1⟩⟩
  have hXph:∀p∈o.phN,∀r,¬XC os zb U1 o b true 0 0 p.1 r:=fun p hp r hh=>by
   have hp':p∈os[b].phN:=by rw[ho];exact hp
   rcases hh with h|h
   ·exact ap.ph hl hp' r h
   ·exact ap.phP hl hl hp' true 0 0 r (by rw[ho];exact h)
  clear s
  refine Qb Qat Qza ?_
  have hw:=s1.w
  rw[wO]at hw
  obtain⟨RW,j,on,hzb,hRWl,hRWt,hRWg,_,_⟩:=Q29 s1.t c hb hl ho
  refine Qa ?_
  simp only[go_sem,hw,hzb,hRWl,hb,Nat.zero_add,Nat.le_refl]
  refine phA c hb hl ho hXph s1 ⟨rfl,rfl,rfl,rfl⟩ h0 (by omega) (by omega) fun e2 H2 s2 k2=>?_
  refine phB c hb hl ho hd hq hy s2 k2 (by omega) fun e3 H3 cs3 s3 k3=>?_
  refine phC c hb hl ho hd hq hy hU1b s3 k3 (by omega) (by omega) (by omega) fun e4 H4 nx4 cs4 hn1 hn2 s4 k4=>?_
  refine phD c hb hl ho hd hq hy hU1b s4 k4 fun e5 H5 s5 k5=>?_
  refine phE c hb hl ho hd hq hy s5 k5 fun e6 H6 s6 k6=>?_
  obtain⟨l0,l1,l2,l6⟩:=k6
  have hw:=s6.w
  rw[wO]at hw
  refine Qa ?_
  simp only[go_sem,l0,l1,l2,l6,hw]
  refine Qa10 (by rw[c.t.1];have:=c.ok.b1;rw[c.hn]at this;omega) fun H7 hu=>?_
  have s7:NSt q os zb n R wl cy ids H nx4 cs4 (XU os zb U1) H7:=⟨s6.t.call0 hu,s6.c⟩
  simp only[go_sem,Qeg,l0,l1,l2,l6]
  obtain⟨kl,hkl⟩:∃kl,Qni ids b=kl:=⟨_,rfl⟩
  rw[hkl]
  have hkll:kl.length≤160:=by
   have h1:=List.length_filter_le (fun i=>decide (ids.getD i 0=(b:Int))) (List.range ids.length)
   rw[List.length_range,c.t.1]at h1
   have h2:=c.ok.b1
   rw[c.hn]at h2
   rw[←hkl,Qni,c.t.1];omega
  have hkm:∀k∈kl,k∈Qni ids b:=fun k hk=>by rw[hkl];exact hk
  have hknd:kl.Nodup:=by rw[←hkl];exact Qape ids b
  refine Qa ?_
  simp only[go_sem]
  refine Qc (Qv (fun m e1 H1=>∃(i:Nat) (nx':Int) (cs:List Int),m=kl.length-i∧i≤kl.length∧NSt q os zb n R wl cy ids H nx' cs (XU os zb fun x=>U1 x∧∀k∈kl.take i,¬Sub ids k x) H1∧0≤nx'∧nx'+pW n (wgt os) (fun x=>U1 x∧∀k∈kl.take i,¬Sub ids k x)≤M∧
   lk 0 e1=.c (.ptr wl 0)∧lk 2 e1=.c (.vsl cy 1 0 R)∧lk 16 e1=.c (.sl false 1 (Q9 kl))∧lk 17 e1=.c (.int .i64 i)) kl.length ?_ ?_)
  ·refine⟨0,nx4,cs4,by omega,by omega,⟨s7.t.weak fun m r hh=>?_,s7.c⟩,by omega,?_,rfl,rfl,rfl,rfl⟩
   ·rcases hh with h|⟨x,hx,hUx,he⟩
    ·exact .inl h
    ·exact .inr ⟨x,hx,hUx.1,he⟩
   ·have:=Qbck (n:=n) (w:=wgt os) (U:=U1) (V:=fun x=>U1 x∧∀k∈kl.take 0,¬Sub ids k x) fun x hx=>hx.1
    omega
  ·clear hw hzb hRWl hRWt hRWg s1 s6 s7 hu l0 l1 l2 l6
   rintro m e7 H8 ⟨i,nx',cs,hm,hi,s,hn0,hpot',l0,l2,l16,l17⟩
   refine Q3 ?_
   refine Qa ?_
   simp only[go_sem,l0,l2,l16,l17,Q1]
   try intro _
   refine Qh (Qd rfl ?_ ?_)
   ·intro hc
    have hlt:i<kl.length:=by simpa using hc
    obtain⟨k,hk⟩:∃k,kl[i]=k:=⟨_,rfl⟩
    have hkmem:k∈Qni ids b:=hkm k (by rw[←hk];exact List.getElem_mem hlt)
    have hgd:kl.getD i 0=k:=by simp[List.getD_eq_getElem?_getD,hlt,hk]
    have hkid:=kidsL_mem.1 hkmem
    have hkn:k<n:=by rw[←c.t.1];exact hkid.1
    have hdep:=(c.t.up hkid.1 hkid.2).2
    have hcu:=s.cu
    refine Qi ?_
    try simp only[go_sem]
    refine Qh (Qc ?_)
    refine Qa9 ?_
    simp only[go_sem,l0,l2,l16,l17,hlt,Q1,Qaq _ _ hlt,hgd,hcu,s.ct,s.cl,List.nil_append,List.length_nil,List.drop_zero,Nat.zero_add,Nat.le_refl]
    refine⟨.inl trivial,Qt _,by have h1:=c.ok.r1;have h2:=c.ok.r0;have:=c.hR;simp only[LIM];omega,fun z hz H9 h9=>?_⟩
    have t9:=s.t.al hz h9
    simp only[go_sem,Qeh,l0,l2,l16,l17,hlt,Q1,Qaq _ _ hlt,hgd]
    have hsub:Ty (LGo os zb) H9 [(wl,wO q ids zb n nx'),(z,.vec 1 (Qf cs))] (XU os zb fun x=>U1 x∧∀k∈kl.take i,¬Sub ids k x) H9 []:=Ty.sub (L:=[]) t9
    refine ih k (fun x=>U1 x∧∀k∈kl.take i,¬Sub ids k x) nx' cs z H9 _ (by omega) hkn (fun x hx=>?_) ⟨hsub,s.c⟩ hn0 hpot' fun nx2 cs2 H10 s10 hn2' hpot2=>?_
    ·refine⟨?_,fun k' hk' hs'=>?_⟩
     ·rw[hU1]
      refine⟨hUs x (Sub.kid hkmem hx),fun hxb=>?_⟩
      subst hxb
      exact Sub.kid_ne c.t hkmem hx
     ·have hk'm:k'∈kl:=List.mem_of_mem_take hk'
      have:=Sub.kids_apart c.t (hkm k' hk'm) hkmem hs' hx
      subst this
      rw[←hk]at hk'
      exact Qawv hknd hlt hk'
    have hXeq:∀x,(U1 x∧∀k∈kl.take (i+1),¬Sub ids k x)↔((U1 x∧∀k∈kl.take i,¬Sub ids k x)∧¬Sub ids k x):=fun x=>by
     rw[List.take_succ_eq_append_getElem hlt,hk]
     constructor
     ·rintro⟨g1,g2⟩
      exact⟨⟨g1,fun k' hk'=>g2 k' (List.mem_append_left _ hk')⟩,g2 k (List.mem_append_right _ (by simp))⟩
     ·rintro⟨⟨g1,g2⟩,g3⟩
      refine⟨g1,fun k' hk'=>?_⟩
      rcases List.mem_append.1 hk' with h|h
      ·exact g2 k' h
      ·simp only[List.mem_singleton]at h;rw[h];exact g3
    have hfe:(fun x=>U1 x∧∀k∈kl.take (i+1),¬Sub ids k x)=fun x=>(U1 x∧∀k∈kl.take i,¬Sub ids k x)∧¬Sub ids k x:=funext fun x=>propext (hXeq x)
    have t11:=Ty.ret (L:=[]) t9 s10.t
    refine Qq ?_
    simp only[go_sem,l0,l2,l16,l17]
    refine⟨Qo (by omega) (by omega),?_⟩
    show ∃m,_
    refine⟨kl.length-(i+1),by omega,i+1,nx2,cs,rfl,by omega,?_,hn2',?_,rfl,rfl,rfl,rfl⟩
    ·rw[hfe];exact⟨t11,s.c⟩
    ·rw[hfe];exact hpot2
   ·intro hc
    have hie:i=kl.length:=by have:kl.length≤i:=(by simpa using hc);omega
    subst hie
    rw[List.take_length]at s hpot'
    refine Qu ?_
    simp only[go_sem,X.next,Q5,Qaf,Qjb,List.not_mem_nil,false_imp_iff,implies_true,List.map_nil]
    have hsubset:∀x,(U x∧¬Sub ids b x)→(U1 x∧∀k∈kl,¬Sub ids k x):=fun x hx=>by
     refine⟨by rw[hU1];exact⟨hx.1,fun hxb=>hx.2 (by rw[hxb];exact .refl)⟩,fun k hk hs=>hx.2 (Sub.kid (hkm k hk) hs)⟩
    refine hK nx' cs H8 ⟨s.t.weak fun m r hh=>?_,s.c⟩ hn0 ?_
    ·rcases hh with h|⟨x,hx,hUx,he⟩
     ·exact .inl h
     ·exact .inr ⟨x,hx,hsubset x hUx,he⟩
    ·have:=Qbck (n:=n) (w:=wgt os) hsubset
     omega
theorem LGo.vec {zb:Nat} (hok:∀b∈os,b.ok) (how:∀b∈os,∀p∈b.phis,p.own):∀p∈LGo os zb,∃sz rows,p.2=.vec sz rows:=fun p hp=>by
 rcases List.mem_append.1 hp with hp|hp
 ·obtain⟨o,ho,hp⟩:=List.mem_flatMap.1 hp
  have h1:=hok o ho
  simp only[OBlk.lg,List.mem_append]at hp
  rcases hp with hp|hp|hp|hp|hp
  ·simp only[OInts.lg,List.mem_singleton]at hp;rw[hp];exact⟨_,_,rfl⟩
  ·obtain⟨x,hx,hp⟩:=List.mem_flatMap.1 hp
   obtain⟨y,_,e⟩:=how o ho x hx
   rw[e]at hp
   simp only[List.mem_singleton]at hp;rw[hp];exact⟨_,_,rfl⟩
  ·rcases h1.p with ⟨_,_,e⟩|⟨y,_,e⟩
   ·rw[e]at hp;simp at hp
   ·rw[e]at hp;simp only[List.mem_singleton]at hp;rw[hp];exact⟨_,_,rfl⟩
  ·obtain⟨x,hx,hp⟩:=List.mem_flatMap.1 hp
   simp only[OIns.lg,OInts.lg,List.mem_singleton]at hp;rw[hp];exact⟨_,_,rfl⟩
  ·rcases h1.i with ⟨_,_,e⟩|⟨y,_,e⟩
   ·rw[e]at hp;simp at hp
   ·rw[e]at hp;simp only[List.mem_singleton]at hp;rw[hp];exact⟨_,_,rfl⟩
 ·simp only[List.mem_singleton]at hp;rw[hp];exact⟨_,_,rfl⟩
theorem Qa8x {LG E0:List (Nat×Obj)} {Z:Nat→Nat→Prop} (hv:∀p∈LG,∃sz rows,p.2=.vec sz rows) (kn:Kn H H (E0++LG) []):Ty LG H E0 Z H []:=by
 refine⟨LG,rfl,fun p hp ob hob=>?_,kn⟩
 have hd:=kn.dE
 rw[List.map_append]at hd
 have hnd:=(List.nodup_append.1 hd).2.1
 obtain⟨i1,g1⟩:=List.getElem?_of_mem hp
 obtain⟨i2,g2⟩:=List.getElem?_of_mem hob
 have:=Qb5 hnd g1 g2 rfl
 subst this
 rw[g1]at g2
 have e:p.2=ob:=by rw[Option.some.inj g2]
 obtain⟨sz,rows,h⟩:=hv p hp
 rw[←e,h];exact .same _ _
theorem Qacy {S:Nat→Bool} {Z:Nat→Prop} {m k:Nat} {ns:List Int} (hs:SimO Z (.vec 1 (Qf ns)) (H m)) (hS:S m=true) (hk:k=ns.length):∃ns':List Int,ns'.length=ns.length∧FrzC H S (.vsl m 1 0 k) (.sl false 1 (Qf ns')):=by
 obtain⟨ns',h1,h2,_⟩:=Qaw5 (X:=fun _=>Z) (m:=m) hs
 exact⟨ns',h2,(FrzR.same (Qt _)).vsl hS h1 (by rw[Qe];omega)⟩
theorem Q04 {β:Type} {S:Nat→Bool} {g:β→List C} {P:β→Prop}:∀(l:List (List C)),(∀r∈l,∃y,FrzL H S r (g y)∧P y)→∃l':List β,FrzR H S l (l'.map g)∧l'.length=l.length∧∀y∈l',P y
 |[],_=>⟨[],.nil,rfl,by simp⟩
 |x::l,h=>by
  obtain⟨y,hy,hp⟩:=h x List.mem_cons_self
  obtain⟨l',hl',hn,hps⟩:=Q04 l fun z hz=>h z (List.mem_cons_of_mem _ hz)
  refine⟨y::l',.cons hy hl',by simp[hn],fun z hz=>?_⟩
  rcases List.mem_cons.1 hz with rfl|hz
  ·exact hp
  ·exact hps z hz
theorem Qa3o {l:List (List C)} {r:List C} (h:r∈l):∃i,i<l.length∧l.getD i []=r:=by
 obtain⟨i,hi,rfl⟩:=List.mem_iff_getElem.1 h
 exact⟨i,hi,by simp[List.getD_eq_getElem?_getD,hi]⟩
theorem Qa5w {S:Nat→Bool} {Z:Nat→Nat→Prop} {o:OBlk} (hok:o.ok) (how:∀p∈o.phis,p.own) (hs:∀p∈o.phN,SimO (Z p.1) p.2 (H p.1)∧S p.1=true):∃ps:List PhiD,FrzC H S o.pc (.sl false 2 (Qaj ps))∧ps.length=o.phis.length:=by
 rcases hok.p with ⟨h1,h2,_⟩|⟨z,h1,h2⟩
 ·have h0:o.phis=[]:=List.map_eq_nil_iff.1 h2
  exact⟨[],by rw[h1];exact FrzR.nil.sl,by simp[h0]⟩
 ·obtain⟨hz,hSz⟩:=hs (z,.vec 2 (o.phis.map OPhi.row)) (List.mem_append_right _ (by rw[h2];simp))
  obtain⟨PR,g1,g2,g3⟩:=hz.get
  rw[List.length_map]at g2 g3
  obtain⟨ps,e1,e2,_⟩:=Q04 (H:=H) (S:=S) (g:=PhiD.cells) (P:=fun _=>True) PR fun r hr=>by
   obtain⟨i,hi,he⟩:=Qa3o hr
   have hi':i<o.phis.length:=by omega
   obtain⟨h4,_⟩:=g3 i hi'
   obtain⟨ya,e3,e4⟩:=how _ (List.getElem_mem hi')
   have hg:(o.phis.map OPhi.row).getD i []=[.int .i64 o.phis[i].to,.vsl ya 1 0 o.phis[i].ns.length]:=by
    simp only[List.getD_eq_getElem?_getD,List.getElem?_map,List.getElem?_eq_getElem hi',Option.map_some,Option.getD_some,OPhi.row,e3]
   rw[hg,he]at h4
   have hya:=hs (ya,.vec 1 (Qf o.phis[i].ns)) (List.mem_append_left _ (List.mem_flatMap.2 ⟨_,List.getElem_mem hi',by rw[e4];simp⟩))
   obtain⟨ns',_,hfr⟩:=Qacy hya.1 hya.2 rfl
   cases h4 with
   |cons a1 t1=>cases t1 with
    |cons a2 t2=>cases t2 with
     |nil=>
      obtain⟨v,e⟩:=a1.int
      have e5:=a2.vsl
      subst e;subst e5
      exact⟨⟨v,ns'⟩,.cons (Qg rfl) (.cons hfr .nil),trivial⟩
  exact⟨ps,by rw[h1];exact e1.vsl hSz g1 (by rw[List.length_map,g2]),by omega⟩
theorem Qa9l {S:Nat→Bool} {Z:Nat→Nat→Prop} {o:OBlk} (hok:o.ok) (hs:∀p∈o.inN,SimO (Z p.1) p.2 (H p.1)∧S p.1=true):∃is:List InsD,FrzC H S o.ic (.sl false 4 (Qbo is))∧is.length=o.ins.length:=by
 rcases hok.i with ⟨h1,h2,_⟩|⟨z,h1,h2⟩
 ·have h0:o.ins=[]:=List.map_eq_nil_iff.1 h2
  exact⟨[],by rw[h1];exact FrzR.nil.sl,by simp[h0]⟩
 ·obtain⟨hz,hSz⟩:=hs (z,.vec 4 (o.ins.map OIns.row)) (List.mem_append_right _ (by rw[h2];simp))
  obtain⟨PR,g1,g2,g3⟩:=hz.get
  rw[List.length_map]at g2 g3
  obtain⟨ps,e1,e2,_⟩:=Q04 (H:=H) (S:=S) (g:=InsD.cells) (P:=fun _=>True) PR fun r hr=>by
   obtain⟨i,hi,he⟩:=Qa3o hr
   have hi':i<o.ins.length:=by omega
   obtain⟨h4,_⟩:=g3 i hi'
   have hg:(o.ins.map OIns.row).getD i []=[.int .i64 o.ins[i].op,.int .i64 o.ins[i].to,.vsl o.ins[i].a.y 1 0 o.ins[i].a.ns.length,.int .i64 o.ins[i].n]:=by
    simp only[List.getD_eq_getElem?_getD,List.getElem?_map,List.getElem?_eq_getElem hi',Option.map_some,Option.getD_some]
    rfl
   rw[hg,he]at h4
   have hya:=hs (o.ins[i].a.y,.vec 1 (Qf o.ins[i].a.ns)) (List.mem_append_left _ (o.aM hi'))
   obtain⟨ns',_,hfr⟩:=Qacy hya.1 hya.2 rfl
   cases h4 with
   |cons a1 t1=>cases t1 with
    |cons a2 t2=>cases t2 with
     |cons a3 t3=>cases t3 with
      |cons a4 t4=>cases t4 with
       |nil=>
        obtain⟨v1,f1⟩:=a1.int
        obtain⟨v2,f2⟩:=a2.int
        have f3:=a3.vsl
        obtain⟨v4,f4⟩:=a4.int
        subst f1;subst f2;subst f3;subst f4
        exact⟨⟨v1,v2,ns',v4⟩,.cons (Qg rfl) (.cons (Qg rfl) (.cons hfr (.cons (Qg rfl) .nil))),trivial⟩
  exact⟨ps,by rw[h1];exact e1.vsl hSz g1 (by rw[List.length_map,g2]),by omega⟩
theorem Qa5v {S:Nat→Bool} {Z:Nat→Nat→Prop} (c:NC q os zb R n ids) (t:∀p∈LGo os zb,SimO (Z p.1) p.2 (H p.1)) (hS:∀p∈LGo os zb,S p.1=true) :
  ∃bs:List BlkD,FrzC H S (.vsl zb 5 0 n) (.sl false 5 (Qn bs))∧bs.length=n∧∀y∈bs,y.ins.length≤1200∧y.phis.length≤1200:=by
 have hs:=t _ LGo.zbm
 obtain⟨RW,h1,h2,h3⟩:=hs.get
 rw[List.length_map,c.l]at h2
 obtain⟨bs,e1,e2,e3⟩:=Q04 (H:=H) (S:=S) (g:=BlkD.cells) (P:=fun y=>y.ins.length≤1200∧y.phis.length≤1200) RW fun r hr=>by
  obtain⟨x,hx,he⟩:=Qa3o hr
  have hxn:x<n:=by omega
  obtain⟨hl,hq,hd,hok,hyo,hpl,hil⟩:=c.get hxn
  obtain⟨RW',j,on,g1,g2,_,g4,_,_⟩:=Qa3m hs c hxn hl rfl
  rw[h1]at g1
  cases g1
  rw[g4]at he
  subst he
  have hsx:∀p∈os[x].lg,SimO (Z p.1) p.2 (H p.1)∧S p.1=true:=fun p hp=>⟨t p (LGo.of hl hp),hS p (LGo.of hl hp)⟩
  obtain⟨ps,p1,p2⟩:=Qa5w (H:=H) (S:=S) (Z:=Z) hok (c.ow _ (List.getElem_mem hl)) fun p hp=>hsx p (OBlk.phM hp)
  obtain⟨is,i1,i2⟩:=Qa9l (H:=H) (S:=S) (Z:=Z) hok fun p hp=>hsx p (OBlk.inM hp)
  have hnx:=hsx _ os[x].nxM
  obtain⟨ns',_,n2⟩:=Qacy hnx.1 hnx.2 rfl
  exact⟨⟨ps,is,j,on,ns'⟩,.cons p1 (.cons i1 (.cons (Qg rfl) (.cons (Qg rfl) (.cons n2 .nil)))),by show is.length≤_;omega,by show ps.length≤_;omega⟩
 exact⟨bs,e1.vsl (hS _ LGo.zbm) h1 (by omega),by omega,e3⟩
set_option maxHeartbeats 8000000 in
theorem Qaph {q:CodeD} (ho:q.ok) (hpar:0≤q.params) (hpr:q.params≤q.regs) (h9:∀y∈q.blocks,y.ins.length≤900∧y.phis.length≤900) (hK:∀(d:CodeD) H',d.fits→Upd H H' []→K (.ag d.cells) H') :
  Qw prog Qkr [.ag [.int .i64 q.params,.int .i64 q.regs,.sl false 5 (Qn q.blocks)]] H K:=by
 refine Q0 ?_
 refine Qb Qat Qapp ?_
 refine Qa ?_
 simp only[go_sem]
 intro x2 hx2 H1 h1
 have kn:=(Kn.start0 H).al hx2 h1
 refine Qa ?_
 simp only[go_sem]
 refine Qax3 ho hpar h9 fun d1 H2 hd1 hp1 hr1 h9d hu=>?_
 have kn:=kn.call0 hu
 simp only[go_sem,Qov,CodeD.cells]
 refine Qa14 hd1 h9d fun d2 H3 hd2 hp2 hr2 hu=>?_
 have kn:=kn.call0 hu
 have hp:d2.params=q.params:=hp2.trans hp1
 have hr:d2.regs=q.regs:=hr2.trans hr1
 simp only[go_sem,Qou,CodeD.cells]
 intro x3 hx3 H4 h4
 have kn:=kn.al hx3 h4
 have hx3:=kn.l 1 rfl
 simp only[go_sem,Qot,hx3]
 intro H5 h5
 have kn:Kn H H5 [] [(x2,.st [.int .i64 0,.int .i64 0,.sl true 5 []]),(x3,.st [.int .i64 d2.params,.int .i64 d2.regs,.sl false 5 (Qn d2.blocks)])]:=kn.stL 1 rfl h5
 have hx3:=kn.l 1 rfl
 have hb0:=hd2.b0
 have hb1:=hd2.b1
 have hrr0:=hd2.r0
 have hrr1:=hd2.r1
 refine Qan ?_
 simp only[go_sem,hx3]
 refine Qadg hd2.sg fun o H6 k2 hok hod how=>?_
 have kn:=kn.comp0 k2
 obtain⟨n,hn⟩:∃n,d2.blocks.length=n:=⟨_,rfl⟩
 have hol:o.blocks.length=n:=by rw[←hn,←hod];simp[OCode.d]
 obtain⟨zb,hbc,hbl⟩:∃z,o.bc=.vsl z 5 0 n∧o.bl=[(z,.vec 5 (o.blocks.map OBlk.row))]:=by
  rcases hok.b with ⟨_,h,_⟩|⟨y,h1,h2⟩
  ·have:=congrArg List.length h;simp only[List.length_map,List.length_nil]at this;omega
  ·exact⟨y,by rw[h1,List.length_map,hol],h2⟩
 have hrow:o.row=[.int .i64 d2.params,.int .i64 d2.regs,.vsl zb 5 0 n]:=by
  rw[OCode.row,hbc,←hod];rfl
 have hlg:o.lg=LGo o.blocks zb:=by rw[OCode.lg,hbl];rfl
 have hos:o.blocks.map OBlk.d=d2.blocks:=by rw[←hod];rfl
 have hobs:=hok.bs
 rw[hlg]at kn
 have hx3:=kn.l 1 rfl
 simp only[go_sem,Qoz,hx3]
 refine Qahk (rows:=Qn d2.blocks) (nx:=gnx d2) (Qapd hd2.gd) (by rw[Qk];exact hd2.fitB) fun H7 hu=>?_
 have kn:=kn.call0 hu
 have hx3:=kn.l 1 rfl
 rw[Qk,hn]
 simp only[go_sem,Qoy,hx3]
 refine Qax2 (by omega) (by omega) fun ids H8 htree hu=>?_
 have kn:=kn.call0 hu
 have hx3:=kn.l 1 rfl
 rw[hrow]
 simp only[go_sem,Qox,hx3]
 intro x4 hx4 H9 h9'
 have kn:=kn.al hx4 h9'
 have hx3:=kn.l 1 rfl
 simp only[go_sem,Qow]
 obtain⟨R,hR⟩:∃R:Nat,d2.regs.toNat=R:=⟨_,rfl⟩
 have hRq:d2.regs=(R:Int):=by omega
 refine Qa ?_
 simp only[go_sem,hx3]
 refine⟨by omega,by simp only[LIM];omega,fun cy hcy H10 h10=>?_⟩
 rw[Qra,hR]at h10
 have kn:=kn.al hcy h10
 simp only[go_sem,Qo0,hR]
 refine Q3 ?_
 refine Qa ?_
 simp only[go_sem]
 generalize hos0:o.blocks=os at *
 have kn:Kn H H10 [] ([(cy,.vec 1 (Qf (List.replicate R 0)))]++([(x2,.st [.int .i64 0,.int .i64 0,.sl true 5 []]),(x3,.st [.int .i64 d2.params,.int .i64 d2.regs,.sl false 5 (Qn d2.blocks)])]++([(x4,wO d2 ids zb n q.params)]++LGo os zb))):=kn.perm (Qr fun f hf h0 hc hp=>by
  have e2:∀(a b:Nat×Obj),f [a,b]=f [a]+f [b]:=fun a b=>hc a [b]
  simp only[hf,e2,wO];omega)
 refine Qh (Qc (Qv (fun m e1 H1=>∃(r:Nat) (cs:List Int),m=q.params.toNat-r∧(r:Int)≤q.params∧cs.length=R∧
  Kn H H1 [] ([(cy,.vec 1 (Qf cs))]++([(x2,.st [.int .i64 0,.int .i64 0,.sl true 5 []]),(x3,.st [.int .i64 d2.params,.int .i64 d2.regs,.sl false 5 (Qn d2.blocks)])]++([(x4,wO d2 ids zb n q.params)]++LGo os zb)))∧
  lk 1 e1=.c (.pp [.int .i64 q.params,.int .i64 q.regs,.sl false 5 (Qn q.blocks)])∧lk 2 e1=.c (.ptr x2 0)∧lk 4 e1=.c (.ptr x4 0)∧lk 5 e1=.c (.vsl cy 1 0 R)∧lk 6 e1=.c (.int .i64 r)) q.params.toNat ?_ ?_))
 ·exact⟨0,List.replicate R 0,by omega,hpar,by simp,kn,rfl,rfl,rfl,rfl,rfl⟩
 ·clear kn h10
  rintro m e1 H11 ⟨r,cs,hm,hrp,hcl,kn,l1,l2,l4,l5,l6⟩
  refine Q3 ?_
  refine Qa ?_
  simp only[go_sem,l1,l2,l4,l5,l6]
  refine Qh (Qd rfl ?_ ?_)
  ·intro hc
   have hlt:(r:Int)<q.params:=by simpa using hc
   have hrR:r<R:=by omega
   have hrc:r<cs.length:=by omega
   have hcu:=kn.l 0 rfl
   have hct:(Qf cs).take R=Qf cs:=List.take_of_length_le (by rw[Qe];omega)
   refine Qi ?_
   try simp only[go_sem]
   refine Qh (Qc ?_)
   refine Qq ?_
   simp only[go_sem,hcu,hct,Qe,hcl,hrR,Qs _ _ hrc,Qcc,Nat.zero_add,Nat.le_refl]
   intro H12 h12
   have kn:=kn.stL 0 rfl h12
   refine Qq ?_
   simp only[go_sem]
   refine⟨Qo (by omega) (by omega),?_⟩
   show ∃m,_
   exact⟨q.params.toNat-(r+1),by omega,r+1,_,rfl,by omega,by rw[List.length_set];exact hcl,kn,rfl,rfl,rfl,rfl,by simp[lk]⟩
  ·intro hc
   refine Qu ?_
   simp only[go_sem,X.next]
   have hC:NC d2 os zb R n ids:=⟨hd2,hn,hR,hol,fun x h h'=>by
    have h1:(os.map OBlk.d)[x]? = some os[x].d:=by simp[h]
    rw[hos,List.getElem?_eq_getElem h']at h1
    exact (Option.some.inj h1).symm,hobs,how,htree⟩
   have kn:Kn H H11 [] ((([(x4,wO d2 ids zb n q.params),(cy,.vec 1 (Qf cs))])++LGo os zb)++[(x2,.st [.int .i64 0,.int .i64 0,.sl true 5 []]),(x3,.st [.int .i64 d2.params,.int .i64 d2.regs,.sl false 5 (Qn d2.blocks)])]):=kn.perm (Qr fun f hf h0 hc hp=>by
    have e2:∀(a b:Nat×Obj),f [a,b]=f [a]+f [b]:=fun a b=>hc a [b]
    simp only[hf,e2];omega)
   have hw0:wgt os=wgt os:=rfl
   have hwb:∀x,wgt os x≤2400:=fun x=>by
    rw[wgt]
    cases hx:os[x]? with
    |none=>simp
    |some o'=>
     obtain⟨hxl,hxo⟩:=List.getElem?_eq_some_iff.1 hx
     have hxn:x<n:=by omega
     obtain⟨_,_,_,_,_,a1,a2⟩:=hC.get hxn
     rw[hxo]at a1 a2
     show o'.phis.length+o'.ins.length≤2400
     omega
   have hpb:=Qa7r (N:=n) hwb (fun _=>True)
   have hst:NSt d2 os zb n R x4 cy ids H11 q.params cs (XU os zb fun _=>True) H11:=⟨Qa8x (LGo.vec hobs how) kn.mid,hcl⟩
   refine Qa ?_
   simp only[go_sem,l1,l2,l4,l5,l6]
   refine Qba0 hC (2 ^ 40) (Int.le_refl _) (n+1) 0 (fun _=>True) q.params cs cy H11 _ (by omega) (by omega) (fun _ _=>trivial) hst (by omega) (by
    have:n * 2400≤160 * 2400:=Nat.mul_le_mul_right _ (by omega)
    omega) fun nx' cs' H12 s2 hn0 hpot=>?_
   obtain⟨t2,hcl2⟩:=s2
   have hwx:=Ty.e t2 0 rfl
   have ht2:=t2
   obtain⟨E1,g1,g2,k3⟩:=t2
   have kn:=kn.comp k3 (by simp[g1])
   have kn:Kn H H12 [] ([(x4,wO d2 ids zb n nx'),(x2,.st [.int .i64 0,.int .i64 0,.sl true 5 []])]++([(x3,.st [.int .i64 d2.params,.int .i64 d2.regs,.sl false 5 (Qn d2.blocks)])]++([(cy,.vec 1 (Qf cs'))]++E1))):=kn.perm (Qr fun f hf h0 hc hp=>by
    have e2:∀(a b:Nat×Obj),f [a,b]=f [a]+f [b]:=fun a b=>hc a [b]
    simp only[hf,h0,e2];omega)
   rw[wO]at hwx
   try simp only[go_sem,l2,l4]
   refine Qa ?_
   simp only[go_sem,l2,l4,hwx]
   intro H13 h13
   have kn:=kn.stL 0 rfl h13
   have hx4:=kn.l 0 rfl
   have hx2:=kn.l 1 rfl
   refine Qa ?_
   simp only[go_sem,hx4,hx2]
   intro H14 h14
   have kn:=kn.stL 1 rfl h14
   have hx2:=kn.l 1 rfl
   refine Qj ?_
   simp only[go_sem,Q5,Qaf,Q2w,List.mem_singleton,forall_eq,RS.op,hx2]
   have hE:∀p∈E1,H14 p.1=p.2∧un H p.1=true:=fun p hp=>by
    have hm:p∈([(x4,Obj.st [.int .i64 d2.params,.int .i64 d2.regs,.sl false 5 (Qn d2.blocks),.int .i64 d2.params,.int .i64 nx',.vsl zb 5 0 n,.sl false 1 (Qf ids),.int .i64 nx']),(x2,.st [.int .i64 d2.params,.int .i64 nx',.vsl zb 5 0 n])]++([(x3,.st [.int .i64 d2.params,.int .i64 d2.regs,.sl false 5 (Qn d2.blocks)])]++([(cy,.vec 1 (Qf cs'))]++E1)):List (Nat×Obj)):=by
     simp[hp]
    exact⟨(kn.get p (List.mem_append_right _ hm)).1,Qdt (kn.loc p hm)⟩
   have hty:TT d2 os zb n x4 cy ids H11 nx' cs' (XU os zb fun x=>True∧¬Sub ids 0 x) H12:=ht2
   have hH:∀p∈LGo os zb,H14 p.1=H12 p.1:=fun p hp=>by
    have h1:p.1∈E1.map Prod.fst:=by rw[g1];exact Qai hp
    obtain⟨p',hp',he⟩:=List.mem_map.1 h1
    rw[←he,(hE p' hp').1,(k3.get p' (List.mem_append_left _ (List.mem_append_right _ hp'))).1]
   have hS:∀p∈LGo os zb,un H p.1=true:=fun p hp=>by
    have h1:p.1∈E1.map Prod.fst:=by rw[g1];exact Qai hp
    obtain⟨p',hp',he⟩:=List.mem_map.1 h1
    rw[←he];exact (hE p' hp').2
   have hty2:∀p∈LGo os zb,SimO (XU os zb (fun x=>True∧¬Sub ids 0 x) p.1) p.2 (H14 p.1):=fun p hp=>by
    rw[hH p hp];exact Ty.get hty hp
   obtain⟨bs,b1,b2,b3⟩:=Qa5v (S:=un H) hC hty2 hS
   exact⟨_,FrzL.ag (.cons (Qg rfl) (.cons (Qg rfl) (.cons b1 .nil))),hK ⟨d2.params,nx',bs⟩ _ (fun y hy=>by have:=b3 y hy;exact⟨by omega,by omega⟩) kn.fin⟩
end Go.AE.Y

namespace Go.AE.Y
attribute [local go_sem] cond_true cond_false Bool.not_true Bool.not_false
attribute [local instance] Classical.propDecidable
open Go.Proofs.Tryz
variable {H H0:Heap} {K:V→Heap→Prop} {E B Lg:List (Nat×Obj)} {q:CodeD}
theorem Qa50 {S:Nat→Bool} (q:CodeD):FrzV H S (.ag q.cells) (.ag q.cells):=FrzL.ag (.cons (.same _ rfl) (.cons (.same _ rfl) (.cons (.same _ rfl) .nil)))
structure CodeD.sgl (q:CodeD):Prop where
 ok:q.ok
 p0:0≤q.params
 pr:q.params≤q.regs
 h9:∀y∈q.blocks,y.ins.length≤900∧y.phis.length≤900
theorem Qa8y {cs:List CodeD} (h:Qi7 cs=true) {c:CodeD} (hc:c∈cs):c.sgl:=by
 obtain⟨k,hk,rfl⟩:=List.mem_iff_getElem.1 hc
 have ho:=Qa5s h hk
 obtain⟨_,h2,h3⟩:=of_decide_eq_true h
 obtain⟨g1,g2⟩:=h2 k hk
 simp only[Qpq,Bool.and_eq_true,decide_eq_true_eq]at g1
 refine⟨ho,by omega,by omega,fun y hy=>?_⟩
 have a1:=Q05 (f:=cntQ) (List.getElem_mem hk)
 have a2:=Q05 (f:=Qy9) hy
 simp only[cntQ,Qy9]at *
 omega
set_option maxHeartbeats 2000000 in
theorem Qa1z (hq:q.sgl) (hK:∀(d:CodeD) H',d.fits→Upd H H' []→K (.ag d.cells) H') :
  Qw prog Qtv [.ag [.int .i64 q.params,.int .i64 q.regs,.sl false 5 (Qn q.blocks)],.c (.str [115,105,110,103,108,101])] H K:=by
 refine Q0 ?_
 refine Qb Qat Qa2o ?_
 refine Qa ?_
 simp only[go_sem]
 intro x4 hx4 H1 h1
 have kn:=(Kn.start0 H).al hx4 h1
 refine Q3 ?_
 refine Qa ?_
 simp only[go_sem]
 refine Qh (Qc ?_)
 refine Qa ?_
 simp only[go_sem]
 refine Qd rfl (fun hc=>absurd hc (by decide)) (fun _=>?_)
 refine Qa ?_
 simp only[go_sem]
 refine Qd rfl (fun hc=>absurd hc (by decide)) (fun _=>?_)
 refine Qa ?_
 simp only[go_sem]
 refine Qd rfl (fun hc=>absurd hc (by decide)) (fun _=>?_)
 refine Qa ?_
 simp only[go_sem]
 refine Qd rfl (fun hc=>absurd hc (by decide)) (fun _=>?_)
 refine Qa ?_
 simp only[go_sem]
 refine Qd rfl (fun _=>?_) (fun hc=>absurd hc (by decide))
 refine Qa ?_
 simp only[go_sem]
 refine Qaph hq.ok hq.p0 hq.pr hq.h9 fun d H2 hd hu=>?_
 have kn:=kn.call0 hu
 have hx4:=kn.l 0 rfl
 simp only[go_sem,Qws,CodeD.cells,hx4]
 intro H3 h3
 have kn:=kn.stL 0 rfl h3
 have hx4:=kn.l 0 rfl
 refine Qj ?_
 simp only[go_sem,X.next,Q5,Qaf,Qah9,List.mem_singleton,forall_eq,RS.op,hx4]
 exact⟨_,Qa50 d,hK d _ hd kn.fin⟩
set_option maxHeartbeats 4000000 in
theorem Qa1x {cs:List CodeD} {fl:Bool} (hfit:∀c∈cs,c.fits) (hK:∀(ds:List CodeD) (b:Bool) H',(b=true→UnitOk ds)→Upd H H' []→K (.tup [.ag [.sl false 3 (Qp ds)],.c (.bool b)]) H') :
  Qw prog Qtt [.ag [.sl fl 3 (Qp cs)],.c (.str [115,105,110,103,108,101])] H K:=by
 refine Q0 ?_
 refine Qb Qat Qa2l ?_
 refine Qa ?_
 simp only[go_sem]
 intro x4 hx4 H1 h1
 have kn:=(Kn.start0 H).al hx4 h1
 simp only[go_sem,Qwf]
 refine Q3 ?_
 refine Qa ?_
 simp only[go_sem]
 refine Qf0 hfit fun H2 hu=>?_
 have kn:=kn.call0 hu
 simp only[go_sem,Qwg]
 refine Qh (Qd rfl ?_ ?_)
 ·intro _
  have hx4:=kn.l 0 rfl
  refine Qa ?_
  simp only[go_sem,hx4]
  intro H3 h3
  have kn:=kn.stL 0 rfl h3
  have hx4:=kn.l 0 rfl
  simp only[go_sem,Qwh]
  refine Qj ?_
  simp only[go_sem,X.next,Q5,Qaf,Qrl,List.forall_mem_cons,List.not_mem_nil,RS.op,hx4]
  refine⟨fun _=>trivial,_,Qac7 (FrzL.ag (.cons (FrzR.nil.sl) .nil)) (.c _ _ (Qg rfl)),hK [] false _ (fun h=>by simp at h) kn.fin⟩
 ·intro hc
  have hG:Qi7 cs=true:=Qea hc
  refine Qi ?_
  try simp only[go_sem]
  refine Qa ?_
  simp only[go_sem]
  intro x6 hx6 H3 h3
  have kn:=kn.al hx6 h3
  have hx6:=kn.l 1 rfl
  simp only[go_sem,Qwi,hx6]
  intro H4 h4
  have kn:Kn H H4 [] [(x4,.st [.sl true 3 []]),(x6,.st [.sl true 3 []])]:=kn.stL 1 rfl h4
  refine Q3 ?_
  refine Qa ?_
  simp only[go_sem]
  have hcl:=(Qagw hfit hG).1
  refine Qh (Qc (Qv (fun m e1 H1=>∃(ds:List CodeD) (t:C) (Lg:List (Nat×Obj)),m=cs.length-ds.length∧ds.length≤cs.length∧(∀d∈ds,d.fits)∧Gr Lg 3 (Qp ds) t∧Kn H H1 [] ([(x4,.st [.sl true 3 []]),(x6,.st [t])]++Lg)∧
   lk 1 e1=.c (.str [115,105,110,103,108,101])∧lk 2 e1=.c (.pp [.sl fl 3 (Qp cs)])∧lk 4 e1=.c (.ptr x4 0)∧lk 6 e1=.c (.ptr x6 0)∧lk 7 e1=.c (.int .i64 ds.length)) cs.length ?_ ?_))
  ·exact⟨[],_,[],by simp,by simp,by simp,.nil 3,by simpa using kn,rfl,rfl,rfl,rfl,rfl⟩
  ·clear kn hx6
   rintro m e1 H5 ⟨ds,t,Lg,hm,hdl,hds,hgr,kn,l1,l2,l4,l6,l7⟩
   have htw:=hgr.isOw
   refine Q3 ?_
   refine Qa ?_
   simp only[go_sem,l1,l2,l4,l6,l7,Q4]
   try intro _
   refine Qh (Qd rfl ?_ ?_)
   ·intro hc2
    have hlt:ds.length<cs.length:=by simpa using hc2
    have hx6:=kn.l 1 rfl
    obtain⟨q,hq⟩:∃q,cs[ds.length]=q:=⟨_,rfl⟩
    have hqs:q.sgl:=Qa8y hG (by rw[←hq];exact List.getElem_mem hlt)
    refine Qi ?_
    try simp only[go_sem]
    refine Qh (Qc ?_)
    refine Qa9 ?_
    simp only[go_sem,l1,l2,l4,l6,l7,hx6,htw,hlt,Q4,Qas _ _ hlt,CodeD.cells,hq]
    refine Qa1z hqs fun d H6 hd hu=>?_
    have kn:=kn.call0 hu
    have hx6:=kn.l 1 rfl
    simp only[go_sem,Qwk,CodeD.cells,hx6,htw]
    refine kn.growR (new:=Qp [d]) hgr (.mk' _ _ _ _) (Qbv _) (by simp only[Q4,LIM,List.length_cons,List.length_nil];omega) fun t2 Lg2 H7 hgr2 ht2 kn=>?_
    have hx6:=kn.l 1 rfl
    simp only[go_sem,Qwj,hx6,ht2]
    intro H8 h8
    have kn:=kn.stL 1 rfl h8
    refine Qq ?_
    simp only[go_sem,l1,l2,l4,l6,l7]
    refine⟨Qo (by omega) (by omega),?_⟩
    show ∃m,_
    refine⟨cs.length-(ds.length+1),by omega,ds++[d],t2,Lg2,by simp,by simp only[List.length_append,List.length_cons,List.length_nil];omega,fun w hw=>?_,?_,kn,rfl,rfl,rfl,rfl,by simp[lk]⟩
    ·rcases List.mem_append.1 hw with hw|hw
     ·exact hds w hw
     ·simp only[List.mem_singleton]at hw;rw[hw];exact hd
    ·have:Qp (ds++[d])=Qp ds++Qp [d]:=by simp[Qp]
     rw[this];exact hgr2
   ·intro _
    refine Qu ?_
    simp only[go_sem,X.next]
    have hx6:=kn.l 1 rfl
    obtain⟨S,hSL,hSB,hfz,kn⟩:=kn.freeze0
    have hx6b:=hSB (x6,.st [t]) (by simp)
    have hft:FrzC H5 S t (.sl false 3 (Qp ds)):=Gr.frzM hgr hSL (FrzR.same (Qbv _))
    have kn:=kn.setL (o':=.st [.sl false 3 (Qp ds)]) 1 rfl (by simp)
    refine c_gh (Qe4 S (Qao9 ?_) (hfz.set (o:=.st [.sl false 3 (Qp ds)]) hx6b.2 (by rw[hx6b.1];exact FrzKL.st (.cons htw hft .nil)))) (e':=[(4,.c (.ptr x4 0)),(6,.c (.ptr x6 0))]) ?_
    ·simp only[List.forall_mem_cons]
     exact⟨.c _ _ (.same _ rfl),.c _ _ (.same _ rfl),by simp⟩
    generalize (H5.frz S).set x6 (Obj.st [C.sl false 3 (Qp ds)])=H6 at *
    have hx6:=kn.l 1 rfl
    have hx4:=kn.l 0 rfl
    clear hfz hx6b hft hSL hSB
    refine Q3 ?_
    refine Qa ?_
    simp only[go_sem,hx6]
    refine Qf0 hds fun H7 hu=>?_
    have kn:=kn.call0 hu
    have hx6:=kn.l 1 rfl
    have hx4:=kn.l 0 rfl
    simp only[go_sem,Qr6]
    refine Qh (Qd rfl ?_ ?_)
    ·intro _
     refine Qa ?_
     simp only[go_sem,hx4]
     intro H8 h8
     have kn:=kn.stL 0 rfl h8
     have hx4:=kn.l 0 rfl
     simp only[go_sem,Qr7]
     refine Qj ?_
     simp only[go_sem,X.next,Q5,Qaf,Qrl,List.forall_mem_cons,List.not_mem_nil,RS.op,hx4]
     refine⟨fun _=>trivial,_,Qac7 (FrzL.ag (.cons (FrzR.nil.sl) .nil)) (.c _ _ (Qg rfl)),hK [] false _ (fun h=>by simp at h) kn.fin⟩
    ·intro hc3
     have hG2:Qi7 ds=true:=Qea hc3
     refine Qi ?_
     try simp only[go_sem]
     refine Qa ?_
     simp only[go_sem,hx6,hx4]
     intro H8 h8
     have kn:=kn.stL 0 rfl h8
     have hx4:=kn.l 0 rfl
     simp only[go_sem,Qr8]
     refine Qj ?_
     simp only[go_sem,X.next,Q5,Qaf,Qrl,List.forall_mem_cons,List.not_mem_nil,RS.op,hx4]
     obtain⟨u1,u2,u3⟩:=Qagw hds hG2
     refine⟨fun _=>trivial,_,Qac7 (Qgq ds) (.c _ _ (Qg rfl)),hK ds true _ (fun _=>⟨u2,u1,u3⟩) kn.fin⟩
theorem Qag0 {cs:List CodeD} {fl:Bool} (hfit:∀c∈cs,c.fits) (hK:∀(ds:List CodeD) (b:Bool) H',(b=true→UnitOk ds)→Upd H H' []→K (.tup [.ag [.sl false 3 (Qp ds)],.c (.bool b)]) H') :
  Qw prog Qd9 [.ag [.sl fl 3 (Qp cs)]] H K:=by
 refine Q0 ?_
 refine Qb Qat Q2e ?_
 refine Qa ?_
 simp only[go_sem]
 intro x2 hx2 H1 h1
 have kn:=(Kn.start0 H).al hx2 h1
 simp only[go_sem,Qgm]
 refine Qa ?_
 simp only[go_sem]
 refine Qa1x hfit fun ds b H2 hb hu=>?_
 have kn:=kn.call0 hu
 have hx2:=kn.l 0 rfl
 simp only[go_sem,Qgo,List.getD_cons_zero,List.getD_cons_succ,hx2]
 intro H3 h3
 have kn:=kn.stL 0 rfl h3
 have hx2:=kn.l 0 rfl
 simp only[go_sem,Qgn]
 refine Qj ?_
 simp only[go_sem,Q5,Qaf,Qk6,List.forall_mem_cons,List.not_mem_nil,RS.op,hx2]
 exact⟨fun _=>trivial,_,Qac7 (Qgq ds) (.c _ _ (Qg rfl)),hK ds b _ hb kn.fin⟩
def oneU:List CodeD:=[⟨0,1,[⟨[],[⟨1,0,[],0⟩],3,0,[]⟩]⟩]
theorem Qba2:UnitOk oneU:=by
 refine⟨by simp[oneU],by simp[oneU],fun c hc=>?_⟩
 simp only[oneU,List.mem_singleton]at hc
 subst hc
 refine⟨by simp,by simp,fun y hy=>?_,fun y hy=>?_⟩
 ·simp only[List.mem_singleton]at hy;subst hy;simp
 ·simp only[List.mem_singleton]at hy;subst hy;simp
theorem Qa7p {S:Nat→Bool}:FrzC H S (.sl true 3 [[.int .i64 0,.int .i64 1,.sl true 5 [[.sl true 2 [],.sl true 4 [[.int .i64 1,.int .i64 0,.sl true 1 [],.int .i64 0]],.int .i64 3,.int .i64 0,.sl true 1 []]]]]) (.sl false 3 (Qp oneU)):=
 FrzR.sl (.cons (.cons (Qg rfl) (.cons (Qg rfl) (.cons (FrzR.sl (.cons (.cons FrzR.nil.sl (.cons (FrzR.sl (.cons (.cons (Qg rfl) (.cons (Qg rfl) (.cons FrzR.nil.sl (.cons (Qg rfl) .nil)))) .nil)) (.cons (Qg rfl) (.cons (Qg rfl) (.cons FrzR.nil.sl .nil))))) .nil)) .nil))) .nil)
theorem Qa13 {R:Rdr} {k:Nat} (hH:H R.l=R.o k) (hk:k+7100000≤2^30)
  (hK:∀(cs:List CodeD) (H':Heap) (k':Nat),k<k'→k'≤k+7050000→Upd H H' [(R.l,R.o k')]→UnitOk cs→K (.ag [.sl false 3 (Qp cs)]) H') :
  Qw prog Qtz [.c (.ptr R.l 0)] H K:=by
 refine Q0 ?_
 refine Qb Qat Qa2v ?_
 refine Qa ?_
 simp only[go_sem]
 intro x2 hx2 H1 h1
 have kn:=(Kn.start1 hH (R.o_ne k)).al hx2 h1
 refine Qa ?_
 simp only[go_sem]
 refine Qahj (kn.e 0 rfl) (by omega) fun cs H3 k2 hk3 hk4 hu hok=>?_
 have kn:=kn.callE 0 rfl hu (R.o_ne _)
 simp only[go_sem,Qxi]
 refine Qag0 hok.fits fun ds b H4 hb hu=>?_
 have kn:=kn.call0 hu
 simp only[go_sem,Qxh,List.getD_cons_zero,List.getD_cons_succ]
 intro x3 hx3 H5 h5
 have kn:=kn.al hx3 h5
 have hx3:=kn.l 1 rfl
 simp only[go_sem,Qxg,hx3]
 intro H6 h6
 have kn:=kn.stL 1 rfl h6
 have hx2:=kn.l 0 rfl
 have hx3:=kn.l 1 rfl
 simp only[go_sem,Qxf]
 refine Q3 ?_
 refine Qa ?_
 simp only[go_sem]
 refine Qh (Qd rfl ?_ ?_)
 ·intro _
  refine Qa ?_
  simp only[go_sem,hx2]
  intro H7 h7
  have kn:=kn.stL 0 rfl h7
  have hx2:=kn.l 0 rfl
  refine Qj ?_
  simp only[go_sem,X.next,Q5,Qaf,Q2v,List.mem_singleton,forall_eq,RS.op,hx2]
  exact⟨_,FrzL.ag (.cons Qa7p .nil),hK oneU _ k2 hk3 hk4 kn.fin Qba2⟩
 ·intro hc
  have hbt:b=true:=Qea hc
  refine Qi ?_
  try simp only[go_sem]
  refine Qa ?_
  simp only[go_sem,hx2,hx3]
  intro H7 h7
  have kn:=kn.stL 0 rfl h7
  have hx2:=kn.l 0 rfl
  refine Qj ?_
  simp only[go_sem,Q5,Qaf,Q2v,List.mem_singleton,forall_eq,RS.op,hx2]
  exact⟨_,Qgq ds,hK ds _ k2 hk3 hk4 kn.fin (hb hbt)⟩
theorem Qa12 {R:Rdr} {k:Nat} (hH:H R.l=R.o k) (hk:k+7300000≤2^30)
  (hK:∀(cs:List CodeD) (H':Heap) (k':Nat),k<k'→k'≤k+7150000→Upd H H' [(R.l,R.o k')]→UnitOk cs→K (.ag [.sl false 3 (Qp cs)]) H') :
  Qw prog Qty [.c (.ptr R.l 0)] H K:=by
 refine Q0 ?_
 refine Qb Qat Qa2u ?_
 refine Qa ?_
 simp only[go_sem]
 intro x2 hx2 H1 h1
 have kn:=(Kn.start1 hH (R.o_ne k)).al hx2 h1
 refine Q3 ?_
 refine Qa ?_
 simp only[go_sem]
 refine Qa5 (kn.e 0 rfl) (by omega) fun v H2 hv hu=>?_
 have kn:=kn.callE 0 rfl hu (R.o_ne _)
 simp only[go_sem,Qxc]
 refine Qh (Qd rfl ?_ ?_)
 ·intro hc
  refine Qa ?_
  simp only[go_sem]
  refine Qahi (kn.e 0 rfl) (by omega) fun cs H3 k2 hk3 hk4 hu hok=>?_
  have kn:=kn.callE 0 rfl hu (R.o_ne _)
  have hx2:=kn.l 0 rfl
  simp only[go_sem,Qxd,hx2]
  intro H4 h4
  have kn:=kn.stL 0 rfl h4
  have hx2:=kn.l 0 rfl
  refine Qj ?_
  simp only[go_sem,X.next,Q5,Qaf,Q2u,List.mem_singleton,forall_eq,RS.op,hx2]
  exact⟨_,Qgq cs,hK cs _ k2 (by omega) (by omega) kn.fin hok⟩
 ·intro hc
  refine Qi ?_
  try simp only[go_sem]
  refine Qa ?_
  simp only[go_sem]
  refine Qa13 (kn.e 0 rfl) (by omega) fun cs H3 k2 hk3 hk4 hu hok=>?_
  have kn:=kn.callE 0 rfl hu (R.o_ne _)
  have hx2:=kn.l 0 rfl
  simp only[go_sem,Qxe,hx2]
  intro H4 h4
  have kn:=kn.stL 0 rfl h4
  have hx2:=kn.l 0 rfl
  refine Qj ?_
  simp only[go_sem,Q5,Qaf,Q2u,List.mem_singleton,forall_eq,RS.op,hx2]
  exact⟨_,Qgq cs,hK cs _ k2 (by omega) (by omega) kn.fin hok⟩
theorem Qa16 {fl:Bool} {bs:List UInt8} (hK:∀(cs:List CodeD) (H':Heap),Upd H H' []→UnitOk cs→K (.ag [.sl false 3 (Qp cs)]) H') :
  Qw prog Qt2 [.c (.sl fl 1 (Qbn bs))] H K:=by
 refine Q0 ?_
 refine Qb Qat Qa2y ?_
 refine Qa ?_
 simp only[go_sem]
 intro x2 hx2 H1 h1
 have kn:=(Kn.start0 H).al hx2 h1
 refine Qa ?_
 simp only[go_sem]
 refine Qa2a fun R H2 hR h2=>?_
 have kn:=kn.al hR h2 (R.o_ne 0)
 simp only[go_sem,Qxu]
 refine Q3 ?_
 refine Qa ?_
 simp only[go_sem]
 refine Qa5 (kn.l 1 rfl) (by omega) fun v H2 hv hu=>?_
 have kn:=kn.callL 1 rfl hu (R.o_ne _)
 simp only[go_sem,Qxv]
 refine Qh (Qd rfl ?_ ?_)
 ·intro hc
  refine Qa ?_
  simp only[go_sem]
  refine Qa12 (kn.l 1 rfl) (by omega) fun cs H3 k2 hk3 hk4 hu hok=>?_
  have kn:=kn.callL 1 rfl hu (R.o_ne _)
  have hx2:=kn.l 0 rfl
  simp only[go_sem,Qxw,hx2]
  intro H4 h4
  have kn:=kn.stL 0 rfl h4
  have hx2:=kn.l 0 rfl
  refine Qj ?_
  simp only[go_sem,X.next,Q5,Qaf,Q2x,List.mem_singleton,forall_eq,RS.op,hx2]
  exact⟨_,Qgq cs,hK cs _ kn.fin hok⟩
 ·intro hc
  refine Qi ?_
  try simp only[go_sem]
  refine Qa ?_
  simp only[go_sem]
  refine Qahi (kn.l 1 rfl) (by omega) fun cs H3 k2 hk3 hk4 hu hok=>?_
  have kn:=kn.callL 1 rfl hu (R.o_ne _)
  have hx2:=kn.l 0 rfl
  simp only[go_sem,Qxx,hx2]
  intro H4 h4
  have kn:=kn.stL 0 rfl h4
  have hx2:=kn.l 0 rfl
  refine Qj ?_
  simp only[go_sem,Q5,Qaf,Q2x,List.mem_singleton,forall_eq,RS.op,hx2]
  exact⟨_,Qgq cs,hK cs _ kn.fin hok⟩
theorem Qy8 {fl:Bool} {bs:List UInt8} (hK:∀(cs:List CodeD) (H':Heap),Upd H H' []→UnitOk cs→K (.ag [.sl false 3 (Qp cs)]) H') :
  Qw prog Qci [.c (.sl fl 1 (Qbn bs))] H K:=by
 refine Q0 ?_
 refine Qb Qat Qpr ?_
 refine Qa ?_
 simp only[go_sem]
 intro x2 hx2 H1 h1
 have kn:=(Kn.start0 H).al hx2 h1
 refine Qa ?_
 simp only[go_sem]
 refine Qa16 fun cs H3 hu hok=>?_
 have kn:=kn.call0 hu
 have hx2:=kn.l 0 rfl
 simp only[go_sem,Qdb,hx2]
 intro H4 h4
 have kn:=kn.stL 0 rfl h4
 have hx2:=kn.l 0 rfl
 refine Qj ?_
 simp only[go_sem,Q5,Qaf,Qfo,List.mem_singleton,forall_eq,RS.op,hx2]
 exact⟨_,Qgq cs,hK cs _ kn.fin hok⟩
end Go.AE.Y

namespace Go.AE.Y
attribute [local go_sem] cond_true cond_false Bool.not_true Bool.not_false
attribute [local instance] Classical.propDecidable
open Go.Proofs.Tryz
variable {H H0:Heap} {K:V→Heap→Prop} {E B Lg:List (Nat×Obj)} {q:CodeD}
def caI (q:CodeD) (b j:Nat):List Plc:=((List.range j).filter fun i=>decide ((((Qb6 q b).ins[i]?).map InsD.op).getD 0=14)).map fun (i:Nat)=>((b:Int),(i:Int))
def caTo (q:CodeD) (b:Nat):List Plc:=(List.range b).flatMap fun b=>caI q b (Qb6 q b).ins.length
def caL (q:CodeD):List Plc:=caTo q q.blocks.length
noncomputable def callsI (cs:List CodeD) (k:Int):List Plc:=if hasG cs k=true then match cs[k.toNat]? with
 |some q=>caL q
 |none=>[]else []
end Go.AE.Y

namespace Go.AE.Y
attribute [local go_sem] cond_true cond_false Bool.not_true Bool.not_false
attribute [local instance] Classical.propDecidable
open Go.Proofs.Tryz
variable {H H0:Heap} {K:V→Heap→Prop} {E B Lg:List (Nat×Obj)} {q:CodeD}
def bks (q:CodeD):Nat:=q.blocks.length
noncomputable def Qdc (cs:List CodeD):Int:=if Qi7 cs=true then (Qd8 bks cs:Nat)else -1
theorem Q1c {cs:List CodeD} (h:Qi7 cs=true):cs.length≤4∧∀k (hk:k<cs.length),1≤bks cs[k]∧bks cs[k]≤160:=by
 refine⟨by have:=(of_decide_eq_true h).1;omega,fun k hk=>?_⟩
 have ho:=Qa5s h hk
 have h1:=ho.b0
 have h2:=ho.b1
 simp only[bks];omega
theorem Qaxa {α:Type} {f:α→Nat} {B:Nat}:∀{l:List α},(∀x∈l,f x≤B)→Qd8 f l≤l.length * B
 |[],_=>by simp[Qd8]
 |x::l,h=>by
  have h1:=h x List.mem_cons_self
  have h2:=Qaxa fun y hy=>h y (List.mem_cons_of_mem _ hy)
  simp only[Qd8,List.map_cons,List.sum_cons,List.length_cons,Nat.succ_mul]at *
  omega
theorem Qaxb {α:Type} {f:α→Nat}:∀{l:List α},(∀x∈l,1≤f x)→l.length≤Qd8 f l
 |[],_=>by simp[Qd8]
 |x::l,h=>by
  have h1:=h x List.mem_cons_self
  have h2:=Qaxb fun y hy=>h y (List.mem_cons_of_mem _ hy)
  simp only[Qd8,List.map_cons,List.sum_cons,List.length_cons]at *
  omega
theorem Q8c {cs:List CodeD} (h:Qi7 cs=true):cs.length≤Qd8 bks cs∧Qd8 bks cs≤640:=by
 obtain⟨h1,h2⟩:=Q1c h
 have a1:=Qaxb (f:=bks) (l:=cs) fun x hx=>by
  obtain⟨k,hk,rfl⟩:=List.mem_iff_getElem.1 hx
  exact (h2 k hk).1
 have a2:=Qaxa (f:=bks) (B:=160) (l:=cs) fun x hx=>by
  obtain⟨k,hk,rfl⟩:=List.mem_iff_getElem.1 hx
  exact (h2 k hk).2
 have:=Nat.mul_le_mul_right 160 h1
 omega
theorem Qn5 {cs:List CodeD} {fl:Bool} (hfit:∀c∈cs,c.fits) (hK:∀(H':Heap),Upd H H' []→K (.c (.int .i64 (Qdc cs))) H') :
  Qw prog Qcp [.ag [.sl fl 3 (Qp cs)]] H K:=by
 refine Q0 ?_
 refine Qb Qat Q2b ?_
 refine Qa ?_
 simp only[go_sem]
 refine Q3 ?_
 refine Qa ?_
 simp only[go_sem]
 refine Qq9 hfit fun H1 hu=>?_
 have kn:=(Kn.start0 H).call0 hu
 simp only[go_sem,Qgg]
 refine Qh (Qd rfl ?_ ?_)
 ·intro hc
  have hc:=Qre hc
  refine Qa ?_
  simp only[go_sem]
  refine Qj ?_
  simp only[go_sem,X.next,Q5,Qaf,Qfl,List.mem_singleton,forall_eq,RS.op]
  have hK:=hK _ kn.fin
  rw[Qdc,hc]at hK
  exact⟨_,.c _ _ (Qg rfl),hK⟩
 intro hc
 have hg:=Qea hc
 obtain⟨hc4,hbk⟩:=Q1c hg
 have hbs:=Q8c hg
 have hall:Qdc cs=(Qd8 bks cs:Nat):=by rw[Qdc,if_pos hg]
 rw[hall]at hK
 refine Qi ?_
 try simp only[go_sem]
 refine Qa ?_
 simp only[go_sem]
 refine Qb Qat Q2c ?_
 refine Qa ?_
 simp only[go_sem]
 refine Qa ?_
 simp only[go_sem]
 refine Q3 ?_
 refine Qa ?_
 simp only[go_sem,Q4]
 intro _
 refine Qh (Qc (Qv (fun m e1 H1=>∃(k:Nat),m=cs.length-k∧k≤cs.length∧Kn H H1 [] []∧
  lk 3 e1=.c (.int .i64 (Qd8 bks (cs.take k):Nat))∧lk 7 e1=.c (.sl fl 3 (Qp cs))∧lk 8 e1=.c (.int .i64 cs.length)∧lk 9 e1=.c (.int .i64 k)) cs.length ?_ ?_))
 ·exact⟨0,by omega,by omega,kn,rfl,rfl,rfl,rfl⟩
 ·clear kn
  rintro m e1 H2 ⟨k,hm,hk,kn,l3,l7,l8,l9⟩
  refine Qa ?_
  simp only[go_sem,l3,l7,l8,l9]
  refine Qh (Qd rfl ?_ ?_)
  ·intro hc1
   have hlt:k<cs.length:=by simpa using hc1
   have hss:=Qd7 (f:=bks) hlt
   have hle:=Q8a (f:=bks) (l:=cs) (k+1)
   obtain⟨q,hq⟩:∃q,cs[k]=q:=⟨_,rfl⟩
   rw[hq]at hss
   have hbq:bks q=q.blocks.length:=rfl
   refine Qi ?_
   try simp only[go_sem]
   refine Qh (Qc ?_)
   refine Qa ?_
   simp only[go_sem,hlt,Q4,Qas _ _ hlt,CodeD.cells,hq]
   intro x5 hx5 H3 h3
   have kn:=kn.al hx5 h3
   have hx5:=kn.l 0 rfl
   simp only[go_sem,Qgi,hx5]
   intro H4 h4
   have kn:Kn H H4 [] ([]++[(x5,.st [.int .i64 q.params,.int .i64 q.regs,.sl false 5 (Qn q.blocks)])]):=kn.stL 0 rfl h4
   have hx5:=kn.l 0 rfl
   refine Qq ?_
   simp only[go_sem,hx5,Qk]
   intro _
   refine⟨Qo (by omega) (by omega),?_⟩
   refine Qq ?_
   simp only[go_sem]
   refine⟨Qo (by omega) (by omega),?_⟩
   show ∃m,_
   refine⟨cs.length-(k+1),by omega,k+1,rfl,by omega,kn.drop,?_,rfl,rfl,rfl⟩
   rw[hss];rfl
  ·intro hc1
   have hge:cs.length≤k:=by simpa using hc1
   refine Qu ?_
   simp only[go_sem,X.next]
   refine Qa ?_
   simp only[go_sem,l3]
   refine Qj ?_
   simp only[go_sem,Q5,Qaf,Qk3,List.mem_singleton,forall_eq,RS.op]
   rw[List.take_of_length_le hge]
   simp only[go_sem,Qgh]
   refine Qj ?_
   simp only[go_sem,Q5,Qaf,Qfl,List.mem_singleton,forall_eq,RS.op]
   exact⟨_,.c _ _ (Qg rfl),hK _ kn.fin⟩
theorem Qpg {cs:List CodeD} {fl:Bool} (hfit:∀c∈cs,c.fits) (hK:∀(H':Heap),Upd H H' []→K (.c (.int .i64 (Qdc cs))) H') :
  Qw prog Qcq [.ag [.sl fl 3 (Qp cs)]] H K:=by
 refine Q0 ?_
 refine Qb Qat Q2d ?_
 refine Qa ?_
 simp only[go_sem]
 refine Q3 ?_
 refine Qa ?_
 simp only[go_sem]
 refine Qf0 hfit fun H1 hu=>?_
 have kn:=(Kn.start0 H).call0 hu
 simp only[go_sem,Qgl]
 refine Qh (Qd rfl ?_ ?_)
 ·intro hc
  have hc:=Qre hc
  refine Qa ?_
  simp only[go_sem]
  refine Qj ?_
  simp only[go_sem,X.next,Q5,Qaf,Qfn,List.mem_singleton,forall_eq,RS.op]
  have hK:=hK _ kn.fin
  rw[Qdc,hc]at hK
  exact⟨_,.c _ _ (Qg rfl),hK⟩
 intro hc
 have hg:=Qea hc
 obtain⟨hc4,hbk⟩:=Q1c hg
 have hbs:=Q8c hg
 have hall:Qdc cs=(Qd8 bks cs:Nat):=by rw[Qdc,if_pos hg]
 rw[hall]at hK
 refine Qi ?_
 try simp only[go_sem]
 refine Qa ?_
 simp only[go_sem]
 refine Q3 ?_
 refine Qa ?_
 simp only[go_sem]
 refine Qh (Qc (Qv (fun m e1 H1=>∃(k:Nat),m=cs.length-k∧k≤cs.length∧Kn H H1 [] []∧
  lk 1 e1=.c (.pp [.sl fl 3 (Qp cs)])∧lk 3 e1=.c (.int .i64 (Qd8 bks (cs.take k):Nat))∧lk 4 e1=.c (.int .i64 k)) cs.length ?_ ?_))
 ·exact⟨0,by omega,by omega,kn,rfl,rfl,rfl⟩
 ·clear kn
  rintro m e1 H2 ⟨k,hm,hk,kn,l1,l3,l4⟩
  refine Q3 ?_
  refine Qa ?_
  simp only[go_sem,l1,l3,l4,Q4]
  intro _
  refine Qh (Qd rfl ?_ ?_)
  ·intro hc1
   have hlt:k<cs.length:=by simpa using hc1
   have hss:=Qd7 (f:=bks) hlt
   have hle:=Q8a (f:=bks) (l:=cs) (k+1)
   obtain⟨q,hq⟩:∃q,cs[k]=q:=⟨_,rfl⟩
   rw[hq]at hss
   have hbq:bks q=q.blocks.length:=rfl
   refine Qi ?_
   try simp only[go_sem]
   refine Qh (Qc ?_)
   refine Qq ?_
   simp only[go_sem,hlt,Q4,Qas _ _ hlt,CodeD.cells,hq,Qk]
   intro _
   refine⟨Qo (by omega) (by omega),?_⟩
   refine Qq ?_
   simp only[go_sem]
   refine⟨Qo (by omega) (by omega),?_⟩
   show ∃m,_
   refine⟨cs.length-(k+1),by omega,k+1,rfl,by omega,kn,rfl,?_,rfl⟩
   rw[hss];rfl
  ·intro hc1
   have hge:cs.length≤k:=by simpa using hc1
   refine Qu ?_
   simp only[go_sem,X.next]
   refine Qa ?_
   simp only[go_sem,l3]
   refine Qj ?_
   simp only[go_sem,Q5,Qaf,Qfn,List.mem_singleton,forall_eq,RS.op]
   rw[List.take_of_length_le hge]
   exact⟨_,.c _ _ (Qg rfl),hK _ kn.fin⟩
theorem Qag9 (cs:List CodeD) (k:Nat):(Qp cs).take k=Qp (cs.take k):=by simp[Qp,List.map_take]
set_option maxHeartbeats 4000000 in
theorem FnBlockCount_c {bs:List UInt8} (hK:∀H',K (.c (.bool true)) H'):Qw prog Qf6 [.c (.sl false 1 (Qbn bs))] H K:=by
 refine Qb Qat Quc ?_
 have retT':∀(e:Env) (H':Heap),lk 2 e=.c (.bool true)→Q5 Qdl K .ret e H':=by
  intro e H' h2
  simp only[go_sem,Q5,Qaf,Qdl,List.mem_singleton,forall_eq,RS.op,h2]
  exact hK H'
 refine Qa ?_
 simp only[go_sem]
 refine Q3 ?_
 refine Qa ?_
 simp only[go_sem,Qar]
 intro _
 refine Qh (Qd rfl (fun hc=>?_) (fun hc=>?_))
 ·refine Qa ?_
  simp only[go_sem]
  refine Qj ?_
  exact retT' _ _ rfl
 refine Qi ?_
 try simp only[go_sem]
 refine Qa ?_
 simp only[go_sem]
 refine Qy8 fun cs H1 hu hok=>?_
 have hfit:=hok.fits
 have kn:=(Kn.start0 H).call0 hu
 simp only[go_sem,Qej]
 intro x3 hx3 H2 h2
 have kn:=kn.al hx3 h2
 have hx3:=kn.l 0 rfl
 simp only[go_sem,Qei,hx3]
 intro H3 h3
 have kn:Kn H H3 [] [(x3,.st [.sl false 3 (Qp cs)])]:=kn.stL 0 rfl h3
 have hx3:=kn.l 0 rfl
 refine Qa ?_
 simp only[go_sem,hx3]
 refine Qn5 hfit fun H4 hu=>?_
 have kn:=kn.call0 hu
 have hx3:=kn.l 0 rfl
 simp only[go_sem,Qek]
 refine Q3 ?_
 refine Qa ?_
 simp only[go_sem,hx3]
 refine Qpg hfit fun H5 hu=>?_
 have kn:=kn.call0 hu
 have hx3:=kn.l 0 rfl
 simp only[go_sem,Qel,decide_true]
 by_cases hg:Qi7 cs=true
 ·have hB:Qdc cs=(Qd8 bks cs:Nat):=by rw[Qdc,if_pos hg]
  have hbs:=Q8c hg
  obtain⟨hc4,hbk⟩:=Q1c hg
  rw[hB]
  refine Qh (Qd rfl (fun h=>?_) (fun _=>?_))
  ·have:=of_decide_eq_true h;omega
  refine Qi ?_
  try simp only[go_sem]
  refine Qa ?_
  simp only[go_sem]
  refine Q3 ?_
  refine Qa ?_
  simp only[go_sem,hx3,Q4]
  try intro _
  refine Qh (Qc (Qv (fun m e1 H1=>∃(k:Nat) (v:Int),m=cs.length-k∧k≤cs.length∧(k=cs.length→v=(Qd8 bks cs:Nat))∧Kn H H1 [] [(x3,.st [.sl false 3 (Qp cs)])]∧
   lk 3 e1=.c (.ptr x3 0)∧lk 4 e1=.c (.int .i64 (Qd8 bks cs:Nat))∧lk 5 e1=.c (.int .i64 v)∧lk 37 e1=.c (.int .i64 cs.length)∧lk 38 e1=.c (.int .i64 k)) cs.length ?_ ?_))
  ·exact⟨0,0,by omega,by omega,fun h=>by have:=hok.1;omega,kn,rfl,rfl,rfl,rfl,rfl⟩
  ·clear kn hx3
   rintro m e1 H6 ⟨k,v,hm,hk,hv,kn,l3,l4,l5,l37,l38⟩
   have hx3:=kn.l 0 rfl
   refine Qa ?_
   simp only[go_sem,l3,l4,l5,l37,l38]
   refine Qh (Qd rfl ?_ ?_)
   ·intro hc1
    have hlt:k<cs.length:=by simpa using hc1
    refine Qi ?_
    try simp only[go_sem]
    refine Qh (Qc ?_)
    refine Qa ?_
    simp only[go_sem]
    have e1:((k:Int)+1).toNat=k+1:=by omega
    refine Qq ?_
    simp only[go_sem,hx3,Q4,e1,Qag9]
    refine⟨Qo (by omega) (by omega),?_⟩
    refine⟨⟨by omega,by omega,by omega⟩,?_⟩
    refine Qn5 (fun c hc=>hfit c (List.mem_of_mem_take hc)) fun H7 hu=>?_
    have kn:=kn.call0 hu
    simp only[go_sem,Qeo]
    refine Qq ?_
    simp only[go_sem]
    refine⟨Qo (by omega) (by omega),?_⟩
    show ∃m,_
    refine⟨cs.length-(k+1),by omega,k+1,Qdc (cs.take (k+1)),rfl,by omega,fun he=>?_,kn,rfl,rfl,rfl,rfl,by simp[lk]⟩
    rw[List.take_of_length_le (by omega),hB]
   ·intro hc1
    have hke:k=cs.length:=by have:cs.length≤k:=(by simpa using hc1);omega
    have hv:=hv hke
    subst hv
    have hge:decide ((cs.length:Int)≤(Qd8 bks cs:Nat))=true:=decide_eq_true (by omega)
    refine Qu ?_
    simp only[go_sem,X.next]
    refine Qa ?_
    simp only[go_sem,l3,l4,l5,hx3,Q4,hge,decide_true]
    try intro _
    refine Qj ?_
    exact retT' _ _ rfl
 ·have hgf:Qi7 cs=false:=by simpa using hg
  have hB:Qdc cs=-1:=by rw[Qdc,if_neg hg]
  rw[hB]
  refine Qh (Qd rfl (fun _=>?_) (fun h=>?_))
  ·refine Qa ?_
   simp only[go_sem,hx3]
   refine Qpg hfit fun H6 hu=>?_
   have kn:=kn.call0 hu
   have hx3:=kn.l 0 rfl
   rw[hB]
   simp only[go_sem,Qen,hx3,decide_true]
   refine Qq9 hfit fun H7 hu=>?_
   simp only[go_sem,Qem,hgf]
   refine Qj ?_
   exact retT' _ _ rfl
  ·have:=of_decide_eq_false h;omega
end Go.AE.Y

namespace Go.AE.Y
open Go.ChangeShapes Go.WideShapes Go.ChangeAt Go.RowKit
def Qa9f (w:World) (a:Option Addr) (len cap:Nat) (zs:List Int):Prop:=
 (a=none∧len=0∧cap=0∧zs=[])∨
 ∃x,a=some x∧len≤cap∧zs.length=cap∧(∀i,i<zs.length→w.cell? (x.add i)=some (.int .u8 (zs.getD i 0)))∧∀n∈zs,(Lit.int .u8 n).wf=true
theorem Qa5f (w:World):Sat (fun _=>.none) ⟨fun b=>decide (b<w.heap.size),fun _=>none,fun _=>none⟩ w:=by
 refine⟨fun b hb=>⟨by simp;omega,rfl⟩,⟨0,fun _ _=>rfl⟩,fun b x h=>by simp at h,fun b l p h=>by simp at h,fun l=>trivial⟩
theorem Qa9s {n:Int} (h:(Lit.int .u8 n).wf=true):((UInt8.ofNat n.toNat).toNat:Int)=n:=by
 simp only[Lit.wf,Bool.and_eq_true,decide_eq_true_eq]at h
 have a1:IntKind.min .u8=0:=by decide
 have a2:IntKind.max .u8=255:=by decide
 rw[a1,a2]at h
 rw[UInt8.toNat_ofNat']
 omega
theorem calls_of_acall {P:Program} {f:Nat} (h:∀bs:List UInt8,bs.length≤1048576→Qw P f [.c (.sl false 1 (Qbn bs))] (fun _=>.none) fun v _=>v=.c (.bool true))
  {a0:Option Addr} {len0 cap0:Nat} {z0:List Int} {w:World} (hr:Qa9f w a0 len0 cap0 z0) (hl:len0≤1048576) :
  Calls P f #[.slice a0 len0 cap0] w fun e w'=>e=.returned (.bool true)∧Below w.heap.size w w':=by
 have key:∃bs:List UInt8,bs.length=len0∧RepC w ⟨fun b=>decide (b<w.heap.size),fun _=>none,fun _=>none⟩ (.sl false 1 (Qbn bs)) (.slice a0 len0 cap0):=by
  rcases hr with ⟨rfl,rfl,rfl,rfl⟩|⟨x,rfl,hlc,hz,hcell,hwf⟩
  ·exact⟨[],rfl,.slnil _ _ _⟩
  ·obtain⟨b,off,spot⟩:=x
   have hbl:((z0.take len0).map fun n=>UInt8.ofNat n.toNat).length=len0:=by simp;omega
   by_cases h0:cap0=0
   ·subst h0
    have:len0=0:=by omega
    subst this
    exact⟨[],rfl,.slnil _ _ _⟩
   have hc0:=hcell 0 (by omega)
   have hspot:spot=none:=by simpa[Addr.add]using World.cell?_spot hc0
   subst hspot
   have hadd:∀i,(⟨b,off,none⟩:Addr).add i=⟨b,off+i,none⟩:=by
    intro i
    by_cases h:i=0 <;> simp[Addr.add,h]
   have hb:b<w.heap.size:=by
    rcases Nat.lt_or_ge b w.heap.size with h|h
    ·exact h
    ·simp[World.cell?,Addr.add,Array.getElem?_eq_none h]at hc0
   refine⟨_,hbl,?_⟩
   have hget:∀(i:Nat) (row:List C),(Qbn ((z0.take len0).map fun n=>UInt8.ofNat n.toNat))[i]? = some row→i<len0∧row=[.int .u8 (z0.getD i 0)]:=by
    intro i row hi
    have hlt:i<len0:=by
     rcases Nat.lt_or_ge i len0 with h|h
     ·exact h
     ·rw[List.getElem?_eq_none (by rw[Qar];omega)]at hi;simp at hi
    have hz0:i<z0.length:=by omega
    refine⟨hlt,?_⟩
    simp only[Qbn,List.getElem?_map,List.getElem?_take,if_pos hlt,List.getElem?_eq_getElem hz0,Option.map_some,Option.some.injEq]at hi
    rw[←hi,Qa9s (hwf _ (List.getElem_mem hz0))]
    simp[List.getD_eq_getElem?_getD,hz0]
   have:=RepC.sl (w:=w) (g:=⟨fun b=>decide (b<w.heap.size),fun _=>none,fun _=>none⟩) false 1 (Qbn ((z0.take len0).map fun n=>UInt8.ofNat n.toNat)) b off cap0 (fun i _=>.int .u8 (z0.getD i 0))
    (by rw[Qar,hbl];simp only[LIM];omega) (by simp) (by rw[Qar,hbl];exact hlc) (by simpa using hb)
    (fun i row hi=>by rw[(hget i row hi).2];rfl)
    (fun i row j c hi hj=>by
     obtain⟨h1,rfl⟩:=hget i row hi
     have hj0:j=0:=by
      rcases Nat.eq_zero_or_pos j with h|h
      ·exact h
      ·rw[List.getElem?_eq_none (by simp;omega)]at hj;simp at hj
     subst hj0
     have:=hcell i (by omega)
     rw[hadd]at this
     simpa using this)
    (fun i row j c hi hj=>by
     obtain⟨h1,rfl⟩:=hget i row hi
     have hj0:j=0:=by
      rcases Nat.eq_zero_or_pos j with h|h
      ·exact h
      ·rw[List.getElem?_eq_none (by simp;omega)]at hj;simp at hj
     subst hj0
     simp at hj;subst hj
     exact .int _ _)
   rw[Qar,hbl]at this
   exact this
 obtain⟨bs,hbl,hrep⟩:=key
 have hc:=(h bs (by omega)).2 _ w [.slice a0 len0 cap0] (Qa5f w) rfl (fun j x u hj hu=>by
  cases j with
  |zero=>simp at hj hu;subst hj;subst hu;exact .c _ _ hrep
  |succ j=>simp at hj)
 refine hc.mono fun e w'=>?_
 rintro⟨v,x,H',g',rfl,rfl,hst,hv⟩
 have:v=.bool true:=by cases hv with|c _ _ h=>cases h;rfl
 subst this
 exact⟨rfl,hst.le.os,hst.le.tape,hst.le.output,hst.le.size,fun k hk=>(hst.le.per k (by simpa using hk)).2⟩
end Go.AE.Y

