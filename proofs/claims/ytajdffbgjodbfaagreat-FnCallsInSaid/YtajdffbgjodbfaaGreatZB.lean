/- Part 2 of the proof: the engine, codes, walks and plain laws, each named where it stands. -/
import Derived.Test.YtajdffbgjodbfaaGreatZA
import Derived.Test.YtajdffbgjodbfaaGreatProg
open Nat (reduceEqDiff reduceAdd reduceLeDiff reduceLT)
set_option linter.unusedVariables false
set_option linter.unusedSimpArgs false
set_option maxRecDepth 4000
namespace Go.AE
variable {P:Program} {H:Heap} {g:G} {w:World} {e:Env} {a:Act}
theorem Qe3 {d:Option Nat} {v:V} {e:Env} {t:Nat} (h:d≠some t):lk t (Qu7 d v e)=lk t e:=by
 cases d with
 |none=>rfl
 |some s=>
  simp only[Qu7,lk]
  rw[if_neg]
  intro k;subst k;exact h rfl
theorem Qadc {d:Option Nat} {v:V} {e:Env} {t:Nat} (h:d=some t):lk t (Qu7 d v e)=v:=by
 subst h;simp[Qu7,lk]
theorem Qwx {a:Act} {d:Option Nat} {u:Value} {t:Nat} (h:d≠some t):(a.put d u).tmps.getD t undef=a.tmps.getD t undef:=by
 cases d with
 |none=>rfl
 |some s=>
  have:s≠t:=fun k=>by subst k;exact h rfl
  simp only[Act.put]
  rw[Array.getD_eq_getD_getElem?,Array.getElem?_setIfInBounds_ne this,←Array.getD_eq_getD_getElem?]
theorem Qa5o {a:Act} {d:Option Nat} {u:Value} {t:Nat} (h:d=some t) (ht:t<a.tmps.size):(a.put d u).tmps.getD t undef=u:=by
 subst h
 simp only[Act.put]
 rw[Array.getD_eq_getD_getElem?,Array.getElem?_setIfInBounds_self_of_lt ht];rfl
theorem Qb3 {listed:Array Bool} {i j:Nat} (hi:i<listed.size):dn (listed.setIfInBounds i true) j↔j=i∨dn listed j:=by
 by_cases h:j=i
 ·subst h;simp[dn,hi]
 ·simp only[dn,getD_set_ne false (Ne.symm h),h,false_or]
theorem Q29 {n:Nat} {ops:Array Oper} {o:Oper} {x:Item} (h:Qg0 P n ops o x=true):∀t,x.dst=some t→t<n:=by
 intro t ht
 cases x <;> simp only[Qg0,Bool.and_eq_true]at h
 case f d gd op=>obtain⟨h1,h2⟩:=Qcp h.1.1;simp only[Item.dst]at ht;exact h2 t (h1.trans ht)
 case p d gd f xs=>obtain⟨h1,h2⟩:=Qcp h.1.1;simp only[Item.dst]at ht;exact h2 t (h1.trans ht)
 case e d gd op=>obtain⟨h1,h2⟩:=Qcp h.1.1;simp only[Item.dst]at ht;exact h2 t (h1.trans ht)
 case chk=>simp at h
theorem DInv.passE {F:Fix} (hF:FixOk F) {listed:Array Bool} {pre r:List Row} {y:Row} (hI:DInv F listed a w pre (y::r) e H g) (hy:y.2.isE=true) (hyn:¬dn listed y.1) (hyf:y.1≠F.fa)
  (hanc:∀j,F.anc y.1 j→dn listed j) {v:V} {u:Value} {w':World} {H':Heap} {g':G}
  (hrest:Qc7 F.P (r.map Prod.snd) (Qu7 y.2.dst v e) H' F.K) (hst:Stp H g w H' g' w') (hv:RepV w' g' v u) :
  DInv F (listed.setIfInBounds y.1 true) (a.put y.2.dst u) w' (pre++[y]) r (Qu7 y.2.dst v e) H' g':=by
 obtain⟨hyc,hyl⟩:=Qai7 hy
 obtain⟨o,ho⟩:=hF.row hI.split hyc
 have hlt:y.1<listed.size:=by rw[hI.lsz];exact (Array.getElem?_eq_some_iff.1 ho.op).1
 have hpre:∀z∈pre,z∈F.L:=fun z hz=>by rw[hI.split];simp[hz]
 have hbz:∀z∈pre,Q2b F z y:=fun z hz=>Qbx hI.split hz (by simp)
 refine⟨by rw[hI.split];simp,hrest,hI.stp.trans hst,by rw[(Qbn _ _ _).1];exact hI.size,by rw[(Qbn _ _ _).2];exact hI.defers,by simp[hI.lsz],?_,?_,?_,?_,?_⟩
 ·intro i hi j hj
  rw[Qb3 hlt]at hi⊢
  rcases hi with rfl|hi
  ·exact .inr (hanc j hj)
  ·exact .inr (hI.closed i hi j hj)
 ·intro z hz hzE
  rw[Qb3 hlt]
  rcases List.mem_append.1 hz with k|k
  ·exact .inr (hI.eDone z k hzE)
  ·simp at k;subst k;exact .inl rfl
 ·intro z hz hzc hzd
  have hzy:=hF.pair (Qc1 hI.split hz) hyc hzc
  rw[Qb3 hlt]at hzd
  obtain⟨k1,k2⟩:=hI.postDone z (by simp[hz]) hzc (hzd.resolve_left (Ne.symm hzy.ne))
  exact⟨k1,k2.mono hst fun d hd=>Qwx fun h=>hzy.dst d h hd⟩
 ·intro z hz hzf hzn
  obtain⟨hzc,hze⟩:=Qf8 hzf
  rw[Qb3 hlt]at hzn
  have hzn':¬dn listed z.1:=fun h=>hzn (.inr h)
  have k:z∈pre:=by
   rcases List.mem_append.1 hz with k|k
   ·exact k
   ·simp at k;subst k;rw[hyl]at hzf;simp at hzf
  have hp:=hF.pair (hbz z k) hzc hyc
  by_cases hh:z.2.hf=true
  ·right
   rcases hI.pend z k hzf hzn' with h|h
   ·have:=(Qhj h).1
    rw[hyc]at this;simp at this
   ·obtain⟨o',x,ei,u',p1,p2,p3,p4,p5,p6,p7,p8⟩:=h
    refine⟨o',x,ei,u',p1,p2,p3,p4,p5,p6.hcongr (p5 hh),?_,?_⟩
    ·intro d hd
     rw[Qe3 fun h=>hp.dst d hd h];exact p7 d hd
    ·intro t ht
     obtain⟨q1,q2⟩:=p8 t ht
     have hyt:y.2.dst≠some t:=fun h=>by
      have:=hp.war t h ht
      exact hzn' (hanc _ this)
     have hb:∀z',Qei F (listed.setIfInBounds y.1 true) (pre++[y]) z t z'↔Qei F listed pre z t z':=by
      intro z'
      constructor
      ·rintro⟨b1,b2,b3,b4,b5⟩
       rw[Qb3 hlt]at b3
       refine⟨?_,b2,fun h=>b3 (.inr h),b4,b5⟩
       rcases List.mem_append.1 b1 with b|b
       ·exact b
       ·simp at b;subst b;exact absurd b4 hyt
      ·rintro⟨b1,b2,b3,b4,b5⟩
       refine⟨by simp[b1],b2,?_,b4,b5⟩
       rw[Qb3 hlt]
       rintro (h|h)
       ·exact (hF.pair (hbz z' b1) b2 hyc).ne h
       ·exact b3 h
     simp only[hb,Qe3 hyt,Qwx hyt]
     exact⟨q1,fun h=>(q2 h).mono hst.le⟩
  ·left
   have:=ho.cover hy z k hzc (by simpa using hh)
   refine this ?_
   cases hx:(F.ms.getD y.1 0).testBit z.1 with
   |false=>rfl
   |true=>exact absurd (hanc _ hx) hzn'
 ·intro t
  by_cases ht:y.2.dst=some t
  ·right;right
   rw[Qadc ht,Qa5o ht (by rw[hI.size];exact Q29 ho.item t ht)]
   exact hv
  ·rw[Qe3 ht,Qwx ht]
   rcases hI.temps t with ⟨y',k1,k2,k3,k4⟩|⟨y',k1,k2,k3,k4,k5⟩|k
   ·refine .inl ⟨y',by simp[k1],k2,?_,k4⟩
    rw[Qb3 hlt]
    rintro (h|h)
    ·exact (hF.pair (hbz y' k1) k2 hyc).ne h
    ·exact k3 h
   ·rcases List.mem_cons.1 k1 with h|h
    ·subst h;exact absurd k3 hyf
    ·exact .inr (.inl ⟨y',h,k2,k3,(Qb3 hlt).2 (.inr k4),k5⟩)
   ·exact .inr (.inr (k.mono hst.le))
theorem DInv.passFa {F:Fix} (hF:FixOk F) {listed:Array Bool} {pre r:List Row} {y:Row} (hI:DInv F listed a w pre (y::r) e H g) (hyc:y.2.isChk=false) (hyn:dn listed y.1) :
  ∃e' H',DInv F listed a w (pre++[y]) r e' H' g:=by
 obtain⟨hyf,hea⟩:=hI.postDone y (by simp) hyc hyn
 obtain⟨d,cells,l,h1,h2,h3,h4⟩:=Qa3g hI.stp hea
 obtain⟨o,ho⟩:=hF.row hI.split hyc
 have hy:y.2.isE=true:=by rw[h1];rfl
 have hyl:=(Qai7 hy).2
 have hyd:y.2.dst=some d:=by rw[h1];rfl
 have hbz:∀z∈pre,Q2b F z y:=fun z hz=>Qbx hI.split hz (by simp)
 have hrest:=hI.rest
 simp only[List.map_cons,h1,Qc7,gdO,gdB,true_and,EOp.eff]at hrest
 have hrest':=hrest.1 trivial l h2
 refine⟨Qu7 (some d) (.c (.ptr l 0)) e,H.set l (.st cells),?_⟩
 refine⟨by rw[hI.split];simp,hrest',h3,hI.size,hI.defers,hI.lsz,hI.closed,?_,?_,?_,?_⟩
 ·intro z hz hzE
  rcases List.mem_append.1 hz with k|k
  ·exact hI.eDone z k hzE
  ·simp at k;subst k;exact hyn
 ·intro z hz hzc hzd
  obtain⟨k1,k2⟩:=hI.postDone z (by simp[hz]) hzc hzd
  exact absurd (hyf.trans k1.symm) (hF.pair (Qc1 hI.split hz) hyc hzc).ne
 ·intro z hz hzf hzn
  obtain⟨hzc,hze⟩:=Qf8 hzf
  have k:z∈pre:=by
   rcases List.mem_append.1 hz with k|k
   ·exact k
   ·simp at k;subst k;rw[hyl]at hzf;simp at hzf
  have hp:=hF.pair (hbz z k) hzc hyc
  by_cases hh:z.2.hf=true
  ·right
   rcases hI.pend z k hzf hzn with h|h
   ·have:=(Qhj h).1
    rw[hyc]at this;simp at this
   ·obtain⟨o',x,ei,u',p1,p2,p3,p4,p5,p6,p7,p8⟩:=h
    refine⟨o',x,ei,u',p1,p2,p3,p4,p5,p6.hcongr (p5 hh),?_,?_⟩
    ·intro d' hd'
     rw[Qe3 fun h=>hp.dst d' hd' (by rw[hyd];exact h)];exact p7 d' hd'
    ·intro t ht
     obtain⟨q1,q2⟩:=p8 t ht
     have hyt:some d≠some t:=fun h=>by
      have:=hp.war t (by rw[hyd];exact h) ht
      exact hzn (hI.closed _ hyn _ this)
     have hb:∀z',Qei F listed (pre++[y]) z t z'↔Qei F listed pre z t z':=by
      intro z'
      constructor
      ·rintro⟨b1,b2,b3,b4,b5⟩
       refine⟨?_,b2,b3,b4,b5⟩
       rcases List.mem_append.1 b1 with b|b
       ·exact b
       ·simp at b;subst b;rw[hyd]at b4;exact absurd b4 hyt
      ·rintro⟨b1,b2⟩
       exact⟨by simp[b1],b2⟩
     simp only[hb,Qe3 hyt]
     exact⟨q1,q2⟩
  ·left
   refine ho.cover hy z k hzc (by simpa using hh) ?_
   cases hx:(F.ms.getD y.1 0).testBit z.1 with
   |false=>rfl
   |true=>exact absurd (hI.closed _ hyn _ hx) hzn
 ·intro t
  by_cases ht:some d=some t
  ·right;right
   rw[Qadc ht]
   simp at ht;subst ht
   exact h4
  ·rw[Qe3 ht]
   rcases hI.temps t with ⟨y',k1,k2,k3,k4⟩|⟨y',k1,k2,k3,k4,k5⟩|k
   ·exact .inl ⟨y',by simp[k1],k2,k3,k4⟩
   ·rcases List.mem_cons.1 k1 with h|h
    ·subst h;rw[hyd]at k5;exact absurd k5 ht
    ·exact .inr (.inl ⟨y',h,k2,k3,k4,k5⟩)
   ·exact .inr (.inr k)
theorem DInv.doneFl {F:Fix} (hF:FixOk F) {listed:Array Bool} {pre post:List Row} {y:Row} (hI:DInv F listed a w pre post e H g) (hyp:y∈pre) (hy:y.2.isFl=true) (hyn:¬dn listed y.1)
  (hanc:∀j,F.anc y.1 j→dn listed j) {v:V} {u:Value} {w':World} {g':G} (hvd:∀d,y.2.dst=some d→lk d e=v)
  (hst:Stp H g w H g' w') (hv:RepV w' g' v u) :
  DInv F (listed.setIfInBounds y.1 true) (a.put y.2.dst u) w' pre post e H g':=by
 obtain⟨hyc,hye⟩:=Qf8 hy
 have hyL:y∈F.L:=by rw[hI.split];simp[hyp]
 obtain⟨A,B,hAB⟩:=List.append_of_mem hyL
 obtain⟨o,ho⟩:=hF.row hAB hyc
 have hlt:y.1<listed.size:=by rw[hI.lsz];exact (Array.getElem?_eq_some_iff.1 ho.op).1
 have hpre:∀z∈pre,z∈F.L:=fun z hz=>by rw[hI.split];simp[hz]
 refine⟨hI.split,hI.rest,hI.stp.trans hst,by rw[(Qbn _ _ _).1];exact hI.size,by rw[(Qbn _ _ _).2];exact hI.defers,by simp[hI.lsz],?_,?_,?_,?_,?_⟩
 ·intro i hi j hj
  rw[Qb3 hlt]at hi⊢
  rcases hi with rfl|hi
  ·exact .inr (hanc j hj)
  ·exact .inr (hI.closed i hi j hj)
 ·intro z hz hzE
  rw[Qb3 hlt]
  exact .inr (hI.eDone z hz hzE)
 ·intro z hz hzc hzd
  have hzy:=hF.pair (Qbx hI.split hyp hz) hyc hzc
  rw[Qb3 hlt]at hzd
  obtain⟨k1,k2⟩:=hI.postDone z hz hzc (hzd.resolve_left (Ne.symm hzy.ne))
  exact⟨k1,k2.mono hst fun d hd=>Qwx fun h=>hzy.dst d h hd⟩
 ·intro z hz hzf hzn
  obtain⟨hzc,hze⟩:=Qf8 hzf
  rw[Qb3 hlt]at hzn
  have hzn':¬dn listed z.1:=fun h=>hzn (.inr h)
  have hzy:z≠y:=fun h=>hzn (.inl (by rw[h]))
  rcases hI.pend z hz hzf hzn' with h|h
  ·exact .inl h
  ·right
   obtain⟨o',x,ei,u',p1,p2,p3,p4,p5,p6,p7,p8⟩:=h
   refine⟨o',x,ei,u',p1,p2,p3,p4,p5,p6,p7,?_⟩
   intro t ht
   obtain⟨q1,q2⟩:=p8 t ht
   have hb:∀z',Qei F (listed.setIfInBounds y.1 true) pre z t z'→Qei F listed pre z t z':=by
    rintro z' ⟨b1,b2,b3,b4,b5⟩
    rw[Qb3 hlt]at b3
    exact⟨b1,b2,fun h=>b3 (.inr h),b4,b5⟩
   refine⟨fun z' hz'=>q1 z' (hb z' hz'),fun hno=>?_⟩
   by_cases hyt:y.2.dst=some t
   ·have hbe:Qei F listed pre z t y:=by
     refine⟨hyp,hyc,hyn,hyt,?_⟩
     rcases Qac0 hyL (hpre z hz)with k|k|k
     ·exact absurd k.symm hzy
     ·exact (hF.pair k hyc hzc).raw t hyt ht
     ·exact absurd (hanc _ ((hF.pair k hzc hyc).war t hyt ht)) hzn'
    rw[q1 y hbe,hvd t hyt,Qa5o hyt (by rw[hI.size];exact Q29 ho.item t hyt)]
    exact hv
   ·rw[Qwx hyt]
    refine (q2 fun ⟨z',b⟩=>hno ⟨z',?_⟩).mono hst.le
    obtain⟨b1,b2,b3,b4,b5⟩:=b
    refine⟨b1,b2,?_,b4,b5⟩
    rw[Qb3 hlt]
    rintro (h|h)
    ·have:=hF.inj (hpre _ b1) hyL b2 hyc h
     subst this;exact hyt b4
    ·exact b3 h
 ·intro t
  by_cases ht:y.2.dst=some t
  ·right;right
   rw[hvd t ht,Qa5o ht (by rw[hI.size];exact Q29 ho.item t ht)]
   exact hv
  ·rw[Qwx ht]
   rcases hI.temps t with ⟨y',k1,k2,k3,k4⟩|⟨y',k1,k2,k3,k4,k5⟩|k
   ·refine .inl ⟨y',k1,k2,?_,k4⟩
    rw[Qb3 hlt]
    rintro (h|h)
    ·have:=hF.inj (hpre _ k1) hyL k2 hyc h
     subst this;exact ht k4
    ·exact k3 h
   ·exact .inr (.inl ⟨y',k1,k2,k3,(Qb3 hlt).2 (.inr k4),k5⟩)
   ·exact .inr (.inr (k.mono hst.le))
theorem DInv.doneFa {F:Fix} (hF:FixOk F) {listed:Array Bool} {pre post:List Row} {y:Row} (hI:DInv F listed a w pre post e H g) (hyp:y∈post) (hyc:y.2.isChk=false) (hyf:y.1=F.fa) (hyn:¬dn listed y.1)
  (hanc:∀j,F.anc y.1 j→dn listed j) {u:Value} {w':World} {g':G}
  (hst:Stp H g w H g' w') (hv:Early F.g0 H g' w' (a.put y.2.dst u) y.2) :
  DInv F (listed.setIfInBounds y.1 true) (a.put y.2.dst u) w' pre post e H g':=by
 have hyL:y∈F.L:=by rw[hI.split];simp[hyp]
 obtain⟨A,B,hAB⟩:=List.append_of_mem hyL
 obtain⟨o,ho⟩:=hF.row hAB hyc
 have hlt:y.1<listed.size:=by rw[hI.lsz];exact (Array.getElem?_eq_some_iff.1 ho.op).1
 have hpre:∀z∈pre,z∈F.L:=fun z hz=>by rw[hI.split];simp[hz]
 have hpost:∀z∈post,z∈F.L:=fun z hz=>by rw[hI.split];simp[hz]
 refine⟨hI.split,hI.rest,hI.stp.trans hst,by rw[(Qbn _ _ _).1];exact hI.size,by rw[(Qbn _ _ _).2];exact hI.defers,by simp[hI.lsz],?_,?_,?_,?_,?_⟩
 ·intro i hi j hj
  rw[Qb3 hlt]at hi⊢
  rcases hi with rfl|hi
  ·exact .inr (hanc j hj)
  ·exact .inr (hI.closed i hi j hj)
 ·intro z hz hzE
  rw[Qb3 hlt]
  exact .inr (hI.eDone z hz hzE)
 ·intro z hz hzc hzd
  rw[Qb3 hlt]at hzd
  rcases hzd with h|h
  ·have:=hF.inj (hpost _ hz) hyL hzc hyc h
   subst this
   exact⟨hyf,hv⟩
  ·obtain⟨k1,k2⟩:=hI.postDone z hz hzc h
   have:=hF.inj (hpost _ hz) hyL hzc hyc (k1.trans hyf.symm)
   subst this
   exact absurd h hyn
 ·intro z hz hzf hzn
  obtain⟨hzc,hze⟩:=Qf8 hzf
  rw[Qb3 hlt]at hzn
  have hzn':¬dn listed z.1:=fun h=>hzn (.inr h)
  rcases hI.pend z hz hzf hzn' with h|h
  ·exact .inl h
  ·right
   obtain⟨o',x,ei,u',p1,p2,p3,p4,p5,p6,p7,p8⟩:=h
   refine⟨o',x,ei,u',p1,p2,p3,p4,p5,p6,p7,?_⟩
   intro t ht
   obtain⟨q1,q2⟩:=p8 t ht
   have hyt:y.2.dst≠some t:=fun h=>by
    have:=(hF.pair (Qbx hI.split hz hyp) hzc hyc).war t h ht
    exact hzn' (hanc _ this)
   have hb:∀z',Qei F (listed.setIfInBounds y.1 true) pre z t z'↔Qei F listed pre z t z':=by
    intro z'
    constructor
    ·rintro⟨b1,b2,b3,b4,b5⟩
     rw[Qb3 hlt]at b3
     exact⟨b1,b2,fun h=>b3 (.inr h),b4,b5⟩
    ·rintro⟨b1,b2,b3,b4,b5⟩
     refine⟨b1,b2,?_,b4,b5⟩
     rw[Qb3 hlt]
     rintro (h|h)
     ·exact (hF.pair (Qbx hI.split b1 hyp) b2 hyc).ne h
     ·exact b3 h
   simp only[hb,Qwx hyt]
   exact⟨q1,fun h=>(q2 h).mono hst.le⟩
 ·intro t
  by_cases ht:y.2.dst=some t
  ·exact .inr (.inl ⟨y,hyp,hyc,hyf,(Qb3 hlt).2 (.inl hyf.symm),ht⟩)
  ·rw[Qwx ht]
   rcases hI.temps t with ⟨y',k1,k2,k3,k4⟩|⟨y',k1,k2,k3,k4,k5⟩|k
   ·refine .inl ⟨y',k1,k2,?_,k4⟩
    rw[Qb3 hlt]
    rintro (h|h)
    ·exact (hF.pair (Qbx hI.split k1 hyp) k2 hyc).ne h
    ·exact k3 h
   ·exact .inr (.inl ⟨y',k1,k2,k3,(Qb3 hlt).2 (.inr k4),k5⟩)
   ·exact .inr (.inr (k.mono hst.le))
end Go.AE

namespace Go.AE
variable {P:Program} {H:Heap} {g:G} {w:World} {e:Env} {a:Act}
def Qbbx (listed:Array Bool) (post:List Row):Prop:=post=[]∨∃y r,post=y::r∧y.2.isE=true∧¬dn listed y.1
theorem Qug {F:Fix} (hF:FixOk F) {listed:Array Bool}:∀(post pre:List Row) (e:Env) (H:Heap),DInv F listed a w pre post e H g→
  ∃pre' post' e' H',DInv F listed a w pre' post' e' H' g∧Qbbx listed post'
 |[],pre,e,H,hI=>⟨pre,[],e,H,hI,.inl rfl⟩
 |(i,x)::r,pre,e,H,hI=>by
  have hnE:x.isE=false→x.isChk=false→¬dn listed i:=by
   intro hx hc hd
   obtain⟨_,hea⟩:=hI.postDone (i,x) (by simp) hc hd
   obtain⟨d,cells,l,b,sz,T,cs,h1,_⟩:=hea.ok
   simp only at h1
   rw[h1]at hx;simp[Item.isE]at hx
  have hrest:=hI.rest
  cases x with
  |chk d gd op=>exact Qug hF r _ e H (hI.passChk hF)
  |f d gd op=>
   simp only[List.map_cons,Qc7]at hrest
   exact Qug hF r _ _ H (hI.passFl hF rfl _ ⟨hrest.1,hrest.2.1,rfl⟩ hrest.2.2 (hnE rfl rfl))
  |p d gd f xs=>
   simp only[List.map_cons,Qc7]at hrest
   obtain⟨r1,v,r2,r3⟩:=hrest
   exact Qug hF r _ _ H (hI.passFl hF rfl _ ⟨r1,v,r2,rfl⟩ r3 (hnE rfl rfl))
  |e d gd op=>
   by_cases hd:dn listed i
   ·obtain⟨e',H',hI'⟩:=hI.passFa hF rfl hd
    exact Qug hF r _ e' H' hI'
   ·exact⟨pre,_,e,H,hI,.inr ⟨_,r,rfl,rfl,hd⟩⟩
theorem Qaiz {α:Type} {p q:α→Bool}:∀(l:List α),(∀x∈l,q x=true→p x=true)→(∃x∈l,p x=true∧q x=false)→l.countP q<l.countP p
 |[],_,h=>by simp at h
 |x::r,h1,h2=>by
  have hle:r.countP q≤r.countP p:=List.countP_mono_left fun y hy=>h1 y (by simp[hy])
  obtain⟨y,hy,k1,k2⟩:=h2
  rcases List.mem_cons.1 hy with rfl|hy
  ·simp only[List.countP_cons,k1,k2];simp;omega
  ·have:=Qaiz r (fun y hy=>h1 y (by simp[hy])) ⟨y,hy,k1,k2⟩
   have hx:=h1 x (by simp)
   simp only[List.countP_cons]
   cases hq:q x with
   |true=>rw[hx hq];simp;omega
   |false=>simp;split <;> omega
def unl (F:Fix) (listed:Array Bool):Nat:=(List.range F.ops.size).countP fun i=>!listed.getD i false
theorem Qayc {F:Fix} (hF:FixOk F) {listed:Array Bool} (hsz:listed.size=F.ops.size) (hr:Region.ready .any F.ops listed=[]):∀(B A:List Row),F.L=A++B→
  (∀y∈A,y.2.isChk=false→dn listed y.1)→∀y∈B,y.2.isChk=false→dn listed y.1
 |[],A,h,hA,y,hy,hc=>by simp at hy
 |x::r,A,h,hA,y,hy,hc=>by
  have hx:x.2.isChk=false→dn listed x.1:=by
   intro hxc
   obtain⟨o,ho⟩:=hF.row h hxc
   have hlt:x.1<listed.size:=by rw[hsz];exact (Array.getElem?_eq_some_iff.1 ho.op).1
   by_cases hd:dn listed x.1
   ·exact hd
   ·exfalso
    have:x.1∈Region.ready .any F.ops listed:=by
     rw[mem_ready]
     refine⟨?_,o,ho.op,fun ed hed hb=>?_⟩
     ·simp only[dn]at hd
      rw[Array.getD_eq_getD_getElem?,Array.getElem?_eq_getElem hlt]at hd⊢
      simpa using hd
     ·obtain⟨z,hz,h1,h2⟩:=ho.aft ed hed hb
      rw[←h2];exact hA z hz h1
    rw[hr]at this;simp at this
  rcases List.mem_cons.1 hy with rfl|hy
  ·exact hx hc
  ·refine Qayc hF hsz hr r (A++[x]) (by rw[h];simp) ?_ y hy hc
   intro z hz hzc
   rcases List.mem_append.1 hz with k|k
   ·exact hA z k hzc
   ·simp at k;subst k;exact hx hzc
theorem Qayl {F:Fix} (hF:FixOk F) {listed:Array Bool} {pre post:List Row} (hI:DInv F listed a w pre post e H g) (hst:Qbbx listed post) (hr:Region.ready .any F.ops listed=[]) :
  Post F.n F.H0 F.g0 F.w0 F.K a w:=by
 have hall:=Qayc hF hI.lsz hr F.L [] rfl (by simp)
 rcases hst with rfl|⟨y,r,rfl,hy,hd⟩
 ·refine⟨e,H,g,hI.rest,hI.stp,fun t=>?_,hI.defers,hI.size⟩
  rcases hI.temps t with ⟨y',k1,k2,k3,k4⟩|⟨y',k1,_⟩|k
  ·exact absurd (hall y' (by rw[hI.split];simp[k1]) k2) k3
  ·simp at k1
  ·exact k
 ·exact absurd (hall y (by rw[hI.split];simp) (Qai7 hy).1) hd
theorem Qa3f {F:Fix} (hF:FixOk F) {Q:Exit→Act→World→Prop} (hQ:∀a' w',Post F.n F.H0 F.g0 F.w0 F.K a' w'→Q .normal a' w') :
  ∀(fuel:Nat) (listed:Array Bool) (a:Act) (w:World) (pre post:List Row) (e:Env) (H:Heap) (g:G),DInv F listed a w pre post e H g→Qbbx listed post→unl F listed≤fuel→
   wpAny F.P .any F.ops Q fuel listed a w:=by
 intro fuel
 induction fuel with
 |zero=>
  intro listed a w pre post e H g hI hst hu
  have hr:Region.ready .any F.ops listed=[]:=by
   rw[List.eq_nil_iff_forall_not_mem]
   intro i hi
   rw[mem_ready]at hi
   obtain⟨h1,o,h2,h3⟩:=hi
   have hlt:i<F.ops.size:=(Array.getElem?_eq_some_iff.1 h2).1
   have:0<unl F listed:=by
    unfold unl
    rw[List.countP_pos_iff]
    refine⟨i,by simp[hlt],?_⟩
    have hlt':i<listed.size:=by rw[hI.lsz];exact hlt
    rw[Array.getD_eq_getD_getElem?,Array.getElem?_eq_getElem hlt']at h1⊢
    simpa using h1
   omega
  exact⟨hr,hQ _ _ (Qayl hF hI hst hr)⟩
 |succ fuel ih=>
  intro listed a w pre post e H g hI hst hu
  refine⟨fun hr=>hQ _ _ (Qayl hF hI hst hr),?_⟩
  intro i hi
  rw[mem_ready]at hi
  obtain⟨h1,o,h2,h3⟩:=hi
  have hlt:i<F.ops.size:=(Array.getElem?_eq_some_iff.1 h2).1
  have hlt':i<listed.size:=by rw[hI.lsz];exact hlt
  have hnd:¬dn listed i:=by
   simp only[dn]
   rw[Array.getD_eq_getD_getElem?,Array.getElem?_eq_getElem hlt']at h1⊢
   simpa using h1
  have hu':unl F (listed.setIfInBounds i true)≤fuel:=by
   have:unl F (listed.setIfInBounds i true)<unl F listed:=by
    refine Qaiz _ ?_ ⟨i,by simp[hlt],?_,?_⟩
    ·intro j hj hq
     by_cases hij:i=j
     ·subst hij;simp[hlt']at hq
     ·rw[getD_set_ne false hij]at hq;exact hq
    ·simpa[dn]using hnd
    ·simp[hlt']
   omega
  obtain⟨y,hyL,hyc,hyi⟩:=hF.all i hlt
  subst hyi
  obtain⟨A,B,hAB⟩:=List.append_of_mem hyL
  obtain⟨o',ho⟩:=hF.row hAB hyc
  have hoo:o'=o:=by have:=ho.op;rw[h2]at this;simpa using this.symm
  subst hoo
  have hanc:∀j,F.anc y.1 j→dn listed j:=by
   intro j hj
   obtain⟨ed,k1,k2,k3⟩:=ho.anc j hj
   rcases k3 with k3|k3
   ·rw[←k3];exact h3 ed k1 k2
   ·exact hI.closed _ (h3 ed k1 k2) j k3
  have hgo:∀a' w' pre' post' e' H' g',DInv F (listed.setIfInBounds y.1 true) a' w' pre' post' e' H' g'→wpAny F.P .any F.ops Q fuel (listed.setIfInBounds y.1 true) a' w':=by
   intro a' w' pre' post' e' H' g' hI'
   obtain⟨p2,q2,e2,H2,hI2,hs2⟩:=Qug hF post' pre' e' H' hI'
   exact ih _ a' w' p2 q2 e2 H2 g' hI2 hs2 hu'
  have hmem:y∈pre∨y∈post:=by
   have:y∈pre++post:=hI.split▸hyL
   exact List.mem_append.1 this
  have hearly:y.1=F.fa→y∈post→wpOp F.P F.ops Q y.1 (wpAny F.P .any F.ops Q fuel (listed.setIfInBounds y.1 true)) a w:=by
   intro hfa hyp
   refine Qazt h2 ho.item (ho.isFa hfa) hI.stp.sat (fun l z hz=>hI.stp.le.io l z hz) hI.size (g0:=F.g0) fun u w' g' k1 k2=>?_
   exact hgo _ _ _ _ _ _ _ (hI.doneFa hF hyp hyc hfa hnd hanc k1 k2)
  rcases hmem with hyp|hyp
  ·
   have hfl:y.2.isFl=true:=by
    have hE:=hI.eDone y hyp
    revert hE hyc
    cases y.2 <;> simp_all[Item.isFl,Item.isChk,Item.isE]
   rcases hI.pend y hyp hfl hnd with h|h
   ·exfalso
    rcases hst with rfl|⟨z,r,rfl,hz,_⟩
    ·simp[Qaek]at h
    ·have:=(Qhj h).1
     rw[(Qai7 hz).1]at this;simp at this
   ·obtain⟨o2,x,ei,v,p1,p2,p3,p4,p5,p6,p7,p8⟩:=h
    rw[h2]at p1
    simp only[Option.some.injEq]at p1
    subst p1
    have hno:∀t,¬∃z,Qei F listed pre y t z:=by
     rintro t ⟨z,b1,b2,b3,b4,b5⟩
     exact b3 (hanc _ b5)
    refine Qbcn (n:=F.n) h2 p2 p6 hI.stp.sat ?_ fun u w' g' k1 k2=>?_
    ·intro t
     rw[Qaew]
     split
     ·rename_i ht
      rw[p4]at ht
      exact (p8 t ht).2 (hno t)
     ·exact .unk _
    ·rw[p3]
     exact hgo _ _ _ _ _ _ _ (hI.doneFl hF hyp hfl hnd hanc p7 k1 k2)
  ·by_cases hfa:y.1=F.fa
   ·exact hearly hfa hyp
   ·rcases hst with rfl|⟨z,r,rfl,hz,hzd⟩
    ·simp at hyp
    ·have hyz:y=z:=by
      rcases List.mem_cons.1 hyp with k|k
      ·exact k
      ·exfalso
       have:=(hF.pair (Qc1 hI.split k) (Qai7 hz).1 hyc).ord hz hfa
       exact hzd (hanc _ this)
     subst hyz
     have hrest:=hI.rest
     have him:=ho.item
     have hpass:=@DInv.passE
     obtain⟨yi,yx⟩:=y
     cases yx with
     |e d gd op=>
      simp only[List.map_cons,Qc7]at hrest
      obtain⟨r1,r2,r3⟩:=hrest
      refine Qbby (n:=F.n) h2 him hI.stp.sat ?_ r1 r2 r3 fun x u w' H' g' k1 k2 k3=>?_
      ·intro t
       rw[Qaew]
       split
       ·rename_i ht
        rcases hI.temps t with ⟨y',b1,b2,b3,b4⟩|⟨y',b1,b2,b3,b4,b5⟩|k
        ·exfalso
         exact b3 (hanc _ ((hF.pair (Qbx hI.split b1 (by simp)) b2 hyc).raw t b4 ht))
        ·exfalso
         rcases List.mem_cons.1 b1 with h|h
         ·subst h;exact hnd (by rw[b3];exact b4)
         ·have:=(hF.pair (Qc1 hI.split h) hyc b2).war t b5 ht
          rw[b3]at this
          exact hnd (hI.closed _ b4 _ this)
        ·exact k
       ·exact .unk _
      ·exact hgo _ _ _ _ _ _ _ (hI.passE hF hz hnd hfa hanc k1 k2 k3)
     |f=>simp[Item.isE]at hz
     |p=>simp[Item.isE]at hz
     |chk=>simp[Item.isE]at hz
theorem Qa7s (hs:Sat H g w) (k:Nat):Stp H g w H g { w with drawn:=k }:=by
 have hle:Le g w g { w with drawn:=k }:=⟨fun _ h=>⟨h,rfl⟩,fun _ _ h=>h,Nat.le_refl _,fun _ _ _ h=>h,rfl,rfl,rfl⟩
 have hk:∀l,Quf g w g { w with drawn:=k } l:=fun l b q hb=>⟨hb,rfl⟩
 exact⟨hle,fun l _ hn=>⟨hn,fun b p hb=>⟨hb,rfl⟩⟩,hs.fresh,hs.names,hs.excl,hs.named,fun l=>SatObj.keep_all hs hle hk l⟩
theorem Qazs {n id fa:Nat} {ord:List Nat} {ops:Array Oper} {its:List Item} {K:Env→Heap→Prop} {Q:Exit→Act→World→Prop} (Qat:P.follows .mixedOrders=true) (hm:Qbc6 P n ops fa ord its=true) (hs:Sat H g w) (he:EnvOk w g e a) (hn:a.tmps.size=n) (hd:a.defers=[])
  (hr:Qc7 P its e H K) (hQ:∀a' w',Post n H g w K a' w'→Q .normal a' w'):(Code.region id ops true).wp P Q a w:=by
 simp only[Qbc6,Bool.and_eq_true,beq_iff_eq,List.all_eq_true,List.mem_range,List.any_eq_true,Bool.not_eq_true']at hm
 obtain⟨⟨⟨m1,m2⟩,m3⟩,m4⟩:=hm
 let F:Fix:={ P,n,ops,ms:=Qbde ops.toList [],fa,L:=ord.zip its,H0:=H,g0:=g,w0:=w,K }
 have hF:FixOk F:=⟨m3,fun i hi=>m4 i hi⟩
 have hmap:(ord.zip its).map Prod.snd=its:=by
  rw[List.map_snd_zip];omega
 have hst:=Qa7s hs (w.drawn+1)
 have hnl:∀i,¬dn (Array.replicate ops.size false) i:=by
  intro i h
  simp only[dn,Array.getD_eq_getD_getElem?,Array.getElem?_replicate]at h
  split at h <;> simp at h
 have hI:DInv F (Array.replicate ops.size false) a { w with drawn:=w.drawn+1 } [] (ord.zip its) e H g:=by
  refine⟨rfl,by rw[hmap];exact hr,hst,hn,hd,by simp[F],fun i hi=>absurd hi (hnl i),by simp,fun y _ _ h=>absurd h (hnl _),by simp,fun t=>?_⟩
  exact .inr (.inr ((he t).mono hst.le))
 obtain⟨p2,q2,e2,H2,hI2,hs2⟩:=Qug hF _ _ _ _ hI
 refine wp_region_any Qat ?_
 refine Qa3f hF hQ ops.size _ a _ p2 q2 e2 H2 g hI2 hs2 ?_
 exact Nat.le_trans List.countP_le_length (by simp[F])
end Go.AE

namespace Go.AE
variable {P:Program} {H:Heap} {g:G} {w:World} {e:Env} {a:Act}
theorem Qa2y {c:Code} {Q:Exit→Act→World→Prop} (I:Nat→Act→World→Prop) (h₀:∃n,I n a w)
  (round:∀n a w,I n a w→c.wp P (Exit.then (fun a' w'=>∃m,m<n∧I m a' w') Q) a w):(Code.loop c).wp P Q a w:=by
 intro b k cs
 have key:∀n a w,I n a w→∃e a' w',Q e a' w'∧Arrives P (lone (b.at a (.code c::.inLoop c::k)) cs w) b k cs e a' w':=by
  intro n
  induction n using Nat.strongRecOn with
  |_ n ih=>
   intro a w hI
   obtain⟨e,a₁,w₁,hq,harr⟩:=round n a w hI b (.inLoop c::k) cs
   cases e with
   |normal=>
    obtain⟨m,hlt,hI₁⟩:=hq
    obtain⟨e₂,a₂,w₂,hq₂,harr₂⟩:=ih m hlt a₁ w₁ hI₁
    exact⟨e₂,a₂,w₂,hq₂,.of_steps (Steps.trans harr (.one step_inLoop)) harr₂⟩
   |exit id=>exact⟨_,a₁,w₁,hq,.pass (x:=.inLoop c) rfl (fun _ _=>.inl (by simp)) harr⟩
   |goto l=>exact⟨_,a₁,w₁,hq,.pass (x:=.inLoop c) rfl (fun _ _=>.inl (by simp)) harr⟩
   |ret=>exact⟨_,a₁,w₁,hq,.pass (x:=.inLoop c) rfl (fun _ _=>.inl (by simp)) harr⟩
   |panic ch=>exact⟨_,a₁,w₁,hq,.pass (x:=.inLoop c) rfl (fun _ _=>.inl (by simp)) harr⟩
   |outgrown=>exact⟨_,a₁,w₁,hq,.pass (x:=.inLoop c) rfl (fun _ _=>.inl (by simp)) harr⟩
 obtain⟨n,hn⟩:=h₀
 obtain⟨e,a',w',hq,harr⟩:=key n a w hn
 exact⟨e,a',w',hq,.of_steps (.one step_loop) harr⟩
def xm:Exit→Option X
 |.normal=>some .nrm
 |.exit id=>some (.exit id)
 |.ret=>some .ret
 |_=>none
def Qbbv (n:Nat) (H:Heap) (g:G) (w:World) (Q:X→Env→Heap→Prop) (x:Exit) (a:Act) (w':World):Prop:=
 ∃x',xm x=some x'∧Post n H g w (Q x') a w'
def mC (P:Program) (n:Nat):Code→SC→Bool
 |c,.seq .gh s=>mC P n c s
 |.skip,.skip=>true
 |.region _ ops false,.reg its _=>mIts P n ops 0 its
 |.region _ ops true,.dreg fa ord its _=>Qbc6 P n ops fa ord its
 |.seq c d,.seq s t=>mC P n c s&&mC P n d t
 |.cond x c d,.cond y s t=>mO y x&&mC P n c s&&mC P n d t
 |.block i c,.block j s=>i == j&&mC P n c s
 |.loop c,.loop s=>mC P n c s
 |.exit i,.exit j=>i == j
 |.ret,.ret=>true
 |_,_=>false
theorem Qa7x {ks:List Nat} (h:EnvOk w g e a):EnvOk w g (Q9d ks e) a:=by
 intro t
 unfold Q9d
 induction ks with
 |nil=>exact .unk _
 |cons k ks ih=>
  simp only[List.map_cons,lk]
  split
  ·rename_i ht;subst ht;exact h t
  ·exact ih
theorem Post.trans {n:Nat} {H':Heap} {g':G} {w' w'':World} {K:Env→Heap→Prop} (h:Stp H g w H' g' w') (k:Post n H' g' w' K a w''):Post n H g w K a w'':=by
 obtain⟨e2,H2,g2,k1,k2,k3,k4,k5⟩:=k
 exact⟨e2,H2,g2,k1,h.trans k2,k3,k4,k5⟩
theorem Qazq (Qat:P.follows .mixedOrders=true) {n:Nat}:∀(s:SC) (c:Code) (Q:X→Env→Heap→Prop) (e:Env) (H:Heap),mC P n c s=true→Qac P s Q e H→
  ∀(g:G) (w:World) (a:Act),Sat H g w→EnvOk w g e a→a.defers=[]→a.tmps.size=n→c.wp P (Qbbv n H g w Q) a w:=by
 intro s
 induction s with
 |skip=>
  intro c Q e H hm hc g w a hs he hd hn
  cases c <;> simp[mC]at hm
  exact wp_skip ⟨.nrm,rfl,e,H,g,hc,.refl hs,he,hd,hn⟩
 |reg its keep=>
  intro c Q e H hm hc g w a hs he hd hn
  cases c with
  |region id ops dr'=>
   cases dr' with
   |true=>simp[mC]at hm
   |false=>
    simp only[mC]at hm
    simp only[Qac]at hc
    have hQ:∀a' w',Post n H g w (fun e' H'=>Q .nrm (Q9d keep e') H') a' w'→Qbbv n H g w Q .normal a' w':=by
     rintro a' w' ⟨e2,H2,g2,k1,k2,k3,k4,k5⟩
     exact⟨.nrm,rfl,_,H2,g2,k1,k2,Qa7x k3,k4,k5⟩
    have hl:=Qayy its 0 hm
    refine wp_region ?_
    rw[List.range_eq_range',←hl,Nat.zero_add]
    exact Qw5 hQ its 0 e H g w a hm (.refl hs) he hn hd hc
  |_=>simp[mC]at hm
 |dreg fa ord its keep=>
  intro c Q e H hm hc g w a hs he hd hn
  cases c with
  |region id ops dr'=>
   cases dr' with
   |false=>simp[mC]at hm
   |true=>
    simp only[mC]at hm
    simp only[Qac]at hc
    have hQ:∀a' w',Post n H g w (fun e' H'=>Q .nrm (Q9d keep e') H') a' w'→Qbbv n H g w Q .normal a' w':=by
     rintro a' w' ⟨e2,H2,g2,k1,k2,k3,k4,k5⟩
     exact⟨.nrm,rfl,_,H2,g2,k1,k2,Qa7x k3,k4,k5⟩
    exact Qazs Qat hm hs he hn hd hc hQ
  |_=>simp[mC]at hm
 |seq s t ihs iht=>
  intro c Q e H hm hc g w a hs he hd hn
  by_cases hg:s=.gh
  ·subst hg
   have hm':mC P n c t=true:=by simpa[mC]using hm
   simp only[Qac]at hc
   obtain⟨e1,H1,h1,h2⟩:=hc
   obtain⟨g1,k1,k2⟩:=h1 g w (fun t=>a.tmps.getD t undef) hs he
   refine wp_mono (iht c Q e1 H1 hm' h2 g1 w a k1.sat k2 hd hn) ?_
   rintro x a' w' ⟨x',q1,q2⟩
   exact⟨x',q1,q2.trans k1⟩
  ·cases c with
   |seq c d=>
    have hm':mC P n c s=true∧mC P n d t=true:=by
     cases s <;> first|(exact absurd rfl hg)|simpa[mC]using hm
    simp only[Qac]at hc
    refine wp_seq (wp_mono (ihs c _ e H hm'.1 hc g w a hs he hd hn) ?_)
    rintro x a' w' ⟨x',q1,e2,H2,g2,k1,k2,k3,k4,k5⟩
    cases x with
    |normal=>
     simp only[xm,Option.some.injEq]at q1
     subst q1
     refine wp_mono (iht d Q e2 H2 hm'.2 k1 g2 w' a' k2.sat k3 k4 k5) ?_
     rintro x2 a2 w2 ⟨x2',r1,r2⟩
     exact⟨x2',r1,r2.trans k2⟩
    |exit id=>
     simp only[xm,Option.some.injEq]at q1
     subst q1
     exact⟨_,rfl,e2,H2,g2,k1,k2,k3,k4,k5⟩
    |ret=>
     simp only[xm,Option.some.injEq]at q1
     subst q1
     exact⟨_,rfl,e2,H2,g2,k1,k2,k3,k4,k5⟩
    |_=>simp[xm]at q1
   |_=>cases s <;> first|(exact absurd rfl hg)|simp[mC]at hm
 |cond y s t ihs iht=>
  intro c Q e H hm hc g w a hs he hd hn
  cases c <;> simp[mC]at hm
  rename_i x c d
  obtain⟨⟨h1,h2⟩,h3⟩:=hm
  simp only[Qac]at hc
  obtain⟨b,k1,k2,k3⟩:=hc
  have hr:=Qbbn he h1
  rw[k1]at hr
  have hb:=hr.c_inv.bool_inv
  exact wp_cond_split hb (fun hbt=>ihs c Q e H h2 (k2 hbt) g w a hs he hd hn) (fun hbt=>iht d Q e H h3 (k3 hbt) g w a hs he hd hn)
 |block id s ih=>
  intro c Q e H hm hc g w a hs he hd hn
  cases c <;> simp[mC]at hm
  rename_i id' c
  obtain⟨rfl,h2⟩:=hm
  simp only[Qac]at hc
  refine wp_block (wp_mono (ih c _ e H h2 hc g w a hs he hd hn) ?_)
  rintro x a' w' ⟨x',q1,e2,H2,g2,k1,k2⟩
  cases x with
  |normal=>
   simp only[xm,Option.some.injEq]at q1
   subst q1
   exact⟨.nrm,rfl,e2,H2,g2,k1,k2⟩
  |exit id2=>
   simp only[xm,Option.some.injEq]at q1
   subst q1
   simp only[X.inBlock]at k1
   simp only[Exit.inBlock]
   split
   ·rename_i h;subst h;rw[if_pos rfl]at k1;exact⟨.nrm,rfl,e2,H2,g2,k1,k2⟩
   ·rename_i h;rw[if_neg h]at k1;exact⟨.exit id2,rfl,e2,H2,g2,k1,k2⟩
  |ret=>
   simp only[xm,Option.some.injEq]at q1
   subst q1
   exact⟨.ret,rfl,e2,H2,g2,k1,k2⟩
  |_=>simp[xm]at q1
 |loop s ih=>
  intro c Q e H hm hc g w a hs he hd hn
  cases c <;> simp[mC]at hm
  rename_i c
  simp only[Qac]at hc
  obtain⟨I,⟨m0,h0⟩,hround⟩:=hc
  refine Qa2y (fun m a' w'=>Post n H g w (I m) a' w') ⟨m0,e,H,g,h0,.refl hs,he,hd,hn⟩ ?_
  rintro m a1 w1 ⟨e1,H1,g1,k1,k2,k3,k4,k5⟩
  refine wp_mono (ih c _ e1 H1 hm (hround m e1 H1 k1) g1 w1 a1 k2.sat k3 k4 k5) ?_
  rintro x a' w' ⟨x',q1,e2,H2,g2,r1,r2,r3,r4,r5⟩
  cases x with
  |normal=>
   simp only[xm,Option.some.injEq]at q1
   subst q1
   obtain⟨m',hlt,hI⟩:=r1
   exact⟨m',hlt,e2,H2,g2,hI,k2.trans r2,r3,r4,r5⟩
  |exit id=>
   simp only[xm,Option.some.injEq]at q1
   subst q1
   exact⟨_,rfl,e2,H2,g2,r1,k2.trans r2,r3,r4,r5⟩
  |ret=>
   simp only[xm,Option.some.injEq]at q1
   subst q1
   exact⟨_,rfl,e2,H2,g2,r1,k2.trans r2,r3,r4,r5⟩
  |_=>simp[xm]at q1
 |exit id=>
  intro c Q e H hm hc g w a hs he hd hn
  cases c <;> simp[mC]at hm
  subst hm
  exact wp_exit ⟨.exit _,rfl,e,H,g,hc,.refl hs,he,hd,hn⟩
 |ret=>
  intro c Q e H hm hc g w a hs he hd hn
  cases c <;> simp[mC]at hm
  exact wp_ret ⟨.ret,rfl,e,H,g,hc,.refl hs,he,hd,hn⟩
 |gh=>
  intro c Q e H hm hc g w a hs he hd hn
  cases c <;> simp[mC]at hm
def mR (P:Program):ResultVar→RS→Bool
 |.tmp t,.tmp t'=>t == t'
 |.cell t ty,.cell t' n agg=>t == t'&&Qa4n P ty n agg
 |_,_=>false
def mRs (P:Program):List ResultVar→List RS→Bool
 |[],[]=>true
 |x::r,y::s=>mR P x y&&mRs P r s
 |_,_=>false
def mFn (P:Program) (f:FuncId) (nargs n:Nat) (s:SC) (rs:List RS):Bool:=
 fnOk P f&&(match P.funcs[f]? with
  |some fn=>(match fn.body with
   |some c=>fn.ntmps == n&&decide (nargs≤n)&&mC P n c s&&mRs P fn.results.toList rs
   |none=>false)
  |none=>false)
theorem Qbet {n:Nat} {x:ResultVar} {y:RS} (hm:mR P x y=true) (hs:Sat H g w) (he:EnvOk w g e a) (ho:y.op.obl true e H) :
  ∃v,(match x with
   |.tmp t=>(pure (a.tmps.getD t undef):Sem Value)
   |.cell t ty=>do loadVar ty (←asAddr (a.tmps.getD t undef))).run P w=.ok v w∧RepV w g (y.op.val e H) v:=by
 cases x with
 |tmp t=>
  cases y with
  |tmp t'=>
   simp[mR]at hm;subst hm
   have hr:=Qao (x:=.t t) (y:=.tmp t) he (by simp[mO]) rfl ho
   exact⟨a.tmps.getD t undef,rfl,hr⟩
  |cell=>simp[mR]at hm
 |cell t ty=>
  cases y with
  |tmp=>simp[mR]at hm
  |cell t' n agg=>
   simp only[mR,Bool.and_eq_true,beq_iff_eq]at hm
   obtain⟨rfl,h2⟩:=hm
   obtain⟨d,i,k1,k2,k3,k4,k5⟩:=Qu2 h2
   obtain ⟨v, w', g', r1, r2, r3, _⟩ := s_ld (o := { dst := none, op := .load ty (.tmp t), type := 0, pos := "", after := #[], guard := none }) (x := .t t) (x' := .tmp t) rfl k1 k2 k3 k4 k5 (by simp [mO]) hs he rfl ho
   simp only[RS.op,FOp.obl]at ho
   obtain⟨o1,o2,o3,o4,o5⟩:=ho
   have hrr:=Qao (x:=.t t) (y:=.tmp t) he (by simp[mO]) rfl o1
   rw[Qdc o2]at hrr
   obtain⟨b,q,hv,_⟩:=Qac1 hs hrr.c_inv o3
   have hv':a.tmps.getD t undef=.pointer (some ⟨b,q,none⟩):=hv
   have hcell := Qap7 (P := P) (o := { dst := none, op := .load ty (.tmp t), type := 0, pos := "", after := #[], guard := none }) (x := .t t) (x' := .tmp t) rfl k1 k2 k3 k4 k5 (by simp [mO]) hs he rfl ⟨o1, o2, o3, o4, o5⟩
   obtain⟨v2,q1,q2⟩:=hcell
   refine⟨v2,?_,q2⟩
   simp only[execOp,Instr.loadAt,Act.eval,hv',Instr.sureAddr,Sem.run_bind,Sem.run_pure,Result.andThen_ok]at q1
   simp only[hv',asAddr,Sem.run_bind,Sem.run_pure,Result.andThen_ok]
   cases hl:(loadVar ty ⟨b,q,none⟩).run P w with
   |ok u w2=>rw[hl]at q1;simp at q1;obtain⟨rfl,rfl⟩:=q1;rfl
   |halt h w2=>rw[hl]at q1;simp at q1
def rRun (tmps:Array Value):ResultVar→Sem Value
 |.tmp t=>pure (tmps.getD t undef)
 |.cell a t=>do loadVar t (←asAddr (tmps.getD a undef))
theorem Qar7 {P:Program} {w:World} {tmps:Array Value}:∀(l:List ResultVar) (vs:List Value),l.length=vs.length→
  (∀(j:Nat) (x:ResultVar) (v:Value),l[j]? = some x→vs[j]? = some v→(rRun tmps x).run P w=.ok v w)→(l.mapM (rRun tmps)).run P w=.ok vs w:=by
 intro l
 induction l with
 |nil=>intro vs hl _;cases vs with
  |nil=>simp
  |cons=>simp at hl
 |cons x r ih=>
  intro vs hl h
  cases vs with
  |nil=>simp at hl
  |cons v vs=>
   have h0:=h 0 x v rfl rfl
   have ih':=ih vs (by simpa using hl) fun j y u h1 h2=>h (j+1) y u (by simpa using h1) (by simpa using h2)
   simp only[List.mapM_cons,Sem.run_bind,h0,Result.andThen_ok,ih',Sem.run_pure]
theorem Qbc7 {n:Nat}:∀(l:List ResultVar) (rs:List RS),mRs P l rs=true→Sat H g w→EnvOk w g e a→(∀r∈rs,r.op.obl true e H)→
  ∃vs:List Value,l.length=vs.length∧vs.length=rs.length∧(∀(j:Nat) (x:ResultVar) (v:Value),l[j]? = some x→vs[j]? = some v→(rRun a.tmps x).run P w=.ok v w)∧
   (∀(j:Nat) (x:V) (u:Value),(rs.map fun r=>r.op.val e H)[j]? = some x→vs[j]? = some u→RepV w g x u):=by
 intro l
 induction l with
 |nil=>
  intro rs hm hs he ho
  cases rs with
  |nil=>exact⟨[],rfl,rfl,by simp,by simp⟩
  |cons=>simp[mRs]at hm
 |cons x r ih=>
  intro rs hm hs he ho
  cases rs with
  |nil=>simp[mRs]at hm
  |cons y rs=>
   simp only[mRs,Bool.and_eq_true]at hm
   obtain⟨v,h1,h2⟩:=Qbet (n:=n) hm.1 hs he (ho y (by simp))
   obtain⟨vs,k1,k2,k3,k4⟩:=ih rs hm.2 hs he fun z hz=>ho z (by simp[hz])
   refine⟨v::vs,by simp[k1],by simp[k2],?_,?_⟩
   ·intro j z u hz hu
    cases j with
    |zero=>
     simp at hz hu;subst hz;subst hu
     exact h1
    |succ j=>exact k3 j z u (by simpa using hz) (by simpa using hu)
   ·intro j z u hz hu
    cases j with
    |zero=>
     simp at hz hu;subst hz;subst hu
     exact h2
    |succ j=>exact k4 j z u (by simpa using hz) (by simpa using hu)
theorem Qa0t {fn:Func} {rs:List RS} (hm:mRs P fn.results.toList rs=true) (hs:Sat H g w) (he:EnvOk w g e a) {K:V→Heap→Prop} (ho:Qad rs e H K) :
  ∃v x,(results fn a.tmps).run P w=.ok v w∧K x H∧RepV w g x v:=by
 obtain⟨h1,h2⟩:=ho
 obtain⟨vs,k1,k2,k3,k4⟩:=Qbc7 (n:=0) _ _ hm hs he h1
 have hr:=Qar7 (P:=P) (w:=w) (tmps:=a.tmps) _ _ k1 k3
 have hrun:(results fn a.tmps).run P w=.ok (if h:vs.toArray.size=1 then vs.toArray[0]else .tuple vs.toArray) w:=by
  have:results fn a.tmps=(do let vs ←fn.results.mapM (rRun a.tmps);pure (if h:vs.size=1 then vs[0]else .tuple vs)):=by
   unfold results
   rfl
  rw[this,Array.mapM_eq_mapM_toList]
  simp only[Sem.run_bind,Sem.run_map,hr,Result.andThen_ok,Sem.run_pure]
 by_cases hl:vs.length=1
 ·obtain⟨v,rfl⟩:∃v,vs=[v]:=List.length_eq_one_iff.mp hl
  obtain⟨r,rfl⟩:∃r,rs=[r]:=List.length_eq_one_iff.mp (by omega)
  exact⟨v,_,by simpa using hrun,h2,k4 0 _ v (by simp) rfl⟩
 ·have hsz:¬vs.toArray.size=1:=by simpa using hl
  rw[dif_neg hsz]at hrun
  refine⟨_,.tup (rs.map fun r=>r.op.val e H),hrun,?_,.tup _ _ (by simp[k2]) k4⟩
  split at h2
  ·rename_i r;simp at k2;omega
  ·exact h2
def Q6 (rs:List RS) (K:V→Heap→Prop):X→Env→Heap→Prop
 |.nrm,e,H=>Qad rs e H K
 |.ret,e,H=>Qad rs e H K
 |.exit _,_,_=>False
theorem Qbd6:∀(args:List V) (i t:Nat),lk t (zipE i args)=if i≤t then args.getD (t-i) .unk else .unk:=by
 intro args
 induction args with
 |nil=>intro i t;simp[zipE,lk]
 |cons v r ih=>
  intro i t
  simp only[zipE,lk,ih]
  split
  ·rename_i h;subst h;simp
  ·rename_i h
   split
   ·rw[if_pos (by omega)]
    have:t-i=(t-(i+1))+1:=by omega
    rw[this];simp
   ·rw[if_neg (by omega)]
theorem Qb (Qat:P.follows .mixedOrders=true) {f n:Nat} {s:SC} {rs:List RS} {args:List V} {H:Heap} {K:V→Heap→Prop}
  (hm:mFn P f args.length n s rs=true) (hc:Qac P s (Q6 rs K) (zipE 0 args) H):Qw P f args H K:=by
 simp only[mFn,Bool.and_eq_true]at hm
 obtain⟨hok,hm⟩:=hm
 refine⟨hok,?_⟩
 intro g w vs hs hl hv
 cases hf:P.funcs[f]? with
 |none=>rw[hf]at hm;simp at hm
 |some fn=>
  rw[hf]at hm
  simp only at hm
  cases hb:fn.body with
  |none=>rw[hb]at hm;simp at hm
  |some c=>
   rw[hb]at hm
   simp only[Bool.and_eq_true,beq_iff_eq,decide_eq_true_eq]at hm
   obtain⟨⟨⟨h1,h2⟩,h3⟩,h4⟩:=hm
   refine calls_of_wp hf hb ?_
   have he:EnvOk w g (zipE 0 args) { tmps:=vs.toArray++Array.replicate (fn.ntmps-vs.toArray.size) undef,defers:=[] }:=by
    intro t
    rw[Qbd6,if_pos (Nat.zero_le _),Nat.sub_zero]
    by_cases ht:t<args.length
    ·have ht':t<vs.length:=by omega
     have hg:(vs.toArray++Array.replicate (fn.ntmps-vs.toArray.size) undef).getD t undef=vs[t]:=by
      simp[Array.getD,ht',Array.getElem_append]
      intro h;omega
     rw[hg]
     exact hv t _ _ (by rw[List.getD_eq_getElem?_getD,List.getElem?_eq_getElem ht];rfl) (List.getElem?_eq_getElem ht')
    ·rw[List.getD_eq_getElem?_getD,List.getElem?_eq_none (by omega)]
     exact .unk _
   refine wp_mono (Qazq Qat s c _ (zipE 0 args) H h3 hc g w _ hs he rfl (by simp;omega)) ?_
   rintro x a' w' ⟨x',q1,e2,H2,g2,k1,k2,k3,k4,k5⟩
   have key:Qad rs e2 H2 K→a'.defers=[]∧∃v,(results fn a'.tmps).run P w'=.ok v w'∧(∃v' x H' g',Ending.returned v=.returned v'∧K x H'∧Stp H g w H' g' w'∧RepV w' g' x v'):=by
    intro hret
    obtain⟨v,x,r1,r2,r3⟩:=Qa0t h4 k2.sat k3 hret
    exact⟨k4,v,r1,v,x,H2,g2,rfl,r2,k2,r3⟩
   cases x with
   |normal=>
    simp only[xm,Option.some.injEq]at q1;subst q1
    exact key k1
   |ret=>
    simp only[xm,Option.some.injEq]at q1;subst q1
    exact key k1
   |exit id=>
    simp only[xm,Option.some.injEq]at q1;subst q1
    exact k1.elim
   |_=>simp[xm]at q1
end Go.AE

namespace Go.AE
variable {P:Program} {H:Heap} {e:Env}
def X.sq (P:Program) (b:SC) (Q:X→Env→Heap→Prop):X→Env→Heap→Prop:=X.next (Qac P b Q) Q
theorem Qbfc {b:SC} {Q:X→Env→Heap→Prop}:X.sq P b Q .nrm e H=Qac P b Q e H:=rfl
theorem Qbfd {b:SC} {Q:X→Env→Heap→Prop}:X.sq P b Q .ret e H=Q .ret e H:=rfl
theorem Qbdt {b:SC} {Q:X→Env→Heap→Prop} {i:Nat}:X.sq P b Q (.exit i) e H=Q (.exit i) e H:=rfl
theorem Qbeo {i:Nat} {Q:X→Env→Heap→Prop}:X.inBlock i Q .nrm e H=Q .nrm e H:=rfl
theorem Qbep {i:Nat} {Q:X→Env→Heap→Prop}:X.inBlock i Q .ret e H=Q .ret e H:=rfl
theorem Qbco {i:Nat} {Q:X→Env→Heap→Prop}:X.inBlock i Q (.exit i) e H=Q .nrm e H:=by simp[X.inBlock]
theorem Qa8o {i j:Nat} {Q:X→Env→Heap→Prop} (h:(j == i)=false):X.inBlock i Q (.exit j) e H=Q (.exit j) e H:=by
 have:j≠i:=by simpa using h
 simp[X.inBlock,this]
theorem Qh {a b:SC} {Q:X→Env→Heap→Prop} (h:Qac P a (X.sq P b Q) e H):Qac P (.seq a b) Q e H:=h
theorem Qa5i {K K':Env→Heap→Prop} {Q:X→Env→Heap→Prop}:X.next K (X.next K' Q)=X.next K Q:=by
 funext x e H
 cases x <;> rfl
theorem Q3 {a b c:SC} {Q:X→Env→Heap→Prop} (h:Qac P (.seq a (.seq b c)) Q e H):Qac P (.seq (.seq a b) c) Q e H:=by
 simp only[Qac]at h⊢
 rw[Qa5i];exact h
theorem Qq {its:List Item} {keep:List Nat} {Q:X→Env→Heap→Prop} (h:regT P its e H fun e' H'=>Q .nrm (Q9d keep e') H'):Qac P (.reg its keep) Q e H:=h
theorem Qa9 {fa:Nat} {ord:List Nat} {its:List Item} {keep:List Nat} {Q:X→Env→Heap→Prop} (h:Qc7 P its e H fun e' H'=>Q .nrm (Q9d keep e') H'):Qac P (.dreg fa ord its keep) Q e H:=h
theorem Qa {its:List Item} {keep:List Nat} {b:SC} {Q:X→Env→Heap→Prop} (h:regT P its e H fun e' H'=>Qac P b Q (Q9d keep e') H'):Qac P (.seq (.reg its keep) b) Q e H:=h
theorem Qal {fa:Nat} {ord:List Nat} {its:List Item} {keep:List Nat} {b:SC} {Q:X→Env→Heap→Prop} (h:Qc7 P its e H fun e' H'=>Qac P b Q (Q9d keep e') H'):Qac P (.seq (.dreg fa ord its keep) b) Q e H:=h
theorem Qd {t:Opd} {a b:SC} {Q:X→Env→Heap→Prop} {c:Bool} (hc:t.raw e=.c (.bool c)) (h1:c=true→Qac P a Q e H) (h2:c=false→Qac P b Q e H):Qac P (.cond t a b) Q e H:=⟨c,hc,h1,h2⟩
theorem Qc {i:Nat} {a:SC} {Q:X→Env→Heap→Prop} (h:Qac P a (X.inBlock i Q) e H):Qac P (.block i a) Q e H:=h
theorem Qt {i:Nat} {Q:X→Env→Heap→Prop} (h:Q (.exit i) e H):Qac P (.exit i) Q e H:=h
theorem Qk {Q:X→Env→Heap→Prop} (h:Q .ret e H):Qac P .ret Q e H:=h
theorem Qi {Q:X→Env→Heap→Prop} (h:Q .nrm e H):Qac P .skip Q e H:=h
theorem Qu {a:SC} {Q:X→Env→Heap→Prop} (I:Nat→Env→Heap→Prop) (n:Nat) (h0:I n e H)
  (h:∀n e1 H1,I n e1 H1→Qac P a (X.next (fun e2 H2=>∃m,m<n∧I m e2 H2) Q) e1 H1):Qac P (.loop a) Q e H:=⟨I,⟨n,h0⟩,h⟩
theorem Qa8k {e:Env}:gdO e none=True:=rfl
theorem Qa8j {e:Env}:gdB e none=true:=rfl
theorem Qa8l {p:Bool} {v:V}:gdV none p v=v:=rfl
theorem Qa8m {p:Bool} {v:V} {x:Nat×Bool}:gdV (some x) p v=.gd p v:=rfl
theorem Qba8 {e:Env}:Q9d [] e=[]:=rfl
theorem Qa7w {k:Nat} {ks:List Nat} {e:Env}:Q9d (k::ks) e=(k,lk k e)::Q9d ks e:=rfl
theorem Qba9 {a:Prop}:(true=true→a)=a:=by simp
theorem Qa3l {a:Prop}:(false=true→a)=True:=by simp
theorem Qa7y {a:Prop}:(true=false→a)=True:=by simp
theorem Qazw {a:Prop}:(false=false→a)=a:=by simp
theorem Qbfl {a:Prop}:(a∧True)=a:=by simp
theorem Qbgl {a:Prop}:(True∧a)=a:=by simp
theorem Qbgm {a:Prop}:(True→a)=a:=by simp
theorem Qbfy {a:Prop}:(a→True)=True:=by simp
theorem b_f {b:Bool}:(b == false) = !b:=by cases b <;> rfl
theorem b_t {b:Bool}:(b == true)=b:=by cases b <;> rfl
theorem Qa8p {a:Prop}:(a→a)=True:=by simp
theorem Qa3s {a b:Prop}:(a→b→a)=True:=propext ⟨fun _=>trivial,fun _ h _=>h⟩
theorem Qa3t {a b:Prop}:(a→a∧b)=(a→b):=propext ⟨fun h x=>(h x).2,fun h x=>⟨x,h x⟩⟩
theorem Qbcp {a b:Prop}:(a→a→b)=(a→b):=by simp
theorem Qarw {α:Type} {p:α→Prop}:(∀x∈([]:List α),p x)=True:=by simp
def Qaqg (H:Heap) (p:C) (vs:List C) (K:V→Heap→Prop):Prop:=
 match p with
 |.ptr l k=>match H l with
  |.st cells=>k+vs.length≤cells.length∧∀H',H'=H.set l (.st (Qpt cells k vs))→K .unk H'
  |_=>False
 |.ep (.vsl l sz st n) z i k=>match H l with
  |.vec y rows=>y=sz∧z=sz∧i<n∧st+n≤rows.length∧k+vs.length≤sz∧
    ∀H',H'=H.set l (.vec sz (rows.set (st+i) (Qpt (rows.getD (st+i) []) k vs)))→K .unk H'
  |_=>False
 |_=>False
def appQ (H:Heap) (sz:Nat) (a b:C) (K:V→Heap→Prop):Prop:=
 okSl H b∧b.elemSz=sz∧match a with
 |.sl true z rows=>z=sz∧(rows=[]∨rowsOf H b≠[])∧(∀r∈rows++rowsOf H b,noOw r=true)∧rows.length+lenC b≤LIM∧
   ∀l,H l=.none→∀H',H'=H.set l (.vec sz (rows++rowsOf H b))→K (.c (.vsl l sz 0 (rows.length+lenC b))) H'
 |.vsl l z st n=>match H l with
  |.vec y rows=>z=sz∧y=sz∧st+n≤rows.length∧(∀r∈rowsOf H b,noOw r=true)∧n+lenC b≤LIM∧
    ∀l',(H.set l .none) l'=.none→∀H',H'=(H.set l .none).set l' (.vec sz ((rows.drop st).take n++rowsOf H b))→
     K (.c (.vsl l' sz 0 (n+lenC b))) H'
  |_=>False
 |_=>False
def updQ (H:Heap) (tag:Nat) (m k:C) (v:V) (K:V→Heap→Prop):Prop:=
 match m with
 |.mp l=>match H l with
  |.map n es=>Qrx tag k es∧es.length+1≤LIM∧∀H',H'=H.set l (.map (n+1) (updE k v es))→K .unk H'
  |_=>False
 |_=>False
def delQ (H:Heap) (tag:Nat) (m k:C) (K:V→Heap→Prop):Prop:=
 match m with
 |.mp l=>match H l with
  |.map n es=>Qrx tag k es∧∀H',H'=H.set l (.map (n+1) (delE k es))→K .unk H'
  |_=>False
 |.mnil=>Qrx tag k []∧K .unk H
 |_=>False
theorem Qa4 {α:Type} {a:α} {p:α→Prop}:(∀x,x=a→p x)=p a:=propext ⟨fun h=>h a rfl,fun h x hx=>hx▸h⟩
section
variable {p:Bool} {K:V→Heap→Prop}
theorem Qa7r {a:C} {vs:List C}:Q88 H a vs K=Qaqg H a vs K:=by
 cases a with
 |ptr l k=>simp only[Q88,Qaqg];cases hh:H l <;> simp only[hh,Qa4]
 |ep s z i k=>
  cases s with
  |vsl l sz st n=>simp only[Q88,Qaqg];cases hh:H l <;> simp only[hh,Qa4]
  |_=>rfl
 |_=>rfl
theorem Qbb0 {sz:Nat} {a b:C}:appT H sz a b K=appQ H sz a b K:=by
 unfold appT appQ
 refine congrArg (And _) (congrArg (And _) ?_)
 cases a with
 |sl fl z rows=>cases fl <;> simp only[Qa4]
 |vsl l z st n=>simp only[];cases hh:H l <;> simp only[hh,Qa4]
 |_=>rfl
theorem Qbdz {tag:Nat} {m k:C} {v:V}:updT H tag m k v K=updQ H tag m k v K:=by
 cases m with
 |mp l=>simp only[updT,updQ];cases hh:H l <;> simp only[hh,Qa4]
 |_=>rfl
theorem Qbb8 {tag:Nat} {m k:C}:delT H tag m k K=delQ H tag m k K:=by
 cases m with
 |mp l=>simp only[delT,delQ];cases hh:H l <;> simp only[hh,Qa4]
 |_=>rfl
theorem Qa3h {cells:List C}:(EOp.alloc cells).eff P p e H K=∀l,H l=.none→∀H',H'=H.set l (.st cells)→K (.c (.ptr l 0)) H':=by simp only[EOp.eff,Qa4]
theorem Qa8a {a:Opd}:(EOp.boxm a).eff P p e H K=(a.fine p e∧(a.v e).cells≠[]∧∀l,H l=.none→∀H',H'=H.set l (.st (a.v e).cells)→K (.c (.ptr l 0)) H'):=by simp only[EOp.eff,Qa4]
theorem Qbck {n:Nat} {a v:Opd}:(EOp.sto n a v).eff P p e H K=(a.fine p e∧v.fine p e∧(a.v e).isC∧(v.v e).cells.length=n∧0<n∧Qaqg H (a.v e).c1 (v.v e).cells K):=by simp only[EOp.eff,Qa7r]
theorem Qbcd {sz:Nat} {a b:Opd}:(EOp.app sz a b).eff P p e H K=(a.fine p e∧b.fine p e∧(a.v e).isC∧(b.v e).isC∧appQ H sz (a.v e).c1 (b.v e).c1 K):=by simp only[EOp.eff,Qbb0]
theorem Qbch {sz:Nat} {zero:List C} {n:Opd}:(EOp.mks sz zero n).eff P p e H K=(n.fine p e∧Qu0 (n.v e)∧0≤Qae (n.v e)∧Qae (n.v e)≤LIM∧
   ∀l,H l=.none→∀H',H'=H.set l (.vec sz (List.replicate (Qae (n.v e)).toNat zero))→K (.c (.vsl l sz 0 (Qae (n.v e)).toNat)) H'):=by simp only[EOp.eff,Qa4]
theorem Qbcg:EOp.mkm.eff P p e H K=∀l,H l=.none→∀H',H'=H.set l (.map 0 [])→K (.c (.mp l)) H':=by simp only[EOp.eff,Qa4]
theorem Qbcl {tag:Nat} {m k v:Opd}:(EOp.upd tag m k v).eff P p e H K=(m.fine p e∧k.fine p e∧v.fine p e∧(m.v e).isC∧(k.v e).isC∧(v.v e).cells≠[]∧updQ H tag (m.v e).c1 (k.v e).c1 (v.v e) K):=by simp only[EOp.eff,Qbdz]
theorem Qbce {tag:Nat} {m k:Opd}:(EOp.del tag m k).eff P p e H K=(m.fine p e∧k.fine p e∧(m.v e).isC∧(k.v e).isC∧delQ H tag (m.v e).c1 (k.v e).c1 K):=by simp only[EOp.eff,Qbb8]
theorem Qa8d {m:Opd}:(EOp.clrm m).eff P p e H K=(m.fine p e∧match m.v e with
  |.c (.mp l)=>match H l with
   |.map n _=>∀H',H'=H.set l (.map (n+1) [])→K .unk H'
   |_=>False
  |_=>False):=by
 simp only[EOp.eff]
 refine congrArg (And _) ?_
 cases m.v e with
 |c x=>cases x with
  |mp l=>simp only[];cases hh:H l <;> simp only[hh,Qa4]
  |_=>rfl
 |_=>rfl
theorem Qa8e {sz:Nat} {zero:List C} {m:Opd}:(EOp.clrs sz zero m).eff P p e H K=(m.fine p e∧match m.v e with
  |.c (.vsl l z st n)=>z=sz∧match H l with
   |.vec y rows=>y=sz∧st+n≤rows.length∧∀H',H'=H.set l (.vec sz (rows.take st++List.replicate n zero++rows.drop (st+n)))→K .unk H'
   |_=>False
  |_=>False):=by
 simp only[EOp.eff]
 refine congrArg (And _) ?_
 cases m.v e with
 |c x=>cases x with
  |vsl l z st n=>simp only[];refine congrArg (And _) ?_;cases hh:H l <;> simp only[hh,Qa4]
  |_=>rfl
 |_=>rfl
theorem Qa8c {f:Nat} {args:List Opd}:(EOp.call f args).eff P p e H K=((∀x∈args,x.fine p e)∧Qw P f (args.map fun x=>x.v e) H K):=rfl
theorem Qa3i {f:Opd} {args:List Opd}:(EOp.callv f args).eff P p e H K=(f.fine p e∧(∀x∈args,x.fine p e)∧match f.v e with
  |.c (.fn n caps)=>Qw P n ((args.map fun x=>x.v e)++caps.map .c) H K
  |_=>False):=rfl
theorem Qbcj {m:Opd}:(EOp.rng m).eff P p e H K=(m.fine p e∧match m.v e with
  |.c (.mp l)=>match H l with
   |.map n es=>es.Nodup∧∀i,H i=.none→∀H',H'=H.set i (.iter (some (l,n)) es none)→K (.c (.itr i)) H'
   |_=>False
  |.c .mnil=>∀i,H i=.none→∀H',H'=H.set i (.iter none [] none)→K (.c (.itr i)) H'
  |_=>False):=by
 simp only[EOp.eff]
 refine congrArg (And _) ?_
 cases m.v e with
 |c x=>cases x with
  |mp l=>simp only[];cases hh:H l <;> simp only[hh,Qa4]
  |mnil=>simp only[Qa4]
  |_=>rfl
 |_=>rfl
theorem Qbci {it:Opd}:(EOp.nxt it).eff P p e H K=(it.fine p e∧match it.v e with
  |.c (.itr i)=>match H i with
   |.iter none left _=>K (.tup [.c (.bool false)]) H
   |.iter (some (l,n)) left cur=>(∃es,H l=.map n es)∧(left=[]→K (.tup [.c (.bool false)]) H)∧
     ∀x left',x∈left→(∀y,y∈left'↔y∈left∧y≠x)→left'.Nodup→left'.length+1=left.length→
      ∀H',H'=H.set i (.iter (some (l,n)) left' (some x))→K (.tup [.c (.bool true),.c x.1,x.2]) H'
   |_=>False
  |_=>False):=by
 simp only[EOp.eff]
 refine congrArg (And _) ?_
 cases it.v e with
 |c x=>cases x with
  |itr i=>
   simp only[]
   cases hh:H i with
   |iter m left cur=>cases m with
    |none=>rfl
    |some y=>simp only[Qa4]
   |_=>rfl
  |_=>rfl
 |_=>rfl
theorem Qbcf {it:Opd}:(EOp.ent it).eff P p e H K=(it.fine p e∧match it.v e with
  |.c (.itr i)=>match H i with
   |.iter (some (l,n)) left (some x)=>(∃es,H l=.map n es)∧K (.tup [.c x.1,x.2]) H
   |_=>False
  |_=>False):=rfl
theorem Qa8b {sz:Nat} {parts:List Opd}:(EOp.bslm sz parts).eff P p e H K=((∀x∈parts,x.fine p e∧(x.v e).cells.length=sz)∧∀l,H l=.none→∀H',H'=H.set l (.vec sz (parts.map fun x=>(x.v e).cells))→K (.c (.vsl l sz 0 parts.length)) H'):=by simp only[EOp.eff,Qa4]
theorem Qa8f {a:Opd}:(EOp.nilq a).eff P p e H K=(a.fine p e∧match a.v e with
  |.c (.sl _ _ rows)=>∀b:Bool,(b=true→rows=[])→K (.c (.bool b)) H
  |_=>False):=rfl
end
theorem Qa8u {k:IntKind} {n:Int}:(C.int k n).isOw=false:=rfl
theorem Qa3w {b:Bool}:(C.bool b).isOw=false:=rfl
theorem Qa8x {s:List UInt8}:(C.str s).isOw=false:=rfl
theorem Qbcx {f:Bool} {sz:Nat} {r:List (List C)}:(C.sl f sz r).isOw=false:=rfl
theorem Qbcw {c:List C}:(C.pp c).isOw=false:=rfl
theorem Qbcs {c:C} {a i k:Nat}:(C.ep c a i k).isOw=false:=rfl
theorem Qa3z:C.pnil.isOw=false:=rfl
theorem Qa8w {l k:Nat}:(C.ptr l k).isOw=false:=rfl
theorem Qbv {l a b c:Nat}:(C.vsl l a b c).isOw=false:=rfl
theorem Qbcu {l:Nat}:(C.mp l).isOw=false:=rfl
theorem Qa3y:C.mnil.isOw=false:=rfl
theorem Qbct {f:Nat} {c:List C}:(C.fn f c).isOw=false:=rfl
theorem Qa3x:C.fnil.isOw=false:=rfl
theorem Qa8v {l:Nat}:(C.itr l).isOw=false:=rfl
theorem Qa8y:C.unk.isOw=false:=rfl
theorem Qbcv {sz:Nat} {r:List (List C)}:(C.ow sz r).isOw=true:=rfl
theorem Qbc2 {f:Bool} {sz:Nat} {r:List (List C)}:lenC (.sl f sz r)=r.length:=rfl
theorem Qa9d {l a b c:Nat}:lenC (.vsl l a b c)=c:=rfl
theorem Qa3j {f:Bool} {sz:Nat} {r:List (List C)}:(C.sl f sz r).elemSz=sz:=rfl
theorem Qazu {l a b c:Nat}:(C.vsl l a b c).elemSz=a:=rfl
theorem Qa5w {f:Bool} {sz:Nat} {r:List (List C)}:rowsOf H (.sl f sz r)=r:=rfl
theorem Qa0w {l a st n:Nat}:rowsOf H (.vsl l a st n)=match H l with
  |.vec _ rows=>(rows.drop st).take n
  |_=>[]:=rfl
theorem Qbdg {f:Bool} {sz:Nat} {r:List (List C)}:okSl H (.sl f sz r)=True:=rfl
theorem Qa9z {l sz st n:Nat}:okSl H (.vsl l sz st n)=match H l with
  |.vec z rows=>z=sz∧st+n≤rows.length
  |_=>False:=rfl
section
variable {K:V→Heap→Prop}
theorem Qbb1 {sz z:Nat} {rows:List (List C)} {b:C}:appQ H sz (.sl true z rows) b K=(okSl H b∧b.elemSz=sz∧z=sz∧(rows=[]∨rowsOf H b≠[])∧(∀r∈rows++rowsOf H b,noOw r=true)∧rows.length+lenC b≤LIM∧
   ∀l,H l=.none→∀H',H'=H.set l (.vec sz (rows++rowsOf H b))→K (.c (.vsl l sz 0 (rows.length+lenC b))) H'):=rfl
theorem Qa75 {sz l z st n:Nat} {b:C}:appQ H sz (.vsl l z st n) b K=(okSl H b∧b.elemSz=sz∧match H l with
  |.vec y rows=>z=sz∧y=sz∧st+n≤rows.length∧(∀r∈rowsOf H b,noOw r=true)∧n+lenC b≤LIM∧
    ∀l',(H.set l .none) l'=.none→∀H',H'=(H.set l .none).set l' (.vec sz ((rows.drop st).take n++rowsOf H b))→
     K (.c (.vsl l' sz 0 (n+lenC b))) H'
  |_=>False):=rfl
end
theorem Qbds {lo hi:Option Int} {fl:Bool} {sz:Nat} {rows:List (List C)}:sliC lo hi (.sl fl sz rows)=.sl (fl&&(hi.isNone || rows.isEmpty)) sz ((rows.take (hi.getD rows.length).toNat).drop (lo.getD 0).toNat):=rfl
theorem Qba1 {lo hi:Option Int} {l sz st n:Nat}:sliC lo hi (.vsl l sz st n)=.vsl l sz (st+(lo.getD 0).toNat) ((hi.getD n).toNat-(lo.getD 0).toNat):=rfl
attribute [go_sem] b_f b_t Qa8p Qa3s Qa3t Qbcp regT Qc7 Qu7 lk Qa8k Qa8j Qa8l Qa8m gdO gdB Opd.v Opd.raw Opd.fine V.bare V.fine FOp.val FOp.obl FOp.fct Qa3h Qa8a Qbck Qbcd Qbch Qbcg Qbcl Qbce Qa8d Qa8e Qa8c Qa3i Qbcj Qbci Qbcf Qa8f Qa8b Qba8 Qa7w
 V.c1 V.isC V.isAg V.cells Qf0 Qa0n fadC binC binO Qaz9 noOw Qaqg Qbb1 Qa75 updQ delQ zipE Qrz Qbds Qba1 bnds Qbdg Qa9z Qbc2 Qa9d Qa5w Qa0w Qa3j Qazu Qa8u Qa3w Qa8x Qbcx Qbcw Qbcs Qa3z Qa8w Qbv Qbcu Qa3y Qbct Qa3x Qa8v Qa8y Qbcv Qu0 Qa8s Qae Qa5l Qba9 Qa3l Qa7y Qazw Qbfl Qbgl Qbgm Qbfy
 Qbfc Qbfd Qbdt Qbeo Qbep Qbco List.map_cons List.map_nil Qpt List.take_succ_cons List.take_zero List.take_nil List.drop_succ_cons List.drop_zero List.drop_nil
 List.length_cons List.length_nil List.all_cons List.all_nil List.headD_cons Bool.not_false Bool.not_true Bool.and_true Bool.true_and Bool.and_false Bool.false_and and_self eq_self Bool.false_eq_true List.cons_append List.nil_append Nat.zero_le Nat.le_refl not_true_eq_false not_false_eq_true ite_true ite_false ne_eq Option.map_some Option.map_none Option.getD_some Option.getD_none Option.isNone_some Option.isNone_none List.isEmpty_nil List.isEmpty_cons Bool.or_true Bool.true_or Bool.or_false Bool.false_or optI optF Int.toNat_natCast Int.natCast_nonneg Int.add_sub_cancel List.forall_mem_cons Qarw
end Go.AE

namespace Go.AE
abbrev fI (d : Nat) (o : FOp) : Item := .f (some d) none o
abbrev eI (d : Nat) (o : EOp) : Item := .e (some d) none o
abbrev gT (d t : Nat) (o : FOp) : Item := .f (some d) (some (t, true)) o
abbrev gF (d t : Nat) (o : FOp) : Item := .f (some d) (some (t, false)) o
abbrev kI (n : Int) : Opd := .k (.c (.int .i64 n))
abbrev mJ (d a : Nat) : Item := .f (some d) none (.mv (.t a))
abbrev fJ (d n a : Nat) : Item := .f (some d) none (.fad n (.t a))
abbrev lJ (d a : Nat) : Item := .f (some d) none (.ld 1 false (.t a))
abbrev tJ (d n a : Nat) : Item := .f (some d) none (.ld n true (.t a))
abbrev nJ (d a : Nat) : Item := .f (some d) none (.len (.t a))
abbrev kJ (d a : Nat) : Item := .f (some d) none (.nck (.t a))
abbrev oJ (d a : Nat) : Item := .f (some d) none (.not (.t a))
abbrev iJ (d n a b : Nat) : Item := .f (some d) none (.iad n (.t a) (.t b))
abbrev bJ (d : Nat) (o : BinOp) (a b : Nat) : Item := .f (some d) none (.bin 0 o (.t a) (.t b))
abbrev cJ (d : Nat) (o : BinOp) (a : Nat) (n : Int) : Item := .f (some d) none (.bin 0 o (.t a) (.k (.c (.int .i64 n))))
abbrev gTm (d g a : Nat) : Item := .f (some d) (some (g, true)) (.mv (.t a))
abbrev gFm (d g a : Nat) : Item := .f (some d) (some (g, false)) (.mv (.t a))
abbrev gTf (d g n a : Nat) : Item := .f (some d) (some (g, true)) (.fad n (.t a))
abbrev gFf (d g n a : Nat) : Item := .f (some d) (some (g, false)) (.fad n (.t a))
abbrev gTl (d g a : Nat) : Item := .f (some d) (some (g, true)) (.ld 1 false (.t a))
abbrev gFl (d g a : Nat) : Item := .f (some d) (some (g, false)) (.ld 1 false (.t a))
abbrev aJ (d f : Nat) (l : List Opd) : Item := .e (some d) none (.call f l)
theorem Qbff : Int.toNat 0 = 0 := rfl
theorem Qbfg : Int.toNat 1 = 1 := rfl
theorem Qbdw : Int.toNat 2000 = 2000 := rfl
attribute [go_sem] mJ fJ lJ tJ nJ kJ oJ iJ bJ cJ gTm gFm gTf gFf gTl gFl aJ fI eI gT gF kI false_implies Qbff Qbfg Qbdw
end Go.AE

namespace Go.AE
variable {P:Program} {H:Heap} {g:G} {w:World} {e:Env}
def Obj.used:Obj→Bool
 |.none=>false
 |_=>true
def Heap.frz (H:Heap) (S:Nat→Bool):Heap:=fun l=>if S l then .none else H l
def G.frz (g:G) (H:Heap) (S:Nat→Bool):G:=
 { g with
  per:=fun b=>g.per b || (match g.own b with
   |some (l,_)=>S l&&(H l).used
   |none=>false)
  own:=fun b=>match g.own b with
   |some (l,p)=>if S l&&(H l).used then none else some (l,p)
   |none=>none }
theorem Qbbk (H:Heap) (S:Nat→Bool) (g:G) (w:World):Le g w (g.frz H S) w:=
 ⟨fun b h=>⟨by simp[G.frz,h],rfl⟩,fun _ _ h=>h,Nat.le_refl _,fun _ _ _ h=>h,rfl,rfl,rfl⟩
theorem Qlf {S:Nat→Bool} {m:Nat} (hm:¬(S m=true∧(H m).used=true)):Quf g w (g.frz H S) w m:=by
 intro b q hb
 refine⟨?_,rfl⟩
 have:¬(S m&&(H m).used)=true:=by simpa using hm
 simp only[G.frz,hb]
 rw[if_neg this]
theorem Qa7t (hs:Sat H g w) (S:Nat→Bool):Stp H g w (H.frz S) (g.frz H S) w:=by
 have hle:=Qbbk H S g w
 refine⟨hle,fun m hm hn=>?_,⟨fun b hb=>?_,hs.names,fun b x hb=>?_,fun b m p hb=>?_,fun m=>?_⟩⟩
 ·refine⟨by simp only[Heap.frz,hn];split <;> rfl,?_⟩
  exact Qlf (by rw[hn];simp[Obj.used])
 ·obtain⟨h1,h2⟩:=hs.fresh b hb
  simp[G.frz,h1,h2]
 ·have hb':(match g.own b with
   |some (l,p)=>if S l&&(H l).used then none else some (l,p)
   |none=>none)=some x:=hb
  show (g.per b || (match g.own b with
   |some (l,_)=>S l&&(H l).used
   |none=>false))=false
  cases ho:g.own b with
  |none=>rw[ho]at hb';simp at hb'
  |some y=>
   obtain⟨l,p⟩:=y
   rw[ho]at hb'
   simp only at hb'⊢
   have:=hs.excl b _ ho
   by_cases hx:(S l&&(H l).used)=true
   ·rw[if_pos hx]at hb';simp at hb'
   ·simp[this,hx]
 ·have hb':(match g.own b with
   |some (l,p)=>if S l&&(H l).used then none else some (l,p)
   |none=>none)=some (m,p):=hb
  cases ho:g.own b with
  |none=>rw[ho]at hb';simp at hb'
  |some y=>
   obtain⟨l,q⟩:=y
   rw[ho]at hb'
   simp only at hb'
   by_cases hx:(S l&&(H l).used)=true
   ·rw[if_pos hx]at hb';simp at hb'
   ·rw[if_neg hx]at hb'
    simp at hb';obtain⟨rfl,rfl⟩:=hb'
    exact hs.named b _ _ ho
 ·by_cases hS:S m=true
  ·simp[Heap.frz,hS,SatObj]
  ·have hH':H.frz S m=H m:=by simp[Heap.frz,hS]
   have hk:Quf g w (g.frz H S) w m:=Qlf (by simp[hS])
   refine SatObj.keep (H':=H.frz S) hs hle hk hH' fun m' v left cur hc v' es hv=>?_
   by_cases hS':S m'=true
   ·simp[Heap.frz,hS']at hv
   ·have:H.frz S m'=H m':=by simp[Heap.frz,hS']
    rw[this]at hv
    exact .inl ⟨hv,Qlf (by simp[hS'])⟩
inductive FrzC (H:Heap) (S:Nat→Bool):C→C→Prop
 |same (c:C) (h:c.isOw=false):FrzC H S c c
 |sl (fl:Bool) (sz:Nat) (rows rows':List (List C)) (hl:rows'.length=rows.length) (hr:∀(i:Nat) (r r':List C),rows[i]? = some r→rows'[i]? = some r'→r'.length=r.length)
   (hc:∀(i:Nat) (r r':List C) (j:Nat) (c c':C),rows[i]? = some r→rows'[i]? = some r'→r[j]? = some c→r'[j]? = some c'→FrzC H S c c'):FrzC H S (.sl fl sz rows) (.sl false sz rows')
 |pp (cells cells':List C) (hl:cells'.length=cells.length) (hc:∀(j:Nat) (c c':C),cells[j]? = some c→cells'[j]? = some c'→FrzC H S c c'):FrzC H S (.pp cells) (.pp cells')
 |vsl (l sz st n:Nat) (all rows rows':List (List C)) (hS:S l=true) (hH:H l=.vec sz all) (hb:st+n≤all.length) (hrows:rows=(all.drop st).take n)
   (hl:rows'.length=rows.length) (hr:∀(i:Nat) (r r':List C),rows[i]? = some r→rows'[i]? = some r'→r'.length=r.length)
   (hc:∀(i:Nat) (r r':List C) (j:Nat) (c c':C),rows[i]? = some r→rows'[i]? = some r'→r[j]? = some c→r'[j]? = some c'→FrzC H S c c'):FrzC H S (.vsl l sz st n) (.sl false sz rows')
 |ptr (l k:Nat) (all cells cells':List C) (hS:S l=true) (hH:H l=.st all) (hcells:cells=all.drop k) (hl:cells'.length=cells.length)
   (hc:∀(j:Nat) (c c':C),cells[j]? = some c→cells'[j]? = some c'→FrzC H S c c'):FrzC H S (.ptr l k) (.pp cells')
 |ow (sz:Nat) (rows rows':List (List C)) (hl:rows'.length=rows.length) (hr:∀(i:Nat) (r r':List C),rows[i]? = some r→rows'[i]? = some r'→r'.length=r.length)
   (hc:∀(i:Nat) (r r':List C) (j:Nat) (c c':C),rows[i]? = some r→rows'[i]? = some r'→r[j]? = some c→r'[j]? = some c'→FrzC H S c c'):FrzC H S (.ow sz rows) (.sl false sz rows')
theorem Qab {α:Type} {l l':List α} (h:l'.length=l.length) {i:Nat} {x:α} (hx:l'[i]? = some x):∃y,l[i]? = some y:=by
 have:i<l'.length:=(List.getElem?_eq_some_iff.1 hx).1
 exact⟨l[i]'(by omega),List.getElem?_eq_getElem (by omega)⟩
theorem Qaq5 {S:Nat→Bool} {b l:Nat} {p:List Nat} (ho:g.own b=some (l,p)) (hS:S l=true) (hu:(H l).used=true):(g.frz H S).per b=true:=by
 simp[G.frz,ho,hS,hu]
theorem Qaq6 (hs:Sat H g w) {S:Nat→Bool} {c c':C} (h:FrzC H S c c') :
  (∀v,RepC w g c v→RepC w (g.frz H S) c' v)∧∀l p v,S l=true→(H l).used=true→RepO w g l p c v→RepC w (g.frz H S) c' v:=by
 have hle:=Qbbk H S g w
 induction h with
 |same c h=>
  refine⟨fun v hv=>hv.mono hle,fun l p v _ _ hv=>?_⟩
  exact (hv.plain_of fun sz rows hc=>by subst hc;simp[C.isOw]at h).mono hle
 |sl fl sz rows rows' hl hr hc ih=>
  have key:∀v,RepC w g (.sl fl sz rows) v→RepC w (g.frz H S) (.sl false sz rows') v:=by
   intro v hv
   cases hv with
   |slnil _ _ ad=>
    have:rows'=[]:=List.length_eq_zero_iff.1 (by simpa using hl)
    subst this;exact .slnil _ _ _
   |sl _ _ _ b off cap val h1 h2 h3 h4 h5 h6 h7=>
    rw[←hl]at h1 h2 h3⊢
    refine .sl false sz rows' b off cap val h1 (by simp) h3 (hle.per b h4).1 (fun i r' hr'=>?_) (fun i r' j c' hr' hc'=>?_) (fun i r' j c' hr' hc'=>?_)
    ·obtain⟨r,hr0⟩:=Qab hl hr'
     rw[hr i r r' hr0 hr'];exact h5 i r hr0
    ·obtain⟨r,hr0⟩:=Qab hl hr'
     obtain⟨c,hc0⟩:=Qab (hr i r r' hr0 hr') hc'
     exact h6 i r j c hr0 hc0
    ·obtain⟨r,hr0⟩:=Qab hl hr'
     obtain⟨c,hc0⟩:=Qab (hr i r r' hr0 hr') hc'
     exact (ih i r r' j c c' hr0 hr' hc0 hc').1 _ (h7 i r j c hr0 hc0)
  exact⟨key,fun l p v _ _ hv=>key v (hv.plain_of fun _ _ hc=>by simp at hc)⟩
 |pp cells cells' hl hc ih=>
  have key:∀v,RepC w g (.pp cells) v→RepC w (g.frz H S) (.pp cells') v:=by
   intro v hv
   cases hv with
   |pp _ b off val h1 h2 h3=>
    refine .pp cells' b off val (hle.per b h1).1 (fun j c' hc'=>?_) (fun j c' hc'=>?_)
    ·obtain⟨c,hc0⟩:=Qab hl hc'
     exact h2 j c hc0
    ·obtain⟨c,hc0⟩:=Qab hl hc'
     exact (ih j c c' hc0 hc').1 _ (h3 j c hc0)
  exact⟨key,fun l p v _ _ hv=>key v (hv.plain_of fun _ _ hc=>by simp at hc)⟩
 |vsl l sz st n all rows rows' hS hH hb hrows hl hr hc ih=>
  have key:∀v,RepC w g (.vsl l sz st n) v→RepC w (g.frz H S) (.sl false sz rows') v:=by
   intro v hv
   have hlen:rows.length=n:=by rw[hrows];simp;omega
   cases hv with
   |vslnil _ _ _ ad=>
    have:rows'=[]:=List.length_eq_zero_iff.1 (by omega)
    subst this;exact .slnil _ _ _
   |vsl _ _ _ _ cap b base T m h1 h2 h3 h4=>
    have hob:=hs.objs l
    rw[hH]at hob
    obtain⟨b',base',T',cs,val,r1,r2,r3,r4,r5,r6,r7,r8⟩:=SatVec.of hob h1
    rw[h1]at r1
    simp only[Option.some.injEq,Prod.mk.injEq,true_and]at r1
    obtain⟨rfl,rfl⟩:=r1
    have hper:=Qaq5 (g:=g) (H:=H) r2 hS (by rw[hH];rfl)
    have hget:∀(i:Nat) (r:List C),rows[i]? = some r→all[st+i]? = some r:=by
     intro i r hi
     rw[hrows,List.getElem?_take]at hi
     split at hi
     ·rw[List.getElem?_drop]at hi;exact hi
     ·simp at hi
    have hn:n=rows'.length:=by omega
    rw[hn]at h2⊢
    refine .sl false sz rows' b (base+st * sz) cap (fun i j=>val (st+i) j) (by omega) (by simp) h2 hper (fun i r' hr'=>?_) (fun i r' j c' hr' hc'=>?_) (fun i r' j c' hr' hc'=>?_)
    ·obtain⟨r,hr0⟩:=Qab hl hr'
     rw[hr i r r' hr0 hr'];exact r6 _ r (hget i r hr0)
    ·obtain⟨r,hr0⟩:=Qab hl hr'
     obtain⟨c,hc0⟩:=Qab (hr i r r' hr0 hr') hc'
     rw[Qcv r3,show base+st * sz+i * sz+j=base+(st+i) * sz+j by rw[Nat.add_mul];omega]
     exact r7 _ r j c (hget i r hr0) hc0
    ·obtain⟨r,hr0⟩:=Qab hl hr'
     obtain⟨c,hc0⟩:=Qab (hr i r r' hr0 hr') hc'
     exact (ih i r r' j c c' hr0 hr' hc0 hc').2 l _ _ hS (by rw[hH];rfl) (r8 _ r j c (hget i r hr0) hc0)
  exact⟨key,fun l p v _ _ hv=>key v (hv.plain_of fun _ _ hc=>by simp at hc)⟩
 |ptr l k all cells cells' hS hH hcells hl hc ih=>
  have key:∀v,RepC w g (.ptr l k) v→RepC w (g.frz H S) (.pp cells') v:=by
   intro v hv
   cases hv with
   |ptr _ _ b sz base h1=>
    have hob:=hs.objs l
    rw[hH]at hob
    obtain⟨b',sz',T,cs,r1,r2,r3,r4,r5⟩:=hob
    rw[h1]at r1
    simp only[Option.some.injEq,Prod.mk.injEq]at r1
    obtain⟨rfl,rfl,rfl⟩:=r1
    have hper:=Qaq5 (g:=g) (H:=H) r2 hS (by rw[hH];rfl)
    have hget:∀(j:Nat) (c:C),cells[j]? = some c→all[k+j]? = some c:=by
     intro j c hj
     rw[hcells,List.getElem?_drop]at hj;exact hj
    have hcs:∀(j:Nat) (c:C),all[j]? = some c→cs[j]? = some (cs.getD j undef):=by
     intro j c hj
     have hlt:j<cs.size:=by rw[r4];exact (List.getElem?_eq_some_iff.1 hj).1
     rw[Array.getElem?_eq_getElem hlt,Array.getD_eq_getD_getElem?,Array.getElem?_eq_getElem hlt];rfl
    refine .pp cells' b (0+k) (fun j=>cs.getD (k+j) undef) hper (fun j c' hc'=>?_) (fun j c' hc'=>?_)
    ·obtain⟨c,hc0⟩:=Qab hl hc'
     rw[Qcv r3,show 0+k+j=k+j by omega]
     exact hcs _ c (hget j c hc0)
    ·obtain⟨c,hc0⟩:=Qab hl hc'
     exact (ih j c c' hc0 hc').2 l _ _ hS (by rw[hH];rfl) (r5 _ c _ (hget j c hc0) (hcs _ c (hget j c hc0)))
  exact⟨key,fun l p v _ _ hv=>key v (hv.plain_of fun _ _ hc=>by simp at hc)⟩
 |ow sz rows rows' hl hr hc ih=>
  refine⟨fun v hv=>(by cases hv),fun l p v hS hu hv=>?_⟩
  cases hv with
  |plain _ _ _ h=>cases h
  |ownil _ _ ad=>
   have:rows'=[]:=List.length_eq_zero_iff.1 (by simpa using hl)
   subst this;exact .slnil _ _ _
  |ow _ _ _ b off cap T cs val h1 h2 h3 h4 h5 h6 h7 h8=>
   have hper:=Qaq5 (g:=g) (H:=H) h3 hS hu
   rw[←hl]at h1 h2⊢
   refine .sl false sz rows' b off cap val h1 (by simp) h2 hper (fun i r' hr'=>?_) (fun i r' j c' hr' hc'=>?_) (fun i r' j c' hr' hc'=>?_)
   ·obtain⟨r,hr0⟩:=Qab hl hr'
    rw[hr i r r' hr0 hr'];exact h6 i r hr0
   ·obtain⟨r,hr0⟩:=Qab hl hr'
    obtain⟨c,hc0⟩:=Qab (hr i r r' hr0 hr') hc'
    rw[Qcv h4];exact h7 i r j c hr0 hc0
   ·obtain⟨r,hr0⟩:=Qab hl hr'
    obtain⟨c,hc0⟩:=Qab (hr i r r' hr0 hr') hc'
    exact (ih i r r' j c c' hr0 hr' hc0 hc').2 l _ _ hS hu (h8 i r j c hr0 hc0)
inductive FrzV (H:Heap) (S:Nat→Bool):V→V→Prop
 |c (a b:C) (h:FrzC H S a b):FrzV H S (.c a) (.c b)
 |ag (cs cs':List C) (hl:cs'.length=cs.length) (h:∀(j:Nat) (c c':C),cs[j]? = some c→cs'[j]? = some c'→FrzC H S c c'):FrzV H S (.ag cs) (.ag cs')
 |tup (xs xs':List V) (hl:xs'.length=xs.length) (h:∀(j:Nat) (x x':V),xs[j]? = some x→xs'[j]? = some x'→FrzV H S x x'):FrzV H S (.tup xs) (.tup xs')
 |unk (x:V):FrzV H S x .unk
theorem Qael (hs:Sat H g w) {S:Nat→Bool} {x x':V} (h:FrzV H S x x'):∀v,RepV w g x v→RepV w (g.frz H S) x' v:=by
 induction h with
 |c a b h=>
  intro v hv
  exact .c _ _ ((Qaq6 hs h).1 v hv.c_inv)
 |ag cs cs' hl h=>
  intro v hv
  cases hv with
  |ag _ vs h1 h2=>
   refine .ag cs' vs (by omega) fun j c' u hc' hu=>?_
   obtain⟨c,hc⟩:=Qab hl hc'
   exact (Qaq6 hs (h j c c' hc hc')).1 u (h2 j c u hc hu)
 |tup xs xs' hl h ih=>
  intro v hv
  cases hv with
  |tup _ vs h1 h2=>
   refine .tup xs' vs (by omega) fun j x' u hx' hu=>?_
   obtain⟨x,hx⟩:=Qab hl hx'
   exact ih j x x' hx hx' u (h2 j x u hx hu)
 |unk x=>exact fun v _=>.unk v
theorem Qa22 {f:Nat} {args:List V} {K:V→Heap→Prop} (h:Qw P f args H fun x H'=>∃S x',FrzV H' S x x'∧K x' (H'.frz S)):Qw P f args H K:=by
 refine⟨h.1,fun g w vs hs hl hv=>?_⟩
 refine Calls.mono (h.2 g w vs hs hl hv) ?_
 rintro e w' ⟨v,x,H',g',he,⟨S,x',hf,hk⟩,hst,hr⟩
 exact⟨v,x',H'.frz S,g'.frz H' S,he,hk,hst.trans (Qa7t hst.sat S),Qael hst.sat hf v hr⟩
theorem Qazl {f:Nat} {args:List V} {K K':V→Heap→Prop} (h:Qw P f args H K) (hk:∀x H',K x H'→K' x H'):Qw P f args H K':=by
 refine⟨h.1,fun g w vs hs hl hv=>?_⟩
 refine Calls.mono (h.2 g w vs hs hl hv) ?_
 rintro e w' ⟨v,x,H',g',he,hx,hst,hr⟩
 exact⟨v,x,H',g',he,hk x H' hx,hst,hr⟩
end Go.AE

namespace Go.AE
variable {P:Program} {H:Heap} {g:G} {w:World} {e:Env}
def FrzK (H:Heap) (S:Nat→Bool) (c c':C):Prop:=c'=c∨(c.isOw=false∧FrzC H S c c')
inductive FrzO (H:Heap) (S:Nat→Bool):Obj→Obj→Prop
 |same (o:Obj):FrzO H S o o
 |st (cells cells':List C) (hl:cells'.length=cells.length) (h:∀(j:Nat) (c c':C),cells[j]? = some c→cells'[j]? = some c'→FrzK H S c c'):FrzO H S (.st cells) (.st cells')
 |vec (sz:Nat) (rows rows':List (List C)) (hl:rows'.length=rows.length) (hr:∀(i:Nat) (r r':List C),rows[i]? = some r→rows'[i]? = some r'→r'.length=r.length)
   (h:∀(i:Nat) (r r':List C) (j:Nat) (c c':C),rows[i]? = some r→rows'[i]? = some r'→r[j]? = some c→r'[j]? = some c'→FrzK H S c c'):FrzO H S (.vec sz rows) (.vec sz rows')
def FrzH (H:Heap) (S:Nat→Bool) (H':Heap):Prop:=∀m,(S m=true∧H' m=.none)∨(S m=false∧FrzO H S (H m) (H' m))
theorem Qew (H:Heap) (S:Nat→Bool):FrzH H S (H.frz S):=fun m=>by
 cases h:S m with
 |true=>exact .inl ⟨rfl,by simp[Heap.frz,h]⟩
 |false=>exact .inr ⟨rfl,by simp[Heap.frz,h];exact .same _⟩
theorem FrzH.set {S:Nat→Bool} {H':Heap} (h:FrzH H S H') {l:Nat} {o:Obj} (hl:S l=false) (ho:FrzO H S (H l) o):FrzH H S (H'.set l o):=fun m=>by
 by_cases hm:m=l
 ·subst hm;rw[Heap.set_same];exact .inr ⟨hl,ho⟩
 ·rw[Heap.set_other _ _ hm];exact h m
theorem Qazf (hs:Sat H g w) {S:Nat→Bool} {H':Heap} (h:FrzH H S H'):Stp H g w H' (g.frz H S) w:=by
 have h0:=Qa7t hs S
 have hle:=h0.le
 have hkk:∀m,S m=false→Quf g w (g.frz H S) w m:=fun m hm=>Qlf (by simp[hm])
 have hmv:∀(l:Nat) (p:List Nat) (c c':C) (v:Value),S l=false→FrzK H S c c'→RepO w g l p c v→RepO w (g.frz H S) l p c' v:=by
  intro l p c c' v hl hk hr
  rcases hk with rfl|⟨h1,h2⟩
  ·exact hr.move hle fun q b hb=>⟨(hkk l hl b _ hb).1,rfl⟩
  ·exact .plain _ _ _ _ ((Qaq6 hs h2).1 v (hr.plain_of fun sz rows hc=>by subst hc;simp[C.isOw]at h1))
 refine⟨hle,fun m hm hn=>?_,⟨h0.sat.fresh,h0.sat.names,h0.sat.excl,h0.sat.named,fun m=>?_⟩⟩
 ·refine⟨?_,Qlf (by rw[hn];simp[Obj.used])⟩
  rcases h m with ⟨_,h1⟩|⟨_,h1⟩
  ·exact h1
  ·rw[hn]at h1
   generalize H' m=o at h1
   cases h1;rfl
 ·rcases h m with ⟨_,h1⟩|⟨hS,h1⟩
  ·rw[h1];exact trivial
  ·have ho:=hs.objs m
   generalize hA:H m=A at h1 ho
   generalize hB:H' m=B at h1
   cases h1 with
   |same=>
    have:=SatObj.keep (H':=H') hs hle (hkk m hS) (hB.trans hA.symm) fun m' v left cur hc v' es hv=>?_
    ·rw[hB]at this;exact this
    ·rcases h m' with ⟨_,h2⟩|⟨hS',h2⟩
     ·rw[h2]at hv;simp at hv
     ·rw[hv]at h2
      generalize hA':H m'=A' at h2
      cases h2
      exact .inl ⟨rfl,hkk m' hS'⟩
   |st cells cells' hl hc=>
    obtain⟨b,sz,T,cs,r1,r2,r3,r4,r5⟩:=ho
    refine⟨b,sz,T,cs,r1,(hkk m hS b _ r2).1,r3,by rw[hl];exact r4,fun k c' v hc' hv=>?_⟩
    obtain⟨c,hc0⟩:=Qab hl hc'
    exact hmv _ _ c c' v hS (hc k c c' hc0 hc') (r5 k c v hc0 hv)
   |vec sz rows rows' hl hr hc=>
    rcases ho with ⟨r1,r2⟩|⟨b,base,T,cs,val,r1,r2,r3,r4,r5,r6,r7,r8⟩
    ·refine .inl ⟨?_,r2⟩
     subst r1;exact List.length_eq_zero_iff.1 hl
    ·refine .inr ⟨b,base,T,cs,val,r1,(hkk m hS b _ r2).1,r3,by rw[hl];exact r4,by rw[hl];exact r5,fun i r' hr'=>?_,fun i r' j c' hr' hc'=>?_,fun i r' j c' hr' hc'=>?_⟩
     ·obtain⟨r,hr0⟩:=Qab hl hr'
      rw[hr i r r' hr0 hr'];exact r6 i r hr0
     ·obtain⟨r,hr0⟩:=Qab hl hr'
      obtain⟨c,hc0⟩:=Qab (hr i r r' hr0 hr') hc'
      exact r7 i r j c hr0 hc0
     ·obtain⟨r,hr0⟩:=Qab hl hr'
      obtain⟨c,hc0⟩:=Qab (hr i r r' hr0 hr') hc'
      exact hmv _ _ c c' _ hS (hc i r r' j c c' hr0 hr' hc0 hc') (r8 i r j c hr0 hc0)
theorem Qd9 {f:Nat} {args:List V} {K:V→Heap→Prop} (h:Qw P f args H fun x H'=>∃S x' H2,FrzV H' S x x'∧FrzH H' S H2∧K x' H2):Qw P f args H K:=by
 refine⟨h.1,fun g w vs hs hl hv=>?_⟩
 refine Calls.mono (h.2 g w vs hs hl hv) ?_
 rintro e w' ⟨v,x,H',g',he,⟨S,x',H2,hf,hh,hk⟩,hst,hr⟩
 exact⟨v,x',H2,g'.frz H' S,he,hk,hst.trans (Qazf hst.sat hh),Qael hst.sat hf v hr⟩
theorem Qe2 {e e':Env} (S:Nat→Bool) {H2:Heap} (h:∀t,FrzV H S (lk t e) (lk t e')) (hh:FrzH H S H2):Qbbr e H e' H2:=by
 intro g w tmps hs hr
 exact⟨g.frz H S,Qazf hs hh,fun t=>Qael hs (h t) _ (hr t)⟩
def un (H:Heap) (m:Nat):Bool:=!(H m).used
theorem Qaya {m:Nat} (h:H m≠.none):un H m=false:=by
 unfold un;cases hm:H m <;> first|rfl|exact absurd hm h
theorem Qd0 {m:Nat} (h:H m=.none):un H m=true:=by simp[un,h,Obj.used]
theorem Qa3p {H':Heap} {m:Nat} (h:H m≠.none):H'.frz (un H) m=H' m:=by simp[Heap.frz,Qaya h]
def C.plain:C→Bool
 |.int _ _|.bool _|.str _|.sl _ _ _|.pp _|.pnil|.mnil|.fnil|.unk=>true
 |_=>false
theorem Qg {S:Nat→Bool} {c:C} (h:c.plain=true):FrzC H S c c:=.same c (by cases c <;> simp_all[C.plain,C.isOw])
theorem Qaen {S:Nat→Bool} {l sz n:Nat} {rows:List (List C)} (hS:S l=true) (hH:H l=.vec sz rows) (hn:n=rows.length) (hr:∀r∈rows,∀c∈r,c.isOw=false):FrzC H S (.vsl l sz 0 n) (.sl false sz rows):=by
 subst hn
 refine .vsl l sz 0 rows.length rows rows rows hS hH (by omega) (by simp) rfl (fun i r r' h1 h2=>by rw[h1]at h2;simp at h2;rw[h2]) (fun i r r' j c c' h1 h2 h3 h4=>?_)
 rw[h1]at h2;simp at h2;subst h2
 rw[h3]at h4;simp at h4;subst h4
 exact .same _ (hr r (List.mem_of_getElem? h1) c (List.mem_of_getElem? h3))
theorem Qaem {S:Nat→Bool} {fl:Bool} {sz:Nat} {rows:List (List C)} (hr:∀r∈rows,∀c∈r,c.isOw=false):FrzC H S (.sl fl sz rows) (.sl false sz rows):=by
 refine .sl fl sz rows rows rfl (fun i r r' h1 h2=>by rw[h1]at h2;simp at h2;rw[h2]) (fun i r r' j c c' h1 h2 h3 h4=>?_)
 rw[h1]at h2;simp at h2;subst h2
 rw[h3]at h4;simp at h4;subst h4
 exact .same _ (hr r (List.mem_of_getElem? h1) c (List.mem_of_getElem? h3))
inductive FrzL (H:Heap) (S:Nat→Bool):List C→List C→Prop
 |nil:FrzL H S [] []
 |cons {c c':C} {l l':List C} (h:FrzC H S c c') (t:FrzL H S l l'):FrzL H S (c::l) (c'::l')
theorem FrzL.spec {S:Nat→Bool} {l l':List C} (h:FrzL H S l l'):l'.length=l.length∧∀(j:Nat) (c c':C),l[j]? = some c→l'[j]? = some c'→FrzC H S c c':=by
 induction h with
 |nil=>exact⟨rfl,fun j c c' h=>by simp at h⟩
 |cons h t ih=>
  refine⟨by simp[ih.1],fun j c c' h1 h2=>?_⟩
  cases j with
  |zero=>simp at h1 h2;subst h1;subst h2;exact h
  |succ j=>simp at h1 h2;exact ih.2 j c c' h1 h2
theorem FrzL.ag {S:Nat→Bool} {l l':List C} (h:FrzL H S l l'):FrzV H S (.ag l) (.ag l'):=.ag _ _ h.spec.1 h.spec.2
inductive FrzKL (H:Heap) (S:Nat→Bool):List C→List C→Prop
 |nil:FrzKL H S [] []
 |same {c:C} {l l':List C} (t:FrzKL H S l l'):FrzKL H S (c::l) (c::l')
 |cons {c c':C} {l l':List C} (h:c.isOw=false) (h':FrzC H S c c') (t:FrzKL H S l l'):FrzKL H S (c::l) (c'::l')
theorem FrzKL.st {S:Nat→Bool} {l l':List C} (h:FrzKL H S l l'):FrzO H S (.st l) (.st l'):=by
 have:l'.length=l.length∧∀(j:Nat) (c c':C),l[j]? = some c→l'[j]? = some c'→FrzK H S c c':=by
  induction h with
  |nil=>exact⟨rfl,fun j c c' h=>by simp at h⟩
  |same t ih=>
   refine⟨by simp[ih.1],fun j c c' h1 h2=>?_⟩
   cases j with
   |zero=>simp at h1 h2;subst h1;subst h2;exact .inl rfl
   |succ j=>simp at h1 h2;exact ih.2 j c c' h1 h2
  |cons h h' t ih=>
   refine⟨by simp[ih.1],fun j c c' h1 h2=>?_⟩
   cases j with
   |zero=>simp at h1 h2;subst h1;subst h2;exact .inr ⟨h,h'⟩
   |succ j=>simp at h1 h2;exact ih.2 j c c' h1 h2
 exact .st _ _ this.1 this.2
end Go.AE

namespace Go.AE
variable {P:Program} {H0 H H':Heap} {E L:List (Nat×Obj)}
structure Kn (H0 H:Heap) (E L:List (Nat×Obj)):Prop where
 get:∀p∈E++L,H p.1=p.2∧p.2≠.none
 ext:∀p∈E,H0 p.1≠.none
 loc:∀p∈L,H0 p.1=.none
 dE:(E.map Prod.fst).Nodup
 dL:(L.map Prod.fst).Nodup
 chg:∀m,H0 m≠.none→m∉E.map Prod.fst→H m=H0 m
def Upd (H H':Heap) (U:List (Nat×Obj)):Prop:=(∀p∈U,H' p.1=p.2)∧∀m,H m≠.none→m∉U.map Prod.fst→H' m=H m
theorem Kn.start0 (H:Heap):Kn H H [] []:=⟨by simp,by simp,by simp,by simp,by simp,fun _ _ _=>rfl⟩
theorem Kn.start1 {l:Nat} {o:Obj} (h:H l=o) (ho:o≠.none):Kn H H [(l,o)] []:=
 ⟨by simp[h,ho],by simp[h,ho],by simp,by simp,by simp,fun _ _ _=>rfl⟩
theorem Kn.start2 {l m:Nat} {o q:Obj} (h:H l=o) (ho:o≠.none) (h2:H m=q) (hq:q≠.none) (hn:l≠m):Kn H H [(l,o),(m,q)] []:=
 ⟨by simp[h,ho,h2,hq],by simp[h,ho,h2,hq],by simp,by simp[hn],by simp,fun _ _ _=>rfl⟩
theorem Kn.e (hk:Kn H0 H E L) (i:Nat) {l:Nat} {o:Obj} (h:E[i]? = some (l,o)):H l=o:=
 (hk.get (l,o) (List.mem_append_left _ (List.mem_of_getElem? h))).1
theorem Kn.l (hk:Kn H0 H E L) (i:Nat) {l:Nat} {o:Obj} (h:L[i]? = some (l,o)):H l=o:=
 (hk.get (l,o) (List.mem_append_right _ (List.mem_of_getElem? h))).1
theorem Kn.free (hk:Kn H0 H E L) (i:Nat) {l:Nat} {o:Obj} (h:L[i]? = some (l,o)):H0 l=.none:=hk.loc (l,o) (List.mem_of_getElem? h)
theorem Kn.un (hk:Kn H0 H E L) (i:Nat) {l:Nat} {o:Obj} (h:L[i]? = some (l,o)):un H0 l=true:=Qd0 (hk.free i h)
theorem Kn.usedE (hk:Kn H0 H E L) (i:Nat) {l:Nat} {o:Obj} (h:E[i]? = some (l,o)):H0 l≠.none:=hk.ext (l,o) (List.mem_of_getElem? h)
theorem Kn.ne (hk:Kn H0 H E L) (i j:Nat) {l m:Nat} {o q:Obj} (h:E[i]? = some (l,o)) (h2:L[j]? = some (m,q)):l≠m:=fun hh=>by
 subst hh;exact hk.usedE i h (hk.free j h2)
theorem Qak {L:List (Nat×Obj)} {p:Nat×Obj} (h:p∈L):p.1∈L.map Prod.fst:=List.mem_map_of_mem h
theorem Qb9 {L:List (Nat×Obj)} (hd:(L.map Prod.fst).Nodup) {i j:Nat} {p q:Nat×Obj} (hi:L[i]? = some p) (hj:L[j]? = some q) (h:p.1=q.1):i=j:=by
 have h1:(L.map Prod.fst)[i]? = some p.1:=by simp[hi]
 have h2:(L.map Prod.fst)[j]? = some q.1:=by simp[hj]
 have hlt:i<(L.map Prod.fst).length:=(List.getElem?_eq_some_iff.1 h1).1
 exact (List.getElem?_inj hlt hd).1 (by rw[h1,h2,h])
theorem Kn.neL (hk:Kn H0 H E L) (i j:Nat) {l m:Nat} {o q:Obj} (h:L[i]? = some (l,o)) (h2:L[j]? = some (m,q)) (hij:i≠j):l≠m:=fun hh=>
 hij (Qb9 hk.dL h h2 hh)
theorem Kn.newFree (hk:Kn H0 H E L) {x:Nat} (hx:H x=.none):H0 x=.none∧x∉E.map Prod.fst∧x∉L.map Prod.fst:=by
 have hno:∀p∈E++L,p.1≠x:=fun p hp hh=>by
  obtain⟨h1,h2⟩:=hk.get p hp
  rw[hh,hx]at h1;exact h2 h1.symm
 have hE:x∉E.map Prod.fst:=fun h=>by
  obtain⟨p,hp,hh⟩:=List.mem_map.1 h
  exact hno p (List.mem_append_left _ hp) hh
 refine⟨?_,hE,fun h=>?_⟩
 ·cases h0:H0 x with
  |none=>rfl
  |_=>have:=hk.chg x (by rw[h0];simp) hE;rw[hx,h0]at this;simp at this
 ·obtain⟨p,hp,hh⟩:=List.mem_map.1 h
  exact hno p (List.mem_append_right _ hp) hh
theorem Kn.alloc (hk:Kn H0 H E L) {x:Nat} {o:Obj} (hx:H x=.none) (ho:o≠.none):Kn H0 (H.set x o) E (L++[(x,o)]):=by
 obtain⟨h1,h2,h3⟩:=hk.newFree hx
 refine⟨fun p hp=>?_,hk.ext,fun p hp=>?_,hk.dE,?_,fun m hm hn=>?_⟩
 ·rw[←List.append_assoc]at hp
  rcases List.mem_append.1 hp with hp|hp
  ·have:p.1≠x:=fun hh=>by
    rcases List.mem_append.1 hp with hp|hp
    ·exact h2 (hh▸Qak hp)
    ·exact h3 (hh▸Qak hp)
   rw[Heap.set_other _ _ this];exact hk.get p hp
  ·simp at hp;subst hp;exact⟨Heap.set_same _ _ _,ho⟩
 ·rcases List.mem_append.1 hp with hp|hp
  ·exact hk.loc p hp
  ·simp at hp;subst hp;exact h1
 ·rw[List.map_append]
  refine List.nodup_append.2 ⟨hk.dL,by simp,fun a ha b hb=>?_⟩
  simp at hb;subst hb;exact fun hh=>h3 (hh▸ha)
 ·have:m≠x:=fun hh=>by subst hh;exact hm h1
  rw[Heap.set_other _ _ this];exact hk.chg m hm hn
theorem Qbs {L:List (Nat×Obj)} {i:Nat} {x:Nat} {o o':Obj} (h:L[i]? = some (x,o)):(L.set i (x,o')).map Prod.fst=L.map Prod.fst:=by
 rw[List.map_set]
 refine List.ext_getElem? fun j=>?_
 rw[List.getElem?_set]
 split
 ·rename_i hij
  subst hij
  have hlt:=(List.getElem?_eq_some_iff.1 h).1
  rw[if_pos (by simpa using hlt)]
  simp[h]
 ·rfl
theorem Qba {α:Type} {L:List α} {i:Nat} {x p:α} (h:p∈L.set i x):p=x∨∃j,j≠i∧L[j]? = some p:=by
 obtain⟨j,hj⟩:=List.getElem?_of_mem h
 rw[List.getElem?_set]at hj
 split at hj
 ·split at hj
  ·simp at hj;exact .inl hj.symm
  ·simp at hj
 ·rename_i hn;exact .inr ⟨j,fun h=>hn h.symm,hj⟩
theorem Kn.setL (hk:Kn H0 H E L) (i:Nat) {x:Nat} {o o':Obj} (h:L[i]? = some (x,o)) (ho:o'≠.none):Kn H0 (H.set x o') E (L.set i (x,o')):=by
 have hf:=hk.free i h
 refine⟨fun p hp=>?_,hk.ext,fun p hp=>?_,hk.dE,by rw[Qbs h];exact hk.dL,fun m hm hn=>?_⟩
 ·rcases List.mem_append.1 hp with hp|hp
  ·have:p.1≠x:=fun hh=>hk.ext p hp (hh▸hf)
   rw[Heap.set_other _ _ this];exact hk.get p (List.mem_append_left _ hp)
  ·rcases Qba hp with rfl|⟨j,hj,hp⟩
   ·exact⟨Heap.set_same _ _ _,ho⟩
   ·have:p.1≠x:=fun hh=>hj (Qb9 hk.dL hp h hh)
    rw[Heap.set_other _ _ this];exact hk.get p (List.mem_append_right _ (List.mem_of_getElem? hp))
 ·rcases Qba hp with rfl|⟨j,hj,hp⟩
  ·exact hf
  ·exact hk.loc p (List.mem_of_getElem? hp)
 ·have:m≠x:=fun hh=>by subst hh;exact hm hf
  rw[Heap.set_other _ _ this];exact hk.chg m hm hn
theorem Kn.setE (hk:Kn H0 H E L) (i:Nat) {x:Nat} {o o':Obj} (h:E[i]? = some (x,o)) (ho:o'≠.none):Kn H0 (H.set x o') (E.set i (x,o')) L:=by
 have hf:=hk.usedE i h
 refine⟨fun p hp=>?_,fun p hp=>?_,hk.loc,by rw[Qbs h];exact hk.dE,hk.dL,fun m hm hn=>?_⟩
 ·rcases List.mem_append.1 hp with hp|hp
  ·rcases Qba hp with rfl|⟨j,hj,hp⟩
   ·exact⟨Heap.set_same _ _ _,ho⟩
   ·have:p.1≠x:=fun hh=>hj (Qb9 hk.dE hp h hh)
    rw[Heap.set_other _ _ this];exact hk.get p (List.mem_append_left _ (List.mem_of_getElem? hp))
  ·have:p.1≠x:=fun hh=>hf (hh▸hk.loc p hp)
   rw[Heap.set_other _ _ this];exact hk.get p (List.mem_append_right _ hp)
 ·rcases Qba hp with rfl|⟨j,hj,hp⟩
  ·exact hf
  ·exact hk.ext p (List.mem_of_getElem? hp)
 ·rw[Qbs h]at hn
  have:m≠x:=fun hh=>by subst hh;exact hn (Qak (p:=(m,o)) (List.mem_of_getElem? h))
  rw[Heap.set_other _ _ this];exact hk.chg m hm hn
theorem Kn.app (hk:Kn H0 H E L) (i:Nat) {y y':Nat} {o o':Obj} (h:L[i]? = some (y,o)) (hy:(H.set y .none) y'=.none) (ho:o'≠.none) :
  Kn H0 ((H.set y .none).set y' o') E (L.set i (y',o')):=by
 have hf:=hk.free i h
 have hyf:H0 y'=.none∧y'∉E.map Prod.fst∧∀(j:Nat) (p:Nat×Obj),j≠i→L[j]? = some p→p.1≠y':=by
  by_cases hyy:y'=y
  ·subst hyy
   refine⟨hf,fun hh=>?_,fun j p hj hp hh=>hj (Qb9 hk.dL hp h hh)⟩
   obtain⟨p,hp,hh⟩:=List.mem_map.1 hh
   exact hk.ext p hp (hh▸hf)
  ·rw[Heap.set_other _ _ hyy]at hy
   obtain⟨h1,h2,h3⟩:=hk.newFree hy
   exact⟨h1,h2,fun j p hj hp hh=>h3 (hh▸Qak (List.mem_of_getElem? hp))⟩
 obtain⟨h1,h2,h3⟩:=hyf
 refine⟨fun p hp=>?_,hk.ext,fun p hp=>?_,hk.dE,?_,fun m hm hn=>?_⟩
 ·rcases List.mem_append.1 hp with hp|hp
  ·have a1:p.1≠y:=fun hh=>hk.ext p hp (hh▸hf)
   have a2:p.1≠y':=fun hh=>hk.ext p hp (hh▸h1)
   rw[Heap.set_other _ _ a2,Heap.set_other _ _ a1];exact hk.get p (List.mem_append_left _ hp)
  ·rcases Qba hp with rfl|⟨j,hj,hp⟩
   ·exact⟨Heap.set_same _ _ _,ho⟩
   ·have a1:p.1≠y:=fun hh=>hj (Qb9 hk.dL hp h hh)
    rw[Heap.set_other _ _ (h3 j p hj hp),Heap.set_other _ _ a1];exact hk.get p (List.mem_append_right _ (List.mem_of_getElem? hp))
 ·rcases Qba hp with rfl|⟨j,hj,hp⟩
  ·exact h1
  ·exact hk.loc p (List.mem_of_getElem? hp)
 ·rw[List.map_set]
  refine List.pairwise_iff_getElem.2 fun a b ha hb hab=>?_
  rw[List.length_set,List.length_map]at ha hb
  have gl:∀(j:Nat) (hj:j<L.length),j≠i→L[j].1≠y':=fun j hj hji=>h3 j L[j] hji (List.getElem?_eq_getElem hj)
  have hd:=List.pairwise_iff_getElem.1 hk.dL a b (by simpa using ha) (by simpa using hb) hab
  simp only[List.getElem_set,List.getElem_map]at hd⊢
  by_cases e1:i=a
  ·subst e1
   rw[if_pos rfl,if_neg (by omega)]
   exact fun hh=>gl b hb (by omega) hh.symm
  ·rw[if_neg e1]
   by_cases e2:i=b
   ·subst e2;rw[if_pos rfl];exact gl a ha (by omega)
   ·rw[if_neg e2];exact hd
 ·have a1:m≠y:=fun hh=>by subst hh;exact hm hf
  have a2:m≠y':=fun hh=>by subst hh;exact hm h1
  rw[Heap.set_other _ _ a2,Heap.set_other _ _ a1];exact hk.chg m hm hn
theorem Kn.callg (hk:Kn H0 H E L) {U E2 L2:List (Nat×Obj)} (hu:Upd H H' U) (hE:E2.map Prod.fst=E.map Prod.fst) (hL:L2.map Prod.fst=L.map Prod.fst)
  (h:∀p∈E2++L2,p.2≠.none∧(p∈U∨(p∈E++L∧p.1∉U.map Prod.fst))) (hU:∀u∈U,u.1∈E.map Prod.fst∨u.1∈L.map Prod.fst):Kn H0 H' E2 L2:=by
 have hin:∀{A B:List (Nat×Obj)} {p:Nat×Obj},B.map Prod.fst=A.map Prod.fst→p∈B→∃q∈A,q.1=p.1:=fun hAB hp=>by
  have:=Qak hp;rw[hAB]at this;obtain⟨q,h1,h2⟩:=List.mem_map.1 this;exact⟨q,h1,h2⟩
 refine⟨fun p hp=>?_,fun p hp=>?_,fun p hp=>?_,by rw[hE];exact hk.dE,by rw[hL];exact hk.dL,fun m hm hn=>?_⟩
 ·obtain⟨h1,h2⟩:=h p hp
  refine⟨?_,h1⟩
  rcases h2 with h2|⟨h2,h3⟩
  ·exact hu.1 p h2
  ·obtain⟨a1,a2⟩:=hk.get p h2
   rw[hu.2 p.1 (by rw[a1];exact a2) h3,a1]
 ·obtain⟨q,hq,hh⟩:=hin hE hp;rw[←hh];exact hk.ext q hq
 ·obtain⟨q,hq,hh⟩:=hin hL hp;rw[←hh];exact hk.loc q hq
 ·rw[hE]at hn
  have h0:=hk.chg m hm hn
  rw[hu.2 m (by rw[h0];exact hm) (fun hh=>?_),h0]
  obtain⟨u,hu1,hu2⟩:=List.mem_map.1 hh
  rcases hU u hu1 with a|a
  ·exact hn (hu2▸a)
  ·obtain⟨q,hq,hh⟩:=List.mem_map.1 a
   exact hm (by rw[←hu2,←hh];exact hk.loc q hq)
theorem Kn.call0 (hk:Kn H0 H E L) (hu:Upd H H' []):Kn H0 H' E L:=hk.callg hu rfl rfl (fun p hp=>⟨(hk.get p hp).2,.inr ⟨hp,by simp⟩⟩) (by simp)
theorem Kn.callE (hk:Kn H0 H E L) (i:Nat) {l:Nat} {o o':Obj} (h:E[i]? = some (l,o)) (hu:Upd H H' [(l,o')]) (ho:o'≠.none):Kn H0 H' (E.set i (l,o')) L:=by
 refine hk.callg hu (Qbs h) rfl (fun p hp=>?_) (fun u hu=>by simp at hu;subst hu;exact .inl (Qak (p:=(l,o)) (List.mem_of_getElem? h)))
 rcases List.mem_append.1 hp with hp|hp
 ·rcases Qba hp with rfl|⟨j,hj,hp⟩
  ·exact⟨ho,.inl (by simp)⟩
  ·have hm:=List.mem_append_left L (List.mem_of_getElem? hp)
   exact⟨(hk.get p hm).2,.inr ⟨hm,by simp;exact fun hh=>hj (Qb9 hk.dE hp h hh)⟩⟩
 ·have hm:=List.mem_append_right E hp
  exact⟨(hk.get p hm).2,.inr ⟨hm,by simp;exact fun hh=>hk.usedE i h (hh▸hk.loc p hp)⟩⟩
theorem Kn.callL (hk:Kn H0 H E L) (i:Nat) {l:Nat} {o o':Obj} (h:L[i]? = some (l,o)) (hu:Upd H H' [(l,o')]) (ho:o'≠.none):Kn H0 H' E (L.set i (l,o')):=by
 refine hk.callg hu rfl (Qbs h) (fun p hp=>?_) (fun u hu=>by simp at hu;subst hu;exact .inr (Qak (p:=(l,o)) (List.mem_of_getElem? h)))
 rcases List.mem_append.1 hp with hp|hp
 ·have hm:=List.mem_append_left L hp
  exact⟨(hk.get p hm).2,.inr ⟨hm,by simp;exact fun hh=>hk.ext p hp (hh▸hk.free i h)⟩⟩
 ·rcases Qba hp with rfl|⟨j,hj,hp⟩
  ·exact⟨ho,.inl (by simp)⟩
  ·have hm:=List.mem_append_right E (List.mem_of_getElem? hp)
   exact⟨(hk.get p hm).2,.inr ⟨hm,by simp;exact fun hh=>hj (Qb9 hk.dL hp h hh)⟩⟩
theorem Kn.callEE (hk:Kn H0 H E L) (i j:Nat) {l m:Nat} {o o' q q':Obj} (h:E[i]? = some (l,o)) (h2:E[j]? = some (m,q)) (hij:i≠j) (hu:Upd H H' [(l,o'),(m,q')]) (ho:o'≠.none) (hq:q'≠.none) :
  Kn H0 H' ((E.set i (l,o')).set j (m,q')) L:=by
 have h2':(E.set i (l,o'))[j]? = some (m,q):=by rw[List.getElem?_set];rw[if_neg hij];exact h2
 refine hk.callg hu ((Qbs h2').trans (Qbs h)) rfl (fun p hp=>?_) (fun u hu=>?_)
 ·rcases List.mem_append.1 hp with hp|hp
  ·rcases Qba hp with rfl|⟨b,hb,hp⟩
   ·exact⟨hq,.inl (by simp)⟩
   ·rcases Qba (List.mem_of_getElem? hp)with rfl|⟨c,hc,hp'⟩
    ·exact⟨ho,.inl (by simp)⟩
    ·have hm:=List.mem_append_left L (List.mem_of_getElem? hp')
     rw[List.getElem?_set]at hp
     split at hp
     ·rename_i hib
      split at hp
      ·simp at hp;subst hp;exact⟨ho,.inl (by simp)⟩
      ·simp at hp
     ·rename_i hib
      refine⟨(hk.get p hm).2,.inr ⟨hm,?_⟩⟩
      simp only[List.map_cons,List.map_nil,List.mem_cons,List.not_mem_nil,or_false,not_or]
      exact⟨fun hh=>hib (Qb9 hk.dE hp h hh).symm,fun hh=>hb (Qb9 hk.dE hp h2 hh)⟩
  ·have hm:=List.mem_append_right E hp
   refine⟨(hk.get p hm).2,.inr ⟨hm,?_⟩⟩
   simp only[List.map_cons,List.map_nil,List.mem_cons,List.not_mem_nil,or_false,not_or]
   exact⟨fun hh=>hk.usedE i h (hh▸hk.loc p hp),fun hh=>hk.usedE j h2 (hh▸hk.loc p hp)⟩
 ·simp at hu
  rcases hu with rfl|rfl
  ·exact .inl (Qak (p:=(l,o)) (List.mem_of_getElem? h))
  ·exact .inl (Qak (p:=(m,q)) (List.mem_of_getElem? h2))
theorem Kn.fin (hk:Kn H0 H E L):Upd H0 (H.frz (Go.AE.un H0)) E:=by
 refine⟨fun p hp=>?_,fun m hm hn=>?_⟩
 ·rw[Qa3p (hk.ext p hp)];exact (hk.get p (List.mem_append_left _ hp)).1
 ·rw[Qa3p hm];exact hk.chg m hm hn
theorem Qz {f:Nat} {args:List V} {K:V→Heap→Prop} (h:Qw P f args H fun x H'=>∃x',FrzV H' (un H) x x'∧K x' (H'.frz (un H))):Qw P f args H K:=
 Qa22 (Qazl h fun x H' ⟨x',h1,h2⟩=>⟨un H,x',h1,h2⟩)
theorem Kn.al (hk:Kn H0 H E L) {x:Nat} {o:Obj} (hx:H x=.none) (h1:H'=H.set x o) (ho:o≠.none:=by nofun):Kn H0 H' E (L++[(x,o)]):=h1▸hk.alloc hx ho
theorem Kn.stL (hk:Kn H0 H E L) (i:Nat) {x:Nat} {o o':Obj} (h:L[i]? = some (x,o)) (h1:H'=H.set x o') (ho:o'≠.none:=by nofun):Kn H0 H' E (L.set i (x,o')):=h1▸hk.setL i h ho
theorem Kn.stE (hk:Kn H0 H E L) (i:Nat) {x:Nat} {o o':Obj} (h:E[i]? = some (x,o)) (h1:H'=H.set x o') (ho:o'≠.none:=by nofun):Kn H0 H' (E.set i (x,o')) L:=h1▸hk.setE i h ho
theorem Kn.ap (hk:Kn H0 H E L) (i:Nat) {y y':Nat} {o o':Obj} (h:L[i]? = some (y,o)) (hy:(H.set y .none) y'=.none) (h1:H'=(H.set y .none).set y' o') (ho:o'≠.none:=by nofun):Kn H0 H' E (L.set i (y',o')):=h1▸hk.app i h hy ho
end Go.AE

namespace Go.AE.Y
theorem Qo {x:Int} (h1:-(2^63)≤x) (h2:x<2^63):inR .i64 x:=by
 unfold inR
 have a1:IntKind.min .i64=-(2^63):=by decide
 have a2:IntKind.max .i64=2^63-1:=by decide
 rw[a1,a2];omega
theorem Qet (b:UInt8):inR .i64 (b.toNat:Int):=Qo (by omega) (by have:=b.toNat_lt;omega)
def Qby (bs:List UInt8):List (List C):=bs.map fun b=>[.int .u8 b.toNat]
theorem Qau (bs:List UInt8):(Qby bs).length=bs.length:=by simp[Qby]
theorem Qwt (bs:List UInt8) (i:Nat) (h:i<bs.length):(Qby bs).getD i []=[.int .u8 (bs.getD i 0).toNat]:=by
 simp[Qby,List.getD_eq_getElem?_getD,h]
theorem Qbd3 {a b:Int} (ha:0≤a) (hb:0≤b) (ha':a<2^62) (hb':b<2^62):0≤Qazn .xor .i64 a b:=by
 obtain⟨m,rfl⟩:=Int.eq_ofNat_of_zero_le ha
 obtain⟨n,rfl⟩:=Int.eq_ofNat_of_zero_le hb
 have hm:m<2^62:=by omega
 have hn:n<2^62:=by omega
 have hx:m ^^^ n<2^62:=Nat.xor_lt_two_pow hm hn
 have h1:(BitVec.ofInt (IntKind.bits .i64) (m:Int) ^^^ BitVec.ofInt (IntKind.bits .i64) (n:Int)).toNat=m ^^^ n:=by
  have hb:IntKind.bits .i64=64:=rfl
  rw[hb,BitVec.toNat_xor]
  have e1:(BitVec.ofInt 64 (m:Int)).toNat=m:=by simp;omega
  have e2:(BitVec.ofInt 64 (n:Int)).toNat=n:=by simp;omega
  rw[e1,e2]
 simp only[Qazn]
 rw[h1]
 simp only[IntKind.wrap]
 have hb:IntKind.bits .i64=64:=rfl
 have hm:((m ^^^ n:Nat):Int) % 2 ^ 64=(m ^^^ n:Nat):=Int.emod_eq_of_lt (by omega) (by omega)
 rw[hb,hm]
 rw[if_neg]
 ·omega
 ·simp only[Bool.and_eq_true,decide_eq_true_eq,not_and]
  intro _;omega
structure Rdr where
 l:Nat
 fl:Bool
 bs:List UInt8
def Rdr.o (R:Rdr) (k:Nat):Obj:=.st [.sl R.fl 1 (Qby R.bs),.int .i64 k]
theorem Rdr.o_ne (R:Rdr) (k:Nat):R.o k≠.none:=by simp[Rdr.o]
def Qf (ns:List Int):List (List C):=ns.map fun n=>[.int .i64 n]
theorem Qe (ns:List Int):(Qf ns).length=ns.length:=by simp[Qf]
theorem Qs (ns:List Int) (i:Nat) (h:i<ns.length):(Qf ns).getD i []=[.int .i64 (ns.getD i 0)]:=by
 simp[Qf,List.getD_eq_getElem?_getD,h]
theorem Qb7 (a b:List Int):Qf (a++b)=Qf a++Qf b:=by simp[Qf]
theorem Qv (ns:List Int):∀r∈Qf ns,noOw r=true:=by
 intro r hr;simp[Qf]at hr;obtain⟨n,_,rfl⟩:=hr;rfl
def Qbe (ss:List (List UInt8)):List (List C):=ss.map fun s=>[.str s]
theorem Qaq (ss:List (List UInt8)):(Qbe ss).length=ss.length:=by simp[Qbe]
theorem Qfw (ss:List (List UInt8)) (i:Nat) (h:i<ss.length):(Qbe ss).getD i []=[.str (ss.getD i [])]:=by
 simp[Qbe,List.getD_eq_getElem?_getD,h]
theorem Qad8:Qbe []=[]:=rfl
theorem Qax8 (a:List (List UInt8)) (n:List UInt8):Qbe a++[[.str n]]=Qbe (a++[n]):=by simp[Qbe]
theorem Qjj (ns:List (List UInt8)):∀r∈Qbe ns,noOw r=true:=by
 intro r hr;simp[Qbe]at hr;obtain⟨n,_,rfl⟩:=hr;rfl
theorem noOw_mem {rows:List (List C)} (h:∀r∈rows,noOw r=true):∀r∈rows,∀c∈r,c.isOw=false:=fun r hr c hc=>by
 have:=h r hr
 simp only[noOw,List.all_eq_true]at this
 simpa using this c hc
theorem Qa9y {a b:List (List C)} (ha:∀r∈a,noOw r=true) (hb:∀r∈b,noOw r=true):∀r∈a++b,noOw r=true:=fun r hr=>by
 rcases List.mem_append.1 hr with h|h
 ·exact ha r h
 ·exact hb r h
inductive Ex where
 |mk (op n:Int) (name:List UInt8) (kids:List Ex)
def Ex.op:Ex→Int|.mk op _ _ _=>op
def Ex.n:Ex→Int|.mk _ n _ _=>n
def Ex.name:Ex→List UInt8|.mk _ _ s _=>s
def Ex.kids:Ex→List Ex|.mk _ _ _ k=>k
mutual
def Ex.cells:Ex→List C
 |.mk op n name kids=>[.int .i64 op,.int .i64 n,.str name,.sl false 4 (Qbo kids)]
def Qbo:List Ex→List (List C)
 |[]=>[]
 |x::r=>x.cells::Qbo r
end
theorem Ex.cells_eq (x:Ex):x.cells=[.int .i64 x.op,.int .i64 x.n,.str x.name,.sl false 4 (Qbo x.kids)]:=by
 cases x;simp[Ex.cells,Ex.op,Ex.n,Ex.name,Ex.kids]
theorem Qri (l:List Ex):Qbo l=l.map Ex.cells:=by
 induction l with
 |nil=>simp[Qbo]
 |cons x r ih=>simp[Qbo,ih]
theorem Qa2 (l:List Ex):(Qbo l).length=l.length:=by simp[Qri]
theorem Qdm (l:List Ex) (i:Nat) (h:i<l.length):(Qbo l).getD i []=(l[i]'h).cells:=by
 simp[Qri,List.getD_eq_getElem?_getD,h]
theorem Qazv (a:List Ex) (x:Ex):Qbo a++[x.cells]=Qbo (a++[x]):=by simp[Qri]
theorem Ex.noOw (x:Ex):Go.AE.noOw x.cells=true:=by rw[x.cells_eq];rfl
theorem Qhe (l:List Ex):∀r∈Qbo l,Go.AE.noOw r=true:=by
 intro r hr;rw[Qri]at hr;obtain⟨x,_,rfl⟩:=List.mem_map.1 hr;exact x.noOw
theorem Ex.cells_len (x:Ex):x.cells.length=4:=by rw[x.cells_eq];rfl
mutual
def Ex.size:Ex→Nat
 |.mk _ _ _ kids=>1+Qaf kids
def Qaf:List Ex→Nat
 |[]=>0
 |x::r=>x.size+Qaf r
end
mutual
def Ex.ok:Ex→Prop
 |.mk op _ _ kids=>(op=10→kids.length=2)∧Qda kids
def Qda:List Ex→Prop
 |[]=>True
 |x::r=>x.ok∧Qda r
end
theorem Q2n {l:List Ex} (h:Qda l):∀x∈l,x.ok:=by
 induction l with
 |nil=>simp
 |cons y r ih=>
  simp only[Qda]at h
  intro x hx
  rcases List.mem_cons.1 hx with rfl|hx
  ·exact h.1
  ·exact ih h.2 x hx
theorem Qa3k {a b:List Ex} (ha:Qda a) (hb:Qda b):Qda (a++b):=by
 induction a with
 |nil=>exact hb
 |cons x r ih=>simp only[Qda]at ha;exact⟨ha.1,ih ha.2⟩
theorem Qpx (a b:List Ex):Qaf (a++b)=Qaf a+Qaf b:=by
 induction a with
 |nil=>simp[Qaf]
 |cons x r ih=>simp[Qaf,ih];omega
theorem Ex.size_pos (x:Ex):1≤x.size:=by cases x;simp[Ex.size]
theorem Qdn {l:List Ex} {x:Ex} (h:x∈l):x.size≤Qaf l:=by
 induction l with
 |nil=>simp at h
 |cons y r ih=>
  simp only[Qaf]
  rcases List.mem_cons.1 h with rfl|h
  ·omega
  ·have:=ih h;omega
theorem Ex.size_kids (x:Ex):x.size=1+Qaf x.kids:=by cases x;simp[Ex.size,Ex.kids]
theorem Ex.ok_kids {x:Ex} (h:x.ok):Qda x.kids:=by cases x;simp only[Ex.ok]at h;exact h.2
theorem Ex.ok_and {x:Ex} (h:x.ok) (h1:x.op=10):x.kids.length=2:=by cases x;simp only[Ex.ok]at h;exact h.1 h1
theorem Ex.frz {H:Heap} {S:Nat→Bool} {fl:Bool} (x:Ex):FrzV H S (.ag [.int .i64 x.op,.int .i64 x.n,.str x.name,.sl fl 4 (Qbo x.kids)]) (.ag x.cells):=by
 rw[x.cells_eq]
 exact (FrzL.cons (Qg rfl) (FrzL.cons (Qg rfl) (FrzL.cons (Qg rfl) (FrzL.cons (Qaem (noOw_mem (Qhe _))) FrzL.nil)))).ag
end Go.AE.Y

namespace Go.AE.Y
variable {H:Heap} {S:Nat→Bool}
inductive FrzR (H:Heap) (S:Nat→Bool):List (List C)→List (List C)→Prop
 |nil:FrzR H S [] []
 |cons {r r':List C} {l l':List (List C)} (h:FrzL H S r r') (t:FrzR H S l l'):FrzR H S (r::l) (r'::l')
theorem FrzR.spec {l l':List (List C)} (h:FrzR H S l l'):l'.length=l.length∧∀(i:Nat) (r r':List C),l[i]? = some r→l'[i]? = some r'→FrzL H S r r':=by
 induction h with
 |nil=>exact⟨rfl,fun j c c' h=>by simp at h⟩
 |cons h t ih=>
  refine⟨by simp[ih.1],fun j c c' h1 h2=>?_⟩
  cases j with
  |zero=>simp at h1 h2;subst h1;subst h2;exact h
  |succ j=>simp at h1 h2;exact ih.2 j c c' h1 h2
theorem FrzR.sl {fl:Bool} {sz:Nat} {l l':List (List C)} (h:FrzR H S l l'):FrzC H S (.sl fl sz l) (.sl false sz l'):=
 .sl fl sz l l' h.spec.1 (fun i r r' h1 h2=>(h.spec.2 i r r' h1 h2).spec.1) fun i r r' j c c' h1 h2 h3 h4=>(h.spec.2 i r r' h1 h2).spec.2 j c c' h3 h4
theorem FrzR.vsl {l sz n:Nat} {rows rows':List (List C)} (hS:S l=true) (hH:H l=.vec sz rows) (hn:n=rows.length) (h:FrzR H S rows rows'):FrzC H S (.vsl l sz 0 n) (.sl false sz rows'):=by
 subst hn
 exact .vsl l sz 0 rows.length rows rows rows' hS hH (by omega) (by simp) h.spec.1 (fun i r r' h1 h2=>(h.spec.2 i r r' h1 h2).spec.1) fun i r r' j c c' h1 h2 h3 h4=>(h.spec.2 i r r' h1 h2).spec.2 j c c' h3 h4
end Go.AE.Y
namespace Go.AE
open Go.AE.Y
variable {H:Heap} {S:Nat→Bool}
theorem FrzL.same {l:List C} (h:noOw l=true):FrzL H S l l:=by
 induction l with
 |nil=>exact .nil
 |cons c r ih=>
  simp only[noOw,List.all_cons,Bool.and_eq_true,Bool.not_eq_true']at h ih
  exact .cons (.same _ h.1) (ih (by simpa using h.2))
end Go.AE
namespace Go.AE.Y
variable {H:Heap} {S:Nat→Bool}
theorem FrzR.same {l:List (List C)} (h:∀r∈l,noOw r=true):FrzR H S l l:=by
 induction l with
 |nil=>exact .nil
 |cons c r ih=>exact .cons (.same (h _ List.mem_cons_self)) (ih fun x hx=>h x (List.mem_cons_of_mem _ hx))
theorem FrzR.app {a a' b b':List (List C)} (h:FrzR H S a a') (k:FrzR H S b b'):FrzR H S (a++b) (a'++b'):=by
 induction h with
 |nil=>exact k
 |cons h t ih=>exact .cons h ih
inductive Sl (H:Heap) (S:Nat→Bool) (sz:Nat) (rows:List (List C)):C→Prop
 |sl (fl:Bool):Sl H S sz rows (.sl fl sz rows)
 |vsl (l n:Nat) (hS:S l=true) (hH:H l=.vec sz rows) (hn:n=rows.length):Sl H S sz rows (.vsl l sz 0 n)
theorem Sl.frz {sz:Nat} {rows:List (List C)} {c:C} (h:Sl H S sz rows c) (hr:∀r∈rows,noOw r=true):FrzC H S c (.sl false sz rows):=by
 cases h with
 |sl fl=>exact (FrzR.same hr).sl
 |vsl l n h1 h2 h3=>exact (FrzR.same hr).vsl h1 h2 h3
end Go.AE.Y
namespace Go.AE
open Go.AE.Y
variable {H:Heap} {S:Nat→Bool}
theorem Upd.set2 {H H':Heap} {a b:Nat} {oa ob o:Obj} (h:Upd H H' [(a,oa),(b,ob)]) (hn:a≠b):Upd H (H'.set b o) [(a,oa),(b,o)]:=by
 refine⟨fun p hp=>?_,fun m hm hx=>?_⟩
 ·simp at hp
  rcases hp with rfl|rfl
  ·show (H'.set b o) a=oa
   rw[Heap.set_other _ _ hn];exact h.1 (a,oa) (by simp)
  ·exact Heap.set_same _ _ _
 ·have:m≠b:=by simp at hx;exact hx.2
  rw[Heap.set_other _ _ this];exact h.2 m hm (by simpa using hx)
end Go.AE
namespace Go.AE.Y
variable {H:Heap} {S:Nat→Bool}
inductive St where
 |mk (op:Int) (name:List UInt8) (args:List Ex) (body els:List St)
def St.op:St→Int|.mk op _ _ _ _=>op
def St.name:St→List UInt8|.mk _ s _ _ _=>s
def St.args:St→List Ex|.mk _ _ a _ _=>a
def St.body:St→List St|.mk _ _ _ b _=>b
def St.els:St→List St|.mk _ _ _ _ e=>e
mutual
def St.cells:St→List C
 |.mk op name args body els=>[.int .i64 op,.str name,.sl false 4 (Qbo args),.sl false 5 (Qaz body),.sl false 5 (Qaz els)]
def Qaz:List St→List (List C)
 |[]=>[]
 |x::r=>x.cells::Qaz r
end
theorem St.cells_eq (x:St):x.cells=[.int .i64 x.op,.str x.name,.sl false 4 (Qbo x.args),.sl false 5 (Qaz x.body),.sl false 5 (Qaz x.els)]:=by
 cases x;simp[St.cells,St.op,St.name,St.args,St.body,St.els]
theorem Que (l:List St):Qaz l=l.map St.cells:=by
 induction l with
 |nil=>simp[Qaz]
 |cons x r ih=>simp[Qaz,ih]
theorem Qa6 (l:List St):(Qaz l).length=l.length:=by simp[Que]
theorem Qdz (l:List St) (i:Nat) (h:i<l.length):(Qaz l).getD i []=(l[i]'h).cells:=by
 simp[Que,List.getD_eq_getElem?_getD,h]
theorem Q9a (a b:List St):Qaz a++Qaz b=Qaz (a++b):=by simp[Que]
theorem St.noOw (x:St):Go.AE.noOw x.cells=true:=by rw[x.cells_eq];rfl
theorem Qe4 (l:List St):∀r∈Qaz l,Go.AE.noOw r=true:=by
 intro r hr;rw[Que]at hr;obtain⟨x,_,rfl⟩:=List.mem_map.1 hr;exact x.noOw
theorem St.cells_len (x:St):x.cells.length=5:=by rw[x.cells_eq];rfl
mutual
def St.size:St→Nat
 |.mk _ _ args body els=>1+Qaf args+Qy body+Qy els
def Qy:List St→Nat
 |[]=>0
 |x::r=>x.size+Qy r
end
mutual
def St.ok:St→Prop
 |.mk _ _ args body els=>0<args.length∧Qda args∧Qcl body∧Qcl els
def Qcl:List St→Prop
 |[]=>True
 |x::r=>x.ok∧Qcl r
end
theorem Qa7u {l:List St} (h:Qcl l):∀x∈l,x.ok:=by
 induction l with
 |nil=>simp
 |cons y r ih=>
  simp only[Qcl]at h
  intro x hx
  rcases List.mem_cons.1 hx with rfl|hx
  ·exact h.1
  ·exact ih h.2 x hx
theorem Q9b {a b:List St} (ha:Qcl a) (hb:Qcl b):Qcl (a++b):=by
 induction a with
 |nil=>exact hb
 |cons x r ih=>simp only[Qcl]at ha;exact⟨ha.1,ih ha.2⟩
theorem Qfx (a b:List St):Qy (a++b)=Qy a+Qy b:=by
 induction a with
 |nil=>simp[Qy]
 |cons x r ih=>simp[Qy,ih];omega
theorem St.size_eq (x:St):x.size=1+Qaf x.args+Qy x.body+Qy x.els:=by cases x;simp[St.size,St.args,St.body,St.els]
theorem St.ok_eq (x:St):x.ok=(0<x.args.length∧Qda x.args∧Qcl x.body∧Qcl x.els):=by cases x;simp[St.ok,St.args,St.body,St.els]
theorem Qjk {l:List St} {x:St} (h:x∈l):x.size≤Qy l:=by
 induction l with
 |nil=>simp at h
 |cons y r ih=>
  simp only[Qy]
  rcases List.mem_cons.1 h with rfl|h
  ·omega
  ·have:=ih h;omega
structure Fn where
 name:List UInt8
 params:List (List UInt8)
 body:List St
def Fn.cells (f:Fn):List C:=[.str f.name,.sl false 1 (Qbe f.params),.sl false 5 (Qaz f.body)]
def Qb2 (l:List Fn):List (List C):=l.map Fn.cells
theorem Qbc (l:List Fn):(Qb2 l).length=l.length:=by simp[Qb2]
theorem Qe1 (l:List Fn) (i:Nat) (h:i<l.length):(Qb2 l).getD i []=(l[i]'h).cells:=by
 simp[Qb2,List.getD_eq_getElem?_getD,h]
theorem Qac7 (a:List Fn) (x:Fn):Qb2 a++[x.cells]=Qb2 (a++[x]):=by simp[Qb2]
theorem Fn.noOw (x:Fn):Go.AE.noOw x.cells=true:=rfl
theorem Fn.cells_len (x:Fn):x.cells.length=3:=rfl
theorem Qac6 (l:List Fn):∀r∈Qb2 l,Go.AE.noOw r=true:=by
 intro r hr;obtain⟨x,_,rfl⟩:=List.mem_map.1 hr;exact x.noOw
structure GS where
 fns:List Fn
 ffl:C×List (Nat×Obj)
 vars:List (List UInt8)
 vfl:Bool
 next:Int
 left:Int
def GS.o (s:GS) (R:Rdr):Obj:=.st [.ptr R.l 0,s.ffl.1,.sl s.vfl 1 (Qbe s.vars),.int .i64 s.next,.int .i64 s.left]
theorem GS.o_ne (s:GS) (R:Rdr):s.o R≠.none:=by simp[GS.o]
structure GS.ok (s:GS) (k:Nat):Prop where
 n0:-1≤s.next
 n1:s.next≤k+10
 l0:-(4 * (k:Int)+10)≤s.left
 l1:s.left≤100
 v:s.vars.length≤k+10
 f:∀f∈s.fns,f.params.length≤3
 fn:s.fns.length≤3
theorem GS.ok.mono {s:GS} {k k':Nat} (h:s.ok k) (hk:k≤k'):s.ok k':=
 ⟨h.n0,by have:=h.n1;omega,by have:=h.l0;omega,h.l1,by have:=h.v;omega,h.f,h.fn⟩
end Go.AE.Y

namespace Go.AE
variable {H0 H H':Heap} {E L B:List (Nat×Obj)}
theorem Upd.drop2 {H H':Heap} {a b:Nat} {oa ob:Obj} (h:Upd H H' [(a,oa),(b,ob)]) (hb:H b=ob):Upd H H' [(a,oa)]:=by
 refine⟨fun p hp=>h.1 p (by simp at hp;subst hp;simp),fun m hm hx=>?_⟩
 by_cases hmb:m=b
 ·subst hmb;rw[hb];exact h.1 (m,ob) (by simp)
 ·exact h.2 m hm (by simp at hx⊢;exact⟨hx,hmb⟩)
theorem Kn.perm {L':List (Nat×Obj)} (h:Kn H0 H E L) (hp:L.Perm L'):Kn H0 H E L':=
 ⟨fun p hp'=>h.get p (by
   rcases List.mem_append.1 hp' with a|a
   ·exact List.mem_append_left _ a
   ·exact List.mem_append_right _ (hp.mem_iff.2 a)),h.ext,fun p hp'=>h.loc p (hp.mem_iff.2 hp'),h.dE,(hp.map Prod.fst).nodup_iff.1 h.dL,h.chg⟩
def Gr (Lg:List (Nat×Obj)) (sz:Nat) (rows:List (List C)) (c:C):Prop:=
 (c=.sl true sz []∧rows=[]∧Lg=[])∨∃y,c=.vsl y sz 0 rows.length∧Lg=[(y,.vec sz rows)]
theorem Gr.nil (sz:Nat):Gr [] sz [] (.sl true sz []):=.inl ⟨rfl,rfl,rfl⟩
theorem Gr.mk (y sz:Nat) (rows:List (List C)) {n:Nat} (hn:n=rows.length):Gr [(y,.vec sz rows)] sz rows (.vsl y sz 0 n):=.inr ⟨y,by rw[hn],rfl⟩
variable {sz:Nat} {rows:List (List C)} {c:C} {Lg:List (Nat×Obj)}
theorem Gr.isOw (h:Gr Lg sz rows c):c.isOw=false:=by rcases h with ⟨rfl,_⟩|⟨y,rfl,_⟩ <;> rfl
theorem Gr.elemSz (h:Gr Lg sz rows c):c.elemSz=sz:=by rcases h with ⟨rfl,_⟩|⟨y,rfl,_⟩ <;> rfl
theorem Gr.lenC (h:Gr Lg sz rows c):lenC c=rows.length:=by
 rcases h with ⟨rfl,rfl,_⟩|⟨y,rfl,_⟩ <;> rfl
theorem Gr.get (h:Gr Lg sz rows c) (kn:Kn H0 H E (B++Lg)):okSl H c∧rowsOf H c=rows:=by
 rcases h with ⟨rfl,rfl,_⟩|⟨y,rfl,rfl⟩
 ·exact⟨trivial,rfl⟩
 ·have hy:H y=.vec sz rows:=(kn.get (y,.vec sz rows) (by simp)).1
  refine⟨?_,?_⟩
  ·simp[okSl,hy]
  ·simp[rowsOf,hy]
theorem Gr.okSl (h:Gr Lg sz rows c) (kn:Kn H0 H E (B++Lg)):Go.AE.okSl H c:=(h.get kn).1
theorem Gr.rowsOf (h:Gr Lg sz rows c) (kn:Kn H0 H E (B++Lg)):Go.AE.rowsOf H c=rows:=(h.get kn).2
theorem Gr.frz (h:Gr Lg sz rows c) (kn:Kn H0 H E (B++Lg)) (hr:∀r∈rows,noOw r=true):FrzC H (un H0) c (.sl false sz rows):=by
 rcases h with ⟨rfl,rfl,_⟩|⟨y,rfl,rfl⟩
 ·exact Y.FrzR.nil.sl
 ·exact (Y.FrzR.same hr).vsl (Qd0 (kn.loc (y,.vec sz rows) (by simp))) (kn.get (y,.vec sz rows) (by simp)).1 rfl
theorem Gr.frzR {rows':List (List C)} (h:Gr Lg sz rows c) (kn:Kn H0 H E (B++Lg)) (hr:Y.FrzR H (un H0) rows rows'):FrzC H (un H0) c (.sl false sz rows'):=by
 rcases h with ⟨rfl,rfl,_⟩|⟨y,rfl,rfl⟩
 ·cases hr;exact Y.FrzR.nil.sl
 ·exact hr.vsl (Qd0 (kn.loc (y,.vec sz rows) (by simp))) (kn.get (y,.vec sz rows) (by simp)).1 rfl
structure Slc (H:Heap) (sz:Nat) (rws:List (List C)) (b:C):Prop where
 ok:okSl H b
 sz:b.elemSz=sz
 rows:rowsOf H b=rws
 len:Go.AE.lenC b=rws.length
theorem Slc.mk' (H:Heap) (fl:Bool) (sz:Nat) (rows:List (List C)):Slc H sz rows (.sl fl sz rows):=⟨trivial,rfl,rfl,rfl⟩
theorem Kn.grow {K:V→Heap→Prop} {new:List (List C)} {b:C} (kn:Kn H0 H E (B++Lg)) (hc:Gr Lg sz rows c) (hb:Slc H sz new b)
  (h1:∀r∈new,noOw r=true) (h2:rows.length+new.length≤LIM)
  (h:∀y' H',Kn H0 H' E (B++[(y',.vec sz (rows++new))])→K (.c (.vsl y' sz 0 (rows.length+new.length))) H'):appQ H sz c b K:=by
 refine⟨hb.ok,hb.sz,?_⟩
 rcases hc with ⟨rfl,rfl,rfl⟩|⟨y,rfl,rfl⟩
 ·simp only[hb.rows,hb.len,List.nil_append,List.length_nil,Nat.zero_add]
  refine⟨trivial,.inl trivial,h1,by simpa using h2,fun l hl H' hH'=>?_⟩
  rw[List.append_nil]at kn
  have:=h l H' (by simpa using kn.al hl hH')
  simpa using this
 ·have hy:H y=.vec sz rows:=(kn.get (y,.vec sz rows) (by simp)).1
  simp only[hy,hb.rows,hb.len,List.drop_zero,List.take_length]
  refine⟨trivial,trivial,by omega,h1,h2,fun l' hl' H' hH'=>?_⟩
  refine h l' H' ?_
  have:=kn.ap B.length (y:=y) (o:=.vec sz rows) (by simp) hl' hH'
  simpa using this
end Go.AE
namespace Go.AE.Y
variable {H H':Heap} {R:Rdr} {gl:Nat} {s s':GS} {L:List (Nat×Obj)} {o q:Obj}
def FnsOk (H:Heap) (R:Rdr) (gl:Nat) (s:GS):Prop:=Gr s.ffl.2 3 (Qb2 s.fns) s.ffl.1∧∀p∈s.ffl.2,H p.1=p.2∧p.1≠R.l∧p.1≠gl
theorem FnsOk.keep (h:FnsOk H R gl s) (kn:Kn H H' [(R.l,o),(gl,q)] L) (h1:s'.fns=s.fns) (h2:s'.ffl=s.ffl):FnsOk H' R gl s':=by
 refine⟨by rw[h1,h2];exact h.1,fun p hp=>?_⟩
 rw[h2]at hp
 obtain⟨a1,a2,a3⟩:=h.2 p hp
 refine⟨?_,a2,a3⟩
 have hn:p.2≠.none:=by
  rcases h.1 with ⟨_,_,hx⟩|⟨y,_,hx⟩
  ·rw[hx]at hp;simp at hp
  ·rw[hx]at hp;simp at hp;subst hp;simp
 rw[kn.chg p.1 (by rw[a1];exact hn) (by simp[a2,a3]),a1]
theorem FnsOk.rd (h:FnsOk H R gl s):okSl H s.ffl.1=True∧rowsOf H s.ffl.1=Qb2 s.fns:=by
 rcases h.1 with ⟨h1,h2,h3⟩|⟨y,h1,h3⟩
 ·rw[h1,h2];exact⟨rfl,rfl⟩
 ·have hy:H y=.vec 3 (Qb2 s.fns):=(h.2 (y,.vec 3 (Qb2 s.fns)) (by rw[h3];simp)).1
  rw[h1];exact⟨by simp[okSl,hy],by simp[rowsOf,hy]⟩
theorem FnsOk.ok (h:FnsOk H R gl s) (kn:Kn H H' [(R.l,o),(gl,q)] L):okSl H' s.ffl.1=True:=(h.keep kn rfl rfl).rd.1
theorem FnsOk.rows (h:FnsOk H R gl s) (kn:Kn H H' [(R.l,o),(gl,q)] L):rowsOf H' s.ffl.1=Qb2 s.fns:=(h.keep kn rfl rfl).rd.2
theorem FnsOk.len (h:FnsOk H R gl s):lenC s.ffl.1=s.fns.length:=by rw[h.1.lenC,Qbc]
theorem FnsOk.esz (h:FnsOk H R gl s):s.ffl.1.elemSz=3:=h.1.elemSz
theorem FnsOk.ow (h:FnsOk H R gl s):s.ffl.1.isOw=false:=h.1.isOw
end Go.AE.Y

namespace Go.AE
variable {H0 H H':Heap} {E L B E0 L0 Lg:List (Nat×Obj)}
def New (H H':Heap) (N:List (Nat×Obj)):Prop:=∀p∈N,H p.1=.none∧H' p.1=p.2
theorem Kn.add1 (kn0:Kn H0 H E0 L0) (kn:Kn H0 H' E L) (hE:E.map Prod.fst=E0.map Prod.fst) (hL:L.map Prod.fst=L0.map Prod.fst) {x:Nat} {o:Obj} (hx:H x=.none) (hx':H' x=o) (ho:o≠.none):Kn H0 H' E (L++[(x,o)]):=by
 obtain⟨h1,h2,h3⟩:=kn0.newFree hx
 refine⟨fun p hp=>?_,kn.ext,fun p hp=>?_,kn.dE,?_,kn.chg⟩
 ·rw[←List.append_assoc]at hp
  rcases List.mem_append.1 hp with hp|hp
  ·exact kn.get p hp
  ·simp at hp;subst hp;exact⟨hx',ho⟩
 ·rcases List.mem_append.1 hp with hp|hp
  ·exact kn.loc p hp
  ·simp at hp;subst hp;exact h1
 ·rw[List.map_append]
  refine List.nodup_append.2 ⟨kn.dL,by simp,fun a ha b hb=>?_⟩
  simp at hb;subst hb;rw[hL]at ha;exact fun hh=>h3 (hh▸ha)
theorem Kn.addGr {sz:Nat} {rows:List (List C)} {c:C} (kn0:Kn H0 H E0 L0) (kn:Kn H0 H' E L) (hE:E.map Prod.fst=E0.map Prod.fst) (hL:L.map Prod.fst=L0.map Prod.fst) (hg:Gr Lg sz rows c) (hn:New H H' Lg):Kn H0 H' E (L++Lg):=by
 rcases hg with ⟨_,_,rfl⟩|⟨y,_,rfl⟩
 ·simpa using kn
 ·obtain⟨h1,h2⟩:=hn (y,.vec sz rows) (by simp)
  exact kn0.add1 kn hE hL h1 h2 (by simp)
def unx (H:Heap) (Lg:List (Nat×Obj)) (m:Nat):Bool:=un H m&&!(Lg.map Prod.fst).contains m
theorem Qazi {m:Nat} (h:H m≠.none):unx H Lg m=false:=by simp[unx,Qaya h]
theorem Qbdy {p:Nat×Obj} (h:p∈Lg):unx H Lg p.1=false:=by
 have:p.1∈Lg.map Prod.fst:=Qak h
 simp only[unx,Bool.and_eq_false_iff,Bool.not_eq_false']
 exact .inr (List.contains_iff_mem.2 this)
theorem Kn.unx (hk:Kn H0 H E (B++Lg)) {p:Nat×Obj} (h:p∈B):Go.AE.unx H0 Lg p.1=true:=by
 have h1:=hk.loc p (List.mem_append_left _ h)
 have h2:p.1∉Lg.map Prod.fst:=fun hh=>by
  have:=hk.dL
  rw[List.map_append]at this
  exact (List.nodup_append.1 this).2.2 _ (Qak h) _ hh rfl
 simp only[Go.AE.unx,Qd0 h1,Bool.true_and,Bool.not_eq_true',Bool.eq_false_iff]
 intro hh
 exact h2 (List.contains_iff_mem.1 hh)
theorem Kn.finx (hk:Kn H0 H E (B++Lg)):Upd H0 (H.frz (Go.AE.unx H0 Lg)) E∧New H0 (H.frz (Go.AE.unx H0 Lg)) Lg:=by
 refine⟨⟨fun p hp=>?_,fun m hm hn=>?_⟩,fun p hp=>⟨hk.loc p (List.mem_append_right _ hp),?_⟩⟩
 ·have:H.frz (Go.AE.unx H0 Lg) p.1=H p.1:=by simp[Heap.frz,Qazi (hk.ext p hp)]
  rw[this];exact (hk.get p (List.mem_append_left _ hp)).1
 ·have:H.frz (Go.AE.unx H0 Lg) m=H m:=by simp[Heap.frz,Qazi hm]
  rw[this];exact hk.chg m hm hn
 ·have:H.frz (Go.AE.unx H0 Lg) p.1=H p.1:=by simp only[Heap.frz];rw[Qbdy hp];rfl
  rw[this];exact (hk.get p (List.mem_append_right _ (List.mem_append_right _ hp))).1
end Go.AE
namespace Go.AE.Y
theorem Qeg {b:Bool} (h:(!b)=false):b=true:=by simpa using h
theorem Qrw {b:Bool} (h:(!b)=true):b=false:=by simpa using h
theorem Ex.ne_nil (x:Ex):(x.cells=[])=False:=by rw[x.cells_eq];simp
theorem St.ne_nil (x:St):(x.cells=[])=False:=by rw[x.cells_eq];simp
theorem Fn.ne_nil (x:Fn):(x.cells=[])=False:=by simp[Fn.cells]
theorem Ex.take4 (x:Ex):x.cells.take 4=x.cells:=List.take_of_length_le (by rw[x.cells_len];omega)
theorem Ex.allOw (x:Ex):(x.cells.all fun c=>!c.isOw)=true:=x.noOw
theorem St.take5 (x:St):x.cells.take 5=x.cells:=List.take_of_length_le (by rw[x.cells_len];omega)
theorem St.allOw (x:St):(x.cells.all fun c=>!c.isOw)=true:=x.noOw
theorem Fn.take3 (x:Fn):x.cells.take 3=x.cells:=List.take_of_length_le (by rw[x.cells_len];omega)
theorem Fn.allOw (x:Fn):(x.cells.all fun c=>!c.isOw)=true:=x.noOw
end Go.AE.Y

namespace Go.AE
variable {H0 H H':Heap} {E L B A:List (Nat×Obj)} {P:Program}
theorem c_gh {b:SC} {Q:X→Env→Heap→Prop} {e e':Env} (h:Qbbr e H e' H') (hb:Qac P b Q e' H'):Qac P (.seq .gh b) Q e H:=⟨e',H',h,hb⟩
theorem Kn.drop (kn:Kn H0 H E (A++B)):Kn H0 H E A:=
 ⟨fun p hp=>kn.get p (by
   rcases List.mem_append.1 hp with h|h
   ·exact List.mem_append_left _ h
   ·exact List.mem_append_right _ (List.mem_append_left _ h)),kn.ext,fun p hp=>kn.loc p (List.mem_append_left _ hp),kn.dE,by
   have:=kn.dL;rw[List.map_append]at this;exact (List.nodup_append.1 this).1,kn.chg⟩
theorem Kn.freeze {z gl:Nat} {o og og':Obj} (kn:Kn H0 H E (B++[(z,o)])) (i:Nat) (hB:B[i]? = some (gl,og)) (hO:FrzO H (fun m=>m == z) og og') (hn:og'≠.none) :
  FrzH H (fun m=>m == z) ((H.frz fun m=>m == z).set gl og')∧Kn H0 ((H.frz fun m=>m == z).set gl og') E (B.set i (gl,og')):=by
 have hzf:H0 z=.none:=kn.loc (z,o) (by simp)
 have hnd:=kn.dL
 rw[List.map_append]at hnd
 have hne:∀p∈B,p.1≠z:=fun p hp hh=>(List.nodup_append.1 hnd).2.2 _ (Qak hp) z (by simp) hh
 have hneE:∀p∈E,p.1≠z:=fun p hp hh=>kn.ext p hp (hh▸hzf)
 have hgl:=hne _ (List.mem_of_getElem? hB)
 have hH:H gl=og:=(kn.get (gl,og) (List.mem_append_right _ (List.mem_append_left _ (List.mem_of_getElem? hB)))).1
 refine⟨(Qew _ _).set (by simpa using hgl) (by rw[hH];exact hO),?_⟩
 have kn1:Kn H0 (H.frz fun m=>m == z) E B:=by
  refine⟨fun p hp=>?_,kn.ext,fun p hp=>kn.loc p (List.mem_append_left _ hp),kn.dE,(List.nodup_append.1 hnd).1,fun m hm hx=>?_⟩
  ·have:p.1≠z:=by
    rcases List.mem_append.1 hp with h|h
    ·exact hneE p h
    ·exact hne p h
   have h2:(H.frz fun m=>m == z) p.1=H p.1:=by simp[Heap.frz,this]
   rw[h2]
   refine kn.get p ?_
   rcases List.mem_append.1 hp with h|h
   ·exact List.mem_append_left _ h
   ·exact List.mem_append_right _ (List.mem_append_left _ h)
  ·have:m≠z:=fun h=>hm (h▸hzf)
   have h2:(H.frz fun m=>m == z) m=H m:=by simp[Heap.frz,this]
   rw[h2];exact kn.chg m hm hx
 exact kn1.setL i hB hn
theorem Kn.callEL (hk:Kn H0 H E L) (i j:Nat) {l m:Nat} {o o' q q':Obj} (h:E[i]? = some (l,o)) (h2:L[j]? = some (m,q)) (hu:Upd H H' [(l,o'),(m,q')]) (ho:o'≠.none) (hq:q'≠.none) :
  Kn H0 H' (E.set i (l,o')) (L.set j (m,q')):=by
 refine hk.callg hu (Qbs h) (Qbs h2) (fun p hp=>?_) (fun u hu=>?_)
 ·rcases List.mem_append.1 hp with hp|hp
  ·rcases Qba hp with rfl|⟨b,hb,hp⟩
   ·exact⟨ho,.inl (by simp)⟩
   ·have hm:=List.mem_append_left L (List.mem_of_getElem? hp)
    refine⟨(hk.get p hm).2,.inr ⟨hm,?_⟩⟩
    simp only[List.map_cons,List.map_nil,List.mem_cons,List.not_mem_nil,or_false,not_or]
    exact⟨fun hh=>hb (Qb9 hk.dE hp h hh),fun hh=>hk.ext p (List.mem_of_getElem? hp) (hh▸hk.free j h2)⟩
  ·rcases Qba hp with rfl|⟨b,hb,hp⟩
   ·exact⟨hq,.inl (by simp)⟩
   ·have hm:=List.mem_append_right E (List.mem_of_getElem? hp)
    refine⟨(hk.get p hm).2,.inr ⟨hm,?_⟩⟩
    simp only[List.map_cons,List.map_nil,List.mem_cons,List.not_mem_nil,or_false,not_or]
    exact⟨fun hh=>hk.usedE i h (hh▸hk.loc p (List.mem_of_getElem? hp)),fun hh=>hb (Qb9 hk.dL hp h2 hh)⟩
 ·simp at hu
  rcases hu with rfl|rfl
  ·exact .inl (Qak (p:=(l,o)) (List.mem_of_getElem? h))
  ·exact .inr (Qak (p:=(m,q)) (List.mem_of_getElem? h2))
end Go.AE

namespace Go.AE.Y
structure Blk where
 ic:C
 irows:List (List C)
 lg:List (Nat×Obj)
 jump:Int
 on:Int
 nfl:Bool
 next:List Int
def Blk.row (b:Blk):List C:=[.sl true 2 [],b.ic,.int .i64 b.jump,.int .i64 b.on,.sl b.nfl 1 (Qf b.next)]
structure LS where
 fns:List Fn
 pfl:Bool
 params:Int
 regs:Int
 bc:C
 lb:List (Nat×Obj)
 blocks:List Blk
 at_:Nat
 vc:C
 lv:List (Nat×Obj)
 vars:List (List C)
 next:Int
def LS.o (s:LS):Obj:=.st [.sl s.pfl 3 (Qb2 s.fns),.int .i64 s.params,.int .i64 s.regs,s.bc,.int .i64 s.at_,s.vc,.int .i64 s.next,.sl true 1 []]
def LS.L (s:LS) (w:Nat):List (Nat×Obj):=[(w,s.o)]++(s.lb++(s.lv++s.blocks.flatMap Blk.lg))
def InsRow (r:List C):Prop:=∃(op to n:Int) (fl:Bool) (args:List Int),r=[.int .i64 op,.int .i64 to,.sl fl 1 (Qf args),.int .i64 n]
def VarRow (r:List C):Prop:=∃(s:List UInt8) (a b:Int),r=[.str s,.int .i64 a,.int .i64 b]
def VGr (lv:List (Nat×Obj)) (vars:List (List C)) (c:C):Prop:=
 (c=.sl true 3 []∧vars=[]∧lv=[])∨∃y all n,c=.vsl y 3 0 n∧n≤all.length∧vars=all.take n∧lv=[(y,.vec 3 all)]
structure LInv (F H:Heap) (w:Nat) (s:LS):Prop where
 kn:Kn F H [] (s.L w)
 gb:Gr s.lb 5 (s.blocks.map Blk.row) s.bc
 gv:VGr s.lv s.vars s.vc
 gi:∀b∈s.blocks,Gr b.lg 4 b.irows b.ic
 ri:∀b∈s.blocks,∀r∈b.irows,InsRow r
 rv:∀r∈s.vars,VarRow r
structure LS.ok (s:LS) (N:Nat):Prop where
 r0:0≤s.regs
 r1:s.regs≤N
 n0:0≤s.next
 n1:s.next≤N
 b1:s.blocks.length≤N
 i1:∀b∈s.blocks,b.irows.length≤N
 v1:s.vars.length≤N
theorem LS.ok.mono {s:LS} {N M:Nat} (h:s.ok N) (hm:N≤M):s.ok M:=
 ⟨h.r0,by have:=h.r1;omega,h.n0,by have:=h.n1;omega,by have:=h.b1;omega,fun b hb=>by have:=h.i1 b hb;omega,by have:=h.v1;omega⟩
theorem InsRow.noOw {r:List C} (h:InsRow r):Go.AE.noOw r=true:=by obtain⟨_,_,_,_,_,rfl⟩:=h;rfl
theorem VarRow.noOw {r:List C} (h:VarRow r):Go.AE.noOw r=true:=by obtain⟨_,_,_,rfl⟩:=h;rfl
theorem VGr.isOw {lv:List (Nat×Obj)} {vars:List (List C)} {c:C} (h:VGr lv vars c):c.isOw=false:=by
 rcases h with ⟨rfl,_⟩|⟨_,_,_,rfl,_⟩ <;> rfl
theorem VGr.elemSz {lv:List (Nat×Obj)} {vars:List (List C)} {c:C} (h:VGr lv vars c):c.elemSz=3:=by
 rcases h with ⟨rfl,_⟩|⟨_,_,_,rfl,_⟩ <;> rfl
theorem VGr.lenC {lv:List (Nat×Obj)} {vars:List (List C)} {c:C} (h:VGr lv vars c):Go.AE.lenC c=vars.length:=by
 rcases h with ⟨rfl,rfl,_⟩|⟨_,_,_,rfl,h,rfl,_⟩
 ·rfl
 ·simp[Go.AE.lenC];omega
variable {F H H':Heap} {w:Nat} {s:LS}
theorem LInv.hw (h:LInv F H w s):H w=s.o:=h.kn.l 0 rfl
theorem LInv.vget (h:LInv F H w s):okSl H s.vc=True∧rowsOf H s.vc=s.vars:=by
 rcases h.gv with ⟨h1,h2,_⟩|⟨y,all,n,h1,h2,h3,h4⟩
 ·rw[h1,h2];exact⟨rfl,rfl⟩
 ·have hy:H y=.vec 3 all:=(h.kn.get (y,.vec 3 all) (by simp[LS.L,h4])).1
  rw[h1]
  refine⟨eq_true ?_,?_⟩
  ·simp only[Go.AE.okSl,hy];exact⟨trivial,by omega⟩
  ·simp only[Go.AE.rowsOf,hy,List.drop_zero,h3]
theorem LInv.bvec (h:LInv F H w s) (hb:0<s.blocks.length):∃y,s.bc=.vsl y 5 0 s.blocks.length∧s.lb=[(y,.vec 5 (s.blocks.map Blk.row))]∧H y=.vec 5 (s.blocks.map Blk.row):=by
 rcases h.gb with ⟨_,h2,_⟩|⟨y,h1,h2⟩
 ·simp at h2;rw[h2]at hb;simp at hb
 ·refine⟨y,by rw[h1];simp,h2,?_⟩
  exact (h.kn.get (y,.vec 5 (s.blocks.map Blk.row)) (by simp[LS.L,h2])).1
theorem LInv.setw {s':LS} (h:LInv F H w s) (h1:H'=H.set w s'.o) (a1:s'.lb=s.lb) (a2:s'.lv=s.lv) (a3:s'.blocks=s.blocks) (a4:s'.bc=s.bc) (a5:VGr s.lv s'.vars s'.vc) (a6:∀r∈s'.vars,VarRow r):LInv F H' w s':=by
 refine⟨?_,by rw[a1,a3,a4];exact h.gb,by rw[a2];exact a5,by rw[a3];exact h.gi,by rw[a3];exact h.ri,a6⟩
 have:=h.kn.stL 0 (x:=w) (o:=s.o) rfl h1 (by simp[LS.o])
 simp only[LS.L,a1,a2,a3]
 exact this
theorem Qa93 {α:Type} {A X Y:List α}:(A++(X++Y)).Perm ((A++Y)++X):=by
 rw[List.append_assoc]
 exact .append_left _ List.perm_append_comm
theorem LInv.addBlk {K:V→Heap→Prop} {fl:Bool} {b:Blk} (h:LInv F H w s) (hl:s.blocks.length+1≤LIM) (b1:b.lg=[]) (b2:b.ic=.sl true 4 []) (b3:b.irows=[])
  (hK:∀(y:Nat) (H1:Heap),H1 w=s.o→(∀H2,H2=H1.set w (LS.o { s with bc:=.vsl y 5 0 (s.blocks.length+1) })→
   LInv F H2 w { s with bc:=.vsl y 5 0 (s.blocks.length+1),lb:=[(y,.vec 5 ((s.blocks++[b]).map Blk.row))],blocks:=s.blocks++[b] })→K (.c (.vsl y 5 0 (s.blocks.length+1))) H1) :
  appQ H 5 s.bc (.sl fl 5 [b.row]) K:=by
 have kn:=h.kn
 have kn:Kn F H [] (([(w,s.o)]++(s.lv++s.blocks.flatMap Blk.lg))++s.lb):=kn.perm Qa93
 refine kn.grow h.gb (.mk' _ _ _ _) (by
  intro r hr;simp only[List.mem_singleton]at hr;subst hr;simp only[Blk.row,b2];rfl) (by simpa using hl) fun y H1 kn=>?_
 have e1:(s.blocks.map Blk.row).length+[b.row].length=s.blocks.length+1:=by simp
 rw[e1]
 refine hK y H1 (kn.l 0 rfl) fun H2 h2=>⟨?_,?_,h.gv,?_,?_,h.rv⟩
 ·have:=kn.stL 0 (x:=w) (o:=s.o) rfl h2 (by simp[LS.o])
  simp only[LS.L,List.flatMap_append,List.flatMap_cons,List.flatMap_nil,b1,List.append_nil,List.map_append,List.map_cons,List.map_nil]
  simp only[List.cons_append,List.nil_append,List.set_cons_zero]at this⊢
  refine this.perm (.cons _ ?_)
  exact List.perm_append_comm
 ·exact .mk _ _ _ (by simp)
 ·intro b' hb'
  rcases List.mem_append.1 hb' with hb'|hb'
  ·exact h.gi b' hb'
  ·simp at hb';subst hb';rw[b1,b2,b3];exact .nil 4
 ·intro b' hb'
  rcases List.mem_append.1 hb' with hb'|hb'
  ·exact h.ri b' hb'
  ·simp at hb';subst hb';rw[b3];simp
theorem Qgu {α β:Type} (f:α→List β) (l:List α) (i:Nat) (hi:i<l.length):(l.flatMap f).Perm (f l[i]++(l.eraseIdx i).flatMap f):=by
 have h1:(l[i]::l.eraseIdx i).Perm l:=by
  rw[List.eraseIdx_eq_take_drop_succ]
  refine List.perm_middle.symm.trans ?_
  rw[←List.drop_eq_getElem_cons hi,List.take_append_drop]
 have h2:=h1.symm.flatMap_right f
 simpa using h2
theorem Qeu {α β:Type} (f:α→List β) (l:List α) (i:Nat) (x:α) (hi:i<l.length):((l.set i x).flatMap f).Perm (f x++(l.eraseIdx i).flatMap f):=by
 have:=Qgu f (l.set i x) i (by simpa using hi)
 simpa[List.eraseIdx_set_eq]using this
theorem Q3h (l:List Blk) (i:Nat) (b:Blk):(l.map Blk.row).set i b.row=(l.set i b).map Blk.row:=by rw[List.map_set]
theorem Qdr {l:List Blk} {i:Nat} {b x:Blk} (h:x∈l.set i b):x=b∨x∈l:=by
 rcases Qba h with h|⟨j,_,h⟩
 ·exact .inl h
 ·exact .inr (List.mem_of_getElem? h)
theorem LInv.setBlk {b':Blk} {y i:Nat} (h:LInv F H w s) (hi:i<s.blocks.length) (hbc:s.bc=.vsl y 5 0 s.blocks.length) (hlb:s.lb=[(y,.vec 5 (s.blocks.map Blk.row))])
  (h1:H'=H.set y (.vec 5 ((s.blocks.set i b').map Blk.row))) (a1:b'.lg=s.blocks[i].lg) (a2:b'.ic=s.blocks[i].ic) (a3:b'.irows=s.blocks[i].irows) :
  LInv F H' w { s with lb:=[(y,.vec 5 ((s.blocks.set i b').map Blk.row))],blocks:=s.blocks.set i b' }:=by
 have hm:=List.getElem_mem hi
 refine⟨?_,?_,h.gv,fun b hb=>?_,fun b hb=>?_,h.rv⟩
 ·have kn:=h.kn
  simp only[LS.L,hlb]at kn
  have kn:=kn.stL 1 (x:=y) rfl h1
  refine kn.perm ?_
  simp only[LS.L,List.cons_append,List.nil_append,List.set_cons_zero,List.set_cons_succ]
  refine .cons _ (.cons _ (.append_left _ ?_))
  refine (Qgu Blk.lg s.blocks i hi).trans ?_
  rw[←a1]
  exact (Qeu Blk.lg s.blocks i b' hi).symm
 ·simp only[hbc]
  exact .mk _ _ _ (by simp)
 ·rcases Qdr hb with rfl|hb
  ·rw[a1,a2,a3];exact h.gi _ hm
  ·exact h.gi b hb
 ·rcases Qdr hb with rfl|hb
  ·rw[a3];exact h.ri _ hm
  ·exact h.ri b hb
theorem LInv.addIns {K:V→Heap→Prop} {y i:Nat} {fl:Bool} {r:List C} (h:LInv F H w s) (hi:i<s.blocks.length) (hbc:s.bc=.vsl y 5 0 s.blocks.length) (hlb:s.lb=[(y,.vec 5 (s.blocks.map Blk.row))])
  (hr:InsRow r) (hl:s.blocks[i].irows.length+1≤LIM)
  (hK:∀(z:Nat) (H1:Heap),H1 w=s.o→H1 y=.vec 5 (s.blocks.map Blk.row)→
   (∀H2,H2=H1.set y (.vec 5 ((s.blocks.map Blk.row).set i (Blk.row { s.blocks[i]with ic:=.vsl z 4 0 (s.blocks[i].irows.length+1) })))→
    ∃b':Blk,b'.irows.length=s.blocks[i].irows.length+1∧LInv F H2 w { s with lb:=[(y,.vec 5 ((s.blocks.set i b').map Blk.row))],blocks:=s.blocks.set i b' })→K (.c (.vsl z 4 0 (s.blocks[i].irows.length+1))) H1) :
  appQ H 4 s.blocks[i].ic (.sl fl 4 [r]) K:=by
 have hm:=List.getElem_mem hi
 have kn:=h.kn
 simp only[LS.L]at kn
 have kn:Kn F H [] (([(w,s.o)]++(s.lb++(s.lv++(s.blocks.eraseIdx i).flatMap Blk.lg)))++s.blocks[i].lg):=kn.perm (by
  have h1:(s.blocks.flatMap Blk.lg).Perm ((s.blocks.eraseIdx i).flatMap Blk.lg++s.blocks[i].lg):=(Qgu Blk.lg s.blocks i hi).trans List.perm_append_comm
  refine ((h1.append_left _).append_left _ |>.append_left _).trans ?_
  simp only[List.append_assoc];exact .refl _)
 refine kn.grow (h.gi _ hm) (.mk' _ _ _ _) (by intro r' hr';simp only[List.mem_singleton]at hr';subst hr';exact hr.noOw) (by simpa using hl) fun z H1 kn=>?_
 have e1:s.blocks[i].irows.length+[r].length=s.blocks[i].irows.length+1:=by simp
 rw[e1]
 simp only[hlb]at kn
 refine hK z H1 (kn.l 0 rfl) (kn.l 1 rfl) fun H2 h2=>?_
 refine⟨{ s.blocks[i]with ic:=.vsl z 4 0 (s.blocks[i].irows.length+1),irows:=s.blocks[i].irows++[r],lg:=[(z,.vec 4 (s.blocks[i].irows++[r]))] },by simp,?_⟩
 have hrow:Blk.row { s.blocks[i]with ic:=.vsl z 4 0 (s.blocks[i].irows.length+1) }=Blk.row { s.blocks[i]with ic:=.vsl z 4 0 (s.blocks[i].irows.length+1),irows:=s.blocks[i].irows++[r],lg:=[(z,.vec 4 (s.blocks[i].irows++[r]))] }:=rfl
 rw[hrow,Q3h]at h2
 refine⟨?_,?_,h.gv,fun b hb=>?_,fun b hb=>?_,h.rv⟩
 ·have kn:=kn.stL 1 (x:=y) rfl h2
  refine kn.perm ?_
  simp only[LS.L]
  have h1:=(Qeu Blk.lg s.blocks i { s.blocks[i]with ic:=.vsl z 4 0 (s.blocks[i].irows.length+1),irows:=s.blocks[i].irows++[r],lg:=[(z,.vec 4 (s.blocks[i].irows++[r]))] } hi).symm
  have h3:=(List.perm_append_comm.trans h1).append_left ([(w,s.o)]++([(y,Obj.vec 5 ((s.blocks.set i { s.blocks[i]with ic:=.vsl z 4 0 (s.blocks[i].irows.length+1),irows:=s.blocks[i].irows++[r],lg:=[(z,.vec 4 (s.blocks[i].irows++[r]))] }).map Blk.row))]++s.lv))
  refine List.Perm.trans ?_ (h3.trans ?_)
  ·simp only[List.set,List.cons_append,List.nil_append,List.append_assoc];exact .refl _
  ·simp only[List.cons_append,List.nil_append,List.append_assoc];exact .refl _
 ·simp only[hbc]
  exact .mk _ _ _ (by simp)
 ·rcases Qdr hb with rfl|hb
  ·exact .mk _ _ _ (by simp)
  ·exact h.gi b hb
 ·rcases Qdr hb with rfl|hb
  ·intro r' hr'
   rcases List.mem_append.1 hr' with hr'|hr'
   ·exact h.ri _ hm r' hr'
   ·simp at hr';subst hr';exact hr
  ·exact h.ri b hb
theorem LInv.addVar {K:V→Heap→Prop} {fl:Bool} {r:List C} (h:LInv F H w s) (hr:VarRow r) (hl:s.vars.length+1≤LIM)
  (hK:∀(y:Nat) (H1:Heap),H1 w=s.o→(∀H2,H2=H1.set w (LS.o { s with vc:=.vsl y 3 0 (s.vars.length+1) })→
   LInv F H2 w { s with vc:=.vsl y 3 0 (s.vars.length+1),lv:=[(y,.vec 3 (s.vars++[r]))],vars:=s.vars++[r] })→K (.c (.vsl y 3 0 (s.vars.length+1))) H1) :
  appQ H 3 s.vc (.sl fl 3 [r]) K:=by
 have hrv:∀r'∈s.vars++[r],VarRow r':=fun r' hr'=>by
  rcases List.mem_append.1 hr' with h1|h1
  ·exact h.rv r' h1
  ·simp at h1;subst h1;exact hr
 have kn:=h.kn
 have kn:Kn F H [] (([(w,s.o)]++(s.lb++s.blocks.flatMap Blk.lg))++s.lv):=kn.perm (by
  simp only[LS.L]
  refine List.Perm.trans (.append_left _ (.append_left _ List.perm_append_comm)) ?_
  simp only[List.append_assoc];exact .refl _)
 have fin:∀(y:Nat) (H1:Heap),Kn F H1 [] (([(w,s.o)]++(s.lb++s.blocks.flatMap Blk.lg))++[(y,.vec 3 (s.vars++[r]))])→K (.c (.vsl y 3 0 (s.vars.length+1))) H1:=by
  intro y H1 kn
  refine hK y H1 (kn.l 0 rfl) fun H2 h2=>⟨?_,h.gb,.inr ⟨y,s.vars++[r],s.vars.length+1,rfl,by simp,by rw[List.take_of_length_le (by simp)],rfl⟩,h.gi,h.ri,hrv⟩
  have kn:=kn.stL 0 (x:=w) (o:=s.o) rfl h2 (by simp[LS.o])
  refine kn.perm ?_
  simp only[LS.L,List.set,List.cons_append,List.nil_append,List.append_assoc]
  refine .cons _ (.append_left _ ?_)
  exact List.perm_append_comm
 refine⟨trivial,rfl,?_⟩
 rcases h.gv with ⟨h1,h2,h3⟩|⟨y,all,n,h1,h2,h3,h4⟩
 ·rw[h1]
  rw[h3,List.append_nil]at kn
  simp only[rowsOf,Go.AE.lenC,List.nil_append,List.length_nil,Nat.zero_add,List.length_singleton]
  refine⟨trivial,.inl trivial,by intro r' hr';simp only[List.mem_singleton]at hr';subst hr';exact hr.noOw,by simp only[LIM];omega,fun l hl H' hH'=>?_⟩
  have:=fin l H' (by rw[h2];simpa using kn.al hl hH')
  rw[h2]at this;exact this
 ·rw[h4]at kn
  have hy:H y=.vec 3 all:=(kn.get (y,.vec 3 all) (by simp)).1
  have hn:s.vars.length=n:=by rw[h3];simp;omega
  rw[h1]
  simp only[hy,rowsOf,Go.AE.lenC,List.drop_zero,List.length_singleton]
  refine⟨trivial,trivial,by omega,by intro r' hr';simp only[List.mem_singleton]at hr';subst hr';exact hr.noOw,by omega,fun l' hl' H' hH'=>?_⟩
  rw[←hn]at hH'⊢
  rw[hn,←h3]at hH'
  refine fin l' H' ?_
  have:=kn.ap ([(w,s.o)]++(s.lb++s.blocks.flatMap Blk.lg)).length (y:=y) (o:=.vec 3 all) (by simp) hl' hH'
  simpa using this
end Go.AE.Y

namespace Go.AE.Y
structure InsD where
 op:Int
 to:Int
 args:List Int
 n:Int
def InsD.cells (x:InsD):List C:=[.int .i64 x.op,.int .i64 x.to,.sl false 1 (Qf x.args),.int .i64 x.n]
structure PhiD where
 to:Int
 args:List Int
def PhiD.cells (x:PhiD):List C:=[.int .i64 x.to,.sl false 1 (Qf x.args)]
def Qbk (l:List InsD):List (List C):=l.map InsD.cells
def Qai (l:List PhiD):List (List C):=l.map PhiD.cells
structure BlkD where
 phis:List PhiD
 ins:List InsD
 jump:Int
 on:Int
 next:List Int
def BlkD.cells (x:BlkD):List C:=[.sl false 2 (Qai x.phis),.sl false 4 (Qbk x.ins),.int .i64 x.jump,.int .i64 x.on,.sl false 1 (Qf x.next)]
def Ql (l:List BlkD):List (List C):=l.map BlkD.cells
structure CodeD where
 params:Int
 regs:Int
 blocks:List BlkD
def CodeD.cells (x:CodeD):List C:=[.int .i64 x.params,.int .i64 x.regs,.sl false 5 (Ql x.blocks)]
def Qp (l:List CodeD):List (List C):=l.map CodeD.cells
theorem Qam (l:List InsD):(Qbk l).length=l.length:=by simp[Qbk]
theorem Q9 (l:List PhiD):(Qai l).length=l.length:=by simp[Qai]
theorem Qj (l:List BlkD):(Ql l).length=l.length:=by simp[Ql]
theorem Q4 (l:List CodeD):(Qp l).length=l.length:=by simp[Qp]
theorem Qbq (l:List InsD) (i:Nat) (h:i<l.length):(Qbk l).getD i []=(l[i]'h).cells:=by simp[Qbk,List.getD_eq_getElem?_getD,h]
theorem Qbb (l:List PhiD) (i:Nat) (h:i<l.length):(Qai l).getD i []=(l[i]'h).cells:=by simp[Qai,List.getD_eq_getElem?_getD,h]
theorem Q5 (l:List BlkD) (i:Nat) (h:i<l.length):(Ql l).getD i []=(l[i]'h).cells:=by simp[Ql,List.getD_eq_getElem?_getD,h]
theorem Qaj (l:List CodeD) (i:Nat) (h:i<l.length):(Qp l).getD i []=(l[i]'h).cells:=by simp[Qp,List.getD_eq_getElem?_getD,h]
theorem Qnu (l:List InsD):∀r∈Qbk l,noOw r=true:=by intro r hr;obtain⟨x,_,rfl⟩:=List.mem_map.1 hr;rfl
theorem Q3l (l:List PhiD):∀r∈Qai l,noOw r=true:=by intro r hr;obtain⟨x,_,rfl⟩:=List.mem_map.1 hr;rfl
theorem Q2f (l:List BlkD):∀r∈Ql l,noOw r=true:=by intro r hr;obtain⟨x,_,rfl⟩:=List.mem_map.1 hr;rfl
theorem Qbz (l:List CodeD):∀r∈Qp l,noOw r=true:=by intro r hr;obtain⟨x,_,rfl⟩:=List.mem_map.1 hr;rfl
theorem Qaiy (a:List CodeD) (x:CodeD):Qp a++[x.cells]=Qp (a++[x]):=by simp[Qp]
theorem Qaz1 (a:List InsD) (x:InsD):Qbk a++[x.cells]=Qbk (a++[x]):=by simp[Qbk]
variable {H:Heap} {S:Nat→Bool}
theorem Gr.frzM {Lg:List (Nat×Obj)} {sz:Nat} {rows rows':List (List C)} {c:C} (h:Gr Lg sz rows c) (hm:∀p∈Lg,H p.1=p.2∧S p.1=true) (hr:FrzR H S rows rows'):FrzC H S c (.sl false sz rows'):=by
 rcases h with ⟨rfl,rfl,rfl⟩|⟨y,rfl,rfl⟩
 ·cases hr;exact FrzR.nil.sl
 ·obtain⟨h1,h2⟩:=hm (y,.vec sz rows) (by simp)
  exact hr.vsl h2 h1 rfl
theorem InsRow.frz {r:List C} (h:InsRow r):∃d:InsD,FrzL H S r d.cells:=by
 obtain⟨op,to,n,fl,args,rfl⟩:=h
 exact⟨⟨op,to,args,n⟩,.cons (Qg rfl) (.cons (Qg rfl) (.cons (FrzR.same (Qv _)).sl (.cons (Qg rfl) .nil)))⟩
def CodeD.fits (c:CodeD):Prop:=∀b∈c.blocks,b.ins.length≤2^38∧b.phis.length≤2^38
theorem Q25:∀(l:List (List C)),(∀r∈l,InsRow r)→∃ds:List InsD,FrzR H S l (Qbk ds)
 |[],_=>⟨[],.nil⟩
 |r::l,h=>by
  obtain⟨d,hd⟩:=(h r List.mem_cons_self).frz (H:=H) (S:=S)
  obtain⟨ds,hds⟩:=Q25 l fun r' hr'=>h r' (List.mem_cons_of_mem _ hr')
  exact⟨d::ds,.cons hd hds⟩
theorem Qaye:∀(l:List Blk),(∀b∈l,Gr b.lg 4 b.irows b.ic∧(∀r∈b.irows,InsRow r)∧(∀p∈b.lg,H p.1=p.2∧S p.1=true)∧b.irows.length≤2^38)→
  ∃bs:List BlkD,FrzR H S (l.map Blk.row) (Ql bs)∧bs.length=l.length∧∀b∈bs,b.ins.length≤2^38∧b.phis.length≤2^38
 |[],_=>⟨[],.nil,rfl,by simp⟩
 |b::l,h=>by
  obtain⟨g1,g2,g3,g4⟩:=h b List.mem_cons_self
  obtain⟨bs,h1,h2,h3⟩:=Qaye l fun r' hr'=>h r' (List.mem_cons_of_mem _ hr')
  obtain⟨ds,hds⟩:=Q25 (H:=H) (S:=S) b.irows g2
  have hdl:=hds.spec.1
  rw[Qam]at hdl
  refine⟨⟨[],ds,b.jump,b.on,b.next⟩::bs,.cons ?_ h1,by simp[h2],fun b' hb'=>?_⟩
  ·exact .cons FrzR.nil.sl (.cons (Gr.frzM g1 g3 hds) (.cons (Qg rfl) (.cons (Qg rfl) (.cons (FrzR.same (Qv _)).sl .nil))))
  ·rcases List.mem_cons.1 hb' with rfl|hb'
   ·exact⟨by show ds.length≤_;omega,by simp⟩
   ·exact h3 b' hb'
end Go.AE.Y

namespace Go.AE
variable {H0 H H' F:Heap} {E L B A:List (Nat×Obj)}
theorem Kn.toFrame {y:Nat} {o:Obj} (kn:Kn F H [] (L++[(y,o)])):Kn (F.set y o) H [] L:=by
 have hnd:=kn.dL
 rw[List.map_append]at hnd
 have hne:∀p∈L,p.1≠y:=fun p hp hh=>(List.nodup_append.1 hnd).2.2 _ (Qak hp) y (by simp) hh
 refine⟨fun p hp=>kn.get p (by simp only[List.nil_append]at hp⊢;exact List.mem_append_left _ hp),by simp,fun p hp=>?_,by simp,(List.nodup_append.1 hnd).1,fun m hm _=>?_⟩
 ·rw[Heap.set_other _ _ (hne p hp)];exact kn.loc p (List.mem_append_left _ hp)
 ·by_cases h:m=y
  ·subst h;rw[Heap.set_same];exact (kn.get (m,o) (by simp)).1
  ·rw[Heap.set_other _ _ h]at hm⊢;exact kn.chg m hm (by simp)
theorem Kn.ofFrame {y:Nat} {o:Obj} (kn:Kn (F.set y o) H [] L) (hF:F y=.none) (ho:o≠.none):Kn F H [] (L++[(y,o)]):=by
 have hy:H y=o:=by have:=kn.chg y (by rw[Heap.set_same];exact ho) (by simp);rw[this,Heap.set_same]
 have hne:∀p∈L,p.1≠y:=fun p hp hh=>by have:=kn.loc p hp;rw[hh,Heap.set_same]at this;exact ho this
 refine⟨fun p hp=>?_,by simp,fun p hp=>?_,by simp,?_,fun m hm _=>?_⟩
 ·simp only[List.nil_append]at hp
  rcases List.mem_append.1 hp with hp|hp
  ·exact kn.get p (by simpa using hp)
  ·simp at hp;subst hp;exact⟨hy,ho⟩
 ·rcases List.mem_append.1 hp with hp|hp
  ·have:=kn.loc p hp;rw[Heap.set_other _ _ (hne p hp)]at this;exact this
  ·simp at hp;subst hp;exact hF
 ·rw[List.map_append]
  refine List.nodup_append.2 ⟨kn.dL,by simp,fun a ha b hb=>?_⟩
  simp at hb;subst hb
  obtain⟨p,hp,rfl⟩:=List.mem_map.1 ha
  exact hne p hp
 ·have hmy:m≠y:=fun h=>by subst h;exact hm hF
  have:=kn.chg m (by rw[Heap.set_other _ _ hmy];exact hm) (by simp)
  rw[this,Heap.set_other _ _ hmy]
theorem Kn.frz1 {z:Nat} {o:Obj} (kn:Kn H0 H E (B++[(z,o)])):Kn H0 (H.frz fun m=>m == z) E B:=by
 have hzf:H0 z=.none:=kn.loc (z,o) (by simp)
 have hnd:=kn.dL
 rw[List.map_append]at hnd
 have hne:∀p∈B,p.1≠z:=fun p hp hh=>(List.nodup_append.1 hnd).2.2 _ (Qak hp) z (by simp) hh
 have hneE:∀p∈E,p.1≠z:=fun p hp hh=>kn.ext p hp (hh▸hzf)
 refine⟨fun p hp=>?_,kn.ext,fun p hp=>kn.loc p (List.mem_append_left _ hp),kn.dE,(List.nodup_append.1 hnd).1,fun m hm hx=>?_⟩
 ·have:p.1≠z:=by
   rcases List.mem_append.1 hp with h|h
   ·exact hneE p h
   ·exact hne p h
  have h2:(H.frz fun m=>m == z) p.1=H p.1:=by simp[Heap.frz,this]
  rw[h2]
  refine kn.get p ?_
  rcases List.mem_append.1 hp with h|h
  ·exact List.mem_append_left _ h
  ·exact List.mem_append_right _ (List.mem_append_left _ h)
 ·have:m≠z:=fun h=>hm (h▸hzf)
  have h2:(H.frz fun m=>m == z) m=H m:=by simp[Heap.frz,this]
  rw[h2];exact kn.chg m hm hx
theorem Gr.freeze {Lg:List (Nat×Obj)} {sz:Nat} {rows:List (List C)} {c:C} (h:Gr Lg sz rows c) (kn:Kn H0 H E (B++Lg)) (hr:∀r∈rows,noOw r=true) :
  ∃S H2,FrzC H S c (.sl false sz rows)∧FrzH H S H2∧Kn H0 H2 E B:=by
 rcases h with ⟨rfl,rfl,rfl⟩|⟨y,rfl,rfl⟩
 ·refine⟨fun _=>false,H,Y.FrzR.nil.sl,fun m=>.inr ⟨rfl,.same _⟩,by simpa using kn⟩
 ·exact⟨fun m=>m == y,_,(Y.FrzR.same hr).vsl (by simp) (kn.get (y,.vec sz rows) (by simp)).1 rfl,Qew _ _,kn.frz1⟩
end Go.AE
namespace Go.AE.Y
variable {F H H':Heap} {w:Nat} {s:LS} {Lg:List (Nat×Obj)} {sz:Nat} {rows:List (List C)} {c:C}
theorem LInv.re {H2:Heap} (h:LInv F H w s) (kn:Kn F H2 [] (s.L w)):LInv F H2 w s:=⟨kn,h.gb,h.gv,h.gi,h.ri,h.rv⟩
theorem LInv.beside (h:LInv F H w s) (kn:Kn F H [] (s.L w++Lg)) (hg:Gr Lg sz rows c) :
  ∃F',LInv F' H w s∧∀(s':LS) (H':Heap),LInv F' H' w s'→LInv F H' w s'∧Kn F H' [] (s'.L w++Lg):=by
 rcases hg with ⟨_,_,rfl⟩|⟨y,_,rfl⟩
 ·exact⟨F,h,fun s' H' h'=>⟨h',by simpa using h'.kn⟩⟩
 ·refine⟨F.set y (.vec sz rows),⟨kn.toFrame,h.gb,h.gv,h.gi,h.ri,h.rv⟩,fun s' H' h'=>?_⟩
  have k2:=h'.kn.ofFrame (kn.loc (y,.vec sz rows) (by simp)) (by simp)
  exact⟨⟨k2.drop,h'.gb,h'.gv,h'.gi,h'.ri,h'.rv⟩,k2⟩
end Go.AE.Y

namespace Go.AE
variable {H0 H H':Heap} {E L N B:List (Nat×Obj)}
theorem Kn.comp0 (kn:Kn H0 H E L) (k2:Kn H H' [] N):Kn H0 H' E (L++N):=by
 have hne:∀p∈E++L,H p.1≠.none:=fun p hp=>by obtain⟨a,b⟩:=kn.get p hp;rw[a];exact b
 refine⟨fun p hp=>?_,kn.ext,fun p hp=>?_,kn.dE,?_,fun m hm hx=>?_⟩
 ·rw[←List.append_assoc]at hp
  rcases List.mem_append.1 hp with hp|hp
  ·obtain⟨a,b⟩:=kn.get p hp
   exact⟨by rw[k2.chg p.1 (hne p hp) (by simp),a],b⟩
  ·exact k2.get p (by simpa using hp)
 ·rcases List.mem_append.1 hp with hp|hp
  ·exact kn.loc p hp
  ·exact (kn.newFree (k2.loc p hp)).1
 ·rw[List.map_append]
  refine List.nodup_append.2 ⟨kn.dL,k2.dL,fun a ha b hb hab=>?_⟩
  obtain⟨p,hp,rfl⟩:=List.mem_map.1 ha
  obtain⟨q,hq,rfl⟩:=List.mem_map.1 hb
  exact hne p (List.mem_append_right _ hp) (by rw[hab];exact k2.loc q hq)
 ·have:=kn.chg m hm hx
  rw[k2.chg m (by rw[this];exact hm) (by simp),this]
theorem Kn.compE (kn:Kn H0 H E L) (i:Nat) {l:Nat} {o o':Obj} (h:E[i]? = some (l,o)) (k2:Kn H H' [(l,o')] N):Kn H0 H' (E.set i (l,o')) (L++N):=by
 have hne:∀p∈E++L,H p.1≠.none:=fun p hp=>by obtain⟨a,b⟩:=kn.get p hp;rw[a];exact b
 have hl:H' l=o'∧o'≠.none:=k2.get (l,o') (by simp)
 have hu:Upd H H' [(l,o')]:=⟨fun p hp=>by simp at hp;subst hp;exact hl.1,fun m hm hx=>k2.chg m hm hx⟩
 have k3:=kn.callE i h hu hl.2
 refine⟨fun p hp=>?_,k3.ext,fun p hp=>?_,k3.dE,?_,k3.chg⟩
 ·rw[←List.append_assoc]at hp
  rcases List.mem_append.1 hp with hp|hp
  ·exact k3.get p hp
  ·exact k2.get p (List.mem_append_right _ hp)
 ·rcases List.mem_append.1 hp with hp|hp
  ·exact kn.loc p hp
  ·exact (kn.newFree (k2.loc p hp)).1
 ·rw[List.map_append]
  refine List.nodup_append.2 ⟨kn.dL,k2.dL,fun a ha b hb hab=>?_⟩
  obtain⟨p,hp,rfl⟩:=List.mem_map.1 ha
  obtain⟨q,hq,rfl⟩:=List.mem_map.1 hb
  exact hne p (List.mem_append_right _ hp) (by rw[hab];exact k2.loc q hq)
theorem Kn.finK (hk:Kn H0 H E (B++N)):Kn H0 (H.frz (Go.AE.unx H0 N)) E N:=by
 obtain⟨h1,h2⟩:=hk.finx
 have hd:=hk.dL
 rw[List.map_append]at hd
 refine⟨fun p hp=>?_,hk.ext,fun p hp=>hk.loc p (List.mem_append_right _ hp),hk.dE,(List.nodup_append.1 hd).2.1,h1.2⟩
 rcases List.mem_append.1 hp with hp|hp
 ·exact⟨h1.1 p hp,(hk.get p (List.mem_append_left _ hp)).2⟩
 ·exact⟨(h2 p hp).2,(hk.get p (List.mem_append_right _ (List.mem_append_right _ hp))).2⟩
end Go.AE
namespace Go.AE.Y
structure OInts where
 ns:List Int
 y:Nat
def OInts.c (x:OInts):C:=.vsl x.y 1 0 x.ns.length
def OInts.lg (x:OInts):List (Nat×Obj):=[(x.y,.vec 1 (Qf x.ns))]
structure OPhi where
 to:Int
 ns:List Int
 ac:C
 lg:List (Nat×Obj)
def OPhi.row (x:OPhi):List C:=[.int .i64 x.to,x.ac]
def OPhi.ok (x:OPhi):Prop:=(∃y,x.ac=.vsl y 1 0 x.ns.length∧x.lg=[(y,.vec 1 (Qf x.ns))])∨(∃fl,x.ac=.sl fl 1 (Qf x.ns)∧x.lg=[])
def OPhi.own (x:OPhi):Prop:=∃y,x.ac=.vsl y 1 0 x.ns.length∧x.lg=[(y,.vec 1 (Qf x.ns))]
structure OIns where
 op:Int
 to:Int
 a:OInts
 n:Int
def OIns.row (x:OIns):List C:=[.int .i64 x.op,.int .i64 x.to,x.a.c,.int .i64 x.n]
def OIns.lg (x:OIns):List (Nat×Obj):=x.a.lg
structure OBlk where
 phis:List OPhi
 pc:C
 pl:List (Nat×Obj)
 ins:List OIns
 ic:C
 il:List (Nat×Obj)
 jump:Int
 on:Int
 nx:OInts
def OBlk.row (x:OBlk):List C:=[x.pc,x.ic,.int .i64 x.jump,.int .i64 x.on,x.nx.c]
def OBlk.lg (x:OBlk):List (Nat×Obj):=x.nx.lg++(x.phis.flatMap OPhi.lg++(x.pl++(x.ins.flatMap OIns.lg++x.il)))
structure OBlk.ok (x:OBlk):Prop where
 p:Gr x.pl 2 (x.phis.map OPhi.row) x.pc
 i:Gr x.il 4 (x.ins.map OIns.row) x.ic
 a:∀p∈x.phis,p.ok
structure OCode where
 params:Int
 regs:Int
 blocks:List OBlk
 bc:C
 bl:List (Nat×Obj)
def OCode.row (x:OCode):List C:=[.int .i64 x.params,.int .i64 x.regs,x.bc]
def OCode.lg (x:OCode):List (Nat×Obj):=x.blocks.flatMap OBlk.lg++x.bl
structure OCode.ok (x:OCode):Prop where
 b:Gr x.bl 5 (x.blocks.map OBlk.row) x.bc
 bs:∀b∈x.blocks,b.ok
def OPhi.d (x:OPhi):PhiD:=⟨x.to,x.ns⟩
def OIns.d (x:OIns):InsD:=⟨x.op,x.to,x.a.ns,x.n⟩
def OBlk.d (x:OBlk):BlkD:=⟨x.phis.map OPhi.d,x.ins.map OIns.d,x.jump,x.on,x.nx.ns⟩
def OCode.d (x:OCode):CodeD:=⟨x.params,x.regs,x.blocks.map OBlk.d⟩
theorem OPhi.noOw (x:OPhi) (h:x.ok):Go.AE.noOw x.row=true:=by
 rcases h with ⟨y,h,_⟩|⟨fl,h,_⟩ <;> simp only[Go.AE.noOw,OPhi.row,h] <;> rfl
theorem OIns.noOw (x:OIns):Go.AE.noOw x.row=true:=rfl
theorem OBlk.noOw (x:OBlk) (h:x.ok):Go.AE.noOw x.row=true:=by
 simp only[Go.AE.noOw,OBlk.row,OInts.c,List.all_cons,List.all_nil,h.p.isOw,h.i.isOw];rfl
theorem OCode.noOw (x:OCode) (h:x.ok):Go.AE.noOw x.row=true:=by
 simp only[Go.AE.noOw,OCode.row,List.all_cons,List.all_nil,h.b.isOw];rfl
variable {H:Heap} {S:Nat→Bool}
def Held (H:Heap) (S:Nat→Bool) (l:List (Nat×Obj)):Prop:=∀p∈l,H p.1=p.2∧S p.1=true
theorem Held.l {a b:List (Nat×Obj)} (h:Held H S (a++b)):Held H S a:=fun p hp=>h p (List.mem_append_left _ hp)
theorem Held.r {a b:List (Nat×Obj)} (h:Held H S (a++b)):Held H S b:=fun p hp=>h p (List.mem_append_right _ hp)
theorem Held.m {α:Type} {f:α→List (Nat×Obj)} {l:List α} (h:Held H S (l.flatMap f)) {x:α} (hx:x∈l):Held H S (f x):=fun p hp=>h p (List.mem_flatMap.2 ⟨x,hx,hp⟩)
theorem OInts.frz (x:OInts) (h:Held H S x.lg):FrzC H S x.c (.sl false 1 (Qf x.ns)):=by
 obtain⟨h1,h2⟩:=h (x.y,.vec 1 (Qf x.ns)) (by simp[OInts.lg])
 exact (FrzR.same (Qv _)).vsl h2 h1 (by simp[Qf])
theorem OPhi.frz (x:OPhi) (hok:x.ok) (h:Held H S x.lg):FrzL H S x.row (PhiD.mk x.to x.ns).cells:=by
 refine .cons (Qg rfl) (.cons ?_ .nil)
 rcases hok with ⟨y,h1,h2⟩|⟨fl,h1,h2⟩
 ·obtain⟨h3,h4⟩:=h (y,.vec 1 (Qf x.ns)) (by rw[h2];simp)
  rw[h1];exact (FrzR.same (Qv _)).vsl h4 h3 (by simp[Qf])
 ·rw[h1];exact (FrzR.same (Qv _)).sl
theorem OIns.frz (x:OIns) (h:Held H S x.lg):FrzL H S x.row (InsD.mk x.op x.to x.a.ns x.n).cells:=.cons (Qg rfl) (.cons (Qg rfl) (.cons (x.a.frz h) (.cons (Qg rfl) .nil)))
theorem Qaq4 {α β:Type} {f:α→List C} {g:β→List C}:∀(l:List α),(∀x∈l,∃y,FrzL H S (f x) (g y))→∃l':List β,FrzR H S (l.map f) (l'.map g)∧l'.length=l.length
 |[],_=>⟨[],.nil,rfl⟩
 |x::l,h=>by
  obtain⟨y,hy⟩:=h x List.mem_cons_self
  obtain⟨l',hl',hn⟩:=Qaq4 l fun z hz=>h z (List.mem_cons_of_mem _ hz)
  exact⟨y::l',.cons hy hl',by simp[hn]⟩
theorem Qns {α β:Type} {P:β→Prop} {f:α→List C} {g:β→List C}:∀(l:List α),(∀x∈l,∃y,FrzL H S (f x) (g y)∧P y)→∃l':List β,FrzR H S (l.map f) (l'.map g)∧l'.length=l.length∧∀y∈l',P y
 |[],_=>⟨[],.nil,rfl,by simp⟩
 |x::l,h=>by
  obtain⟨y,hy,hp⟩:=h x List.mem_cons_self
  obtain⟨l',hl',hn,hps⟩:=Qns l fun z hz=>h z (List.mem_cons_of_mem _ hz)
  refine⟨y::l',.cons hy hl',by simp[hn],fun z hz=>?_⟩
  rcases List.mem_cons.1 hz with rfl|hz
  ·exact hp
  ·exact hps z hz
theorem OBlk.frz (x:OBlk) (hok:x.ok) (h:Held H S x.lg):∃d:BlkD,FrzL H S x.row d.cells∧d.next=x.nx.ns∧d.ins.length=x.ins.length∧d.phis.length=x.phis.length:=by
 obtain⟨ps,hps,hpn⟩:=Qaq4 (H:=H) (S:=S) (f:=OPhi.row) (g:=PhiD.cells) x.phis fun p hp=>⟨_,p.frz (hok.a p hp) (h.r.l.m hp)⟩
 obtain⟨is,his,hin⟩:=Qaq4 (H:=H) (S:=S) (f:=OIns.row) (g:=InsD.cells) x.ins fun p hp=>⟨_,p.frz (h.r.r.r.l.m hp)⟩
 exact⟨⟨ps,is,x.jump,x.on,x.nx.ns⟩,.cons (Gr.frzM hok.p h.r.r.l hps) (.cons (Gr.frzM hok.i h.r.r.r.r his) (.cons (Qg rfl) (.cons (Qg rfl) (.cons (x.nx.frz h.l) .nil)))),rfl,hin,hpn⟩
end Go.AE.Y

namespace Go.AE.Y
theorem Qadh {α:Type} {A L1 L2:List α}:(A++L1++L2).Perm (A++L2++L1):=by
 rw[List.append_assoc,List.append_assoc]
 exact .append_left _ List.perm_append_comm
structure BlkD.sm (b:BlkD):Prop where
 n:b.next.length≤2
 i:b.ins.length≤1000
 p:b.phis.length≤1000
 ia:∀x∈b.ins,x.args.length≤1000
 pa:∀x∈b.phis,x.args.length≤1000
structure CodeD.sm (c:CodeD):Prop where
 b0:0<c.blocks.length
 b:c.blocks.length≤160
 bs:∀b∈c.blocks,b.sm
 p0:0≤c.params
 p1:c.params≤1000
structure OBlk.sm (b:OBlk) (N:Nat):Prop where
 n:b.nx.ns.length≤2
 i:b.ins.length≤1000
 p:b.phis.length≤N
 ia:∀x∈b.ins,x.a.ns.length≤N
structure OCode.sm (c:OCode) (N:Nat):Prop where
 b0:0<c.blocks.length
 b:c.blocks.length≤160
 bs:∀b∈c.blocks,b.sm N
 p0:0≤c.params
 p1:c.params≤1000
theorem OBlk.sm.mono {b:OBlk} {N M:Nat} (h:b.sm N) (hm:N≤M):b.sm M:=⟨h.n,h.i,by have:=h.p;omega,fun x hx=>by have:=h.ia x hx;omega⟩
theorem OCode.sm.mono {c:OCode} {N M:Nat} (h:c.sm N) (hm:N≤M):c.sm M:=⟨h.b0,h.b,fun b hb=>(h.bs b hb).mono hm,h.p0,h.p1⟩
structure CodeD.gd (c:CodeD):Prop where
 b0:0<c.blocks.length
 b1:c.blocks.length≤160
 n:∀b∈c.blocks,b.next.length≤2
 f:c.fits
theorem CodeD.sm.fits {c:CodeD} (h:c.sm):c.fits:=fun b hb=>⟨by have:=(h.bs b hb).i;omega,by have:=(h.bs b hb).p;omega⟩
theorem CodeD.sm.gd {c:CodeD} (h:c.sm):c.gd:=⟨h.b0,h.b,fun b hb=>(h.bs b hb).n,h.fits⟩
structure BlkD.sg (b:BlkD):Prop where
 n:b.next.length≤1000000
 i:b.ins.length≤1000000
 p:b.phis.length≤1000000
 ia:∀x∈b.ins,x.args.length≤1000000
 pa:∀x∈b.phis,x.args.length≤1000000
structure CodeD.sg (c:CodeD):Prop where
 b:c.blocks.length≤1000000
 bs:∀b∈c.blocks,b.sg
theorem BlkD.sm.sg {b:BlkD} (h:b.sm):b.sg:=⟨by have:=h.n;omega,by have:=h.i;omega,by have:=h.p;omega,fun x hx=>by have:=h.ia x hx;omega,fun x hx=>by have:=h.pa x hx;omega⟩
theorem CodeD.sm.sg {c:CodeD} (h:c.sm):c.sg:=⟨by have:=h.b;omega,fun b hb=>(h.bs b hb).sg⟩
theorem BlkD.sm.o {o:OBlk} (h:o.d.sm):o.sm 1000:=
 ⟨h.n,by have:=h.i;simp only[OBlk.d,List.length_map]at this;exact this,by have:=h.p;simp only[OBlk.d,List.length_map]at this;exact this,fun x hx=>h.ia x.d (List.mem_map.2 ⟨x,hx,rfl⟩)⟩
theorem CodeD.sm.o {o:OCode} (h:o.d.sm):o.sm 1000:=
 ⟨by have:=h.b0;simp only[OCode.d,List.length_map]at this;exact this,by have:=h.b;simp only[OCode.d,List.length_map]at this;exact this,fun b hb=>(h.bs b.d (List.mem_map.2 ⟨b,hb,rfl⟩)).o,h.p0,h.p1⟩
variable {H:Heap} {S:Nat→Bool}
theorem OCode.frz (x:OCode) {N:Nat} (hN:N≤100000) (hok:x.ok) (hs:x.sm N) (h:Held H S x.lg):∃d:CodeD,FrzL H S x.row d.cells∧d.gd:=by
 obtain⟨bs,hbs,hbn,hbp⟩:=Qns (H:=H) (S:=S) (P:=fun d:BlkD=>d.next.length≤2∧d.ins.length≤2^38∧d.phis.length≤2^38) (f:=OBlk.row) (g:=BlkD.cells) x.blocks fun b hb=>by
  obtain⟨d,h1,h2,h3,h4⟩:=b.frz (hok.bs b hb) (h.l.m hb)
  have hsb:=hs.bs b hb
  exact⟨d,h1,by rw[h2];exact hsb.n,by have:=hsb.i;omega,by have:=hsb.p;omega⟩
 have hb0:=hs.b0
 have hb1:=hs.b
 exact⟨⟨x.params,x.regs,bs⟩,.cons (Qg rfl) (.cons (Qg rfl) (.cons (Gr.frzM hok.b h.r hbs) .nil)),by show 0<bs.length;omega,by show bs.length≤_;omega,fun b hb=>(hbp b hb).1,fun b hb=>(hbp b hb).2⟩
theorem OCodes.frz {N:Nat} (hN:N≤100000) {us:List OCode} {cc:C} {cl:List (Nat×Obj)} (hg:Gr cl 3 (us.map OCode.row) cc) (hu:∀u∈us,u.ok∧u.sm N) (h:Held H S (us.flatMap OCode.lg++cl)) :
  ∃cs:List CodeD,FrzC H S cc (.sl false 3 (Qp cs))∧cs.length=us.length∧∀c∈cs,c.gd:=by
 obtain⟨cs,h1,h2,h3⟩:=Qns (H:=H) (S:=S) (P:=CodeD.gd) (f:=OCode.row) (g:=CodeD.cells) us fun u hu2=>u.frz hN (hu u hu2).1 (hu u hu2).2 (h.l.m hu2)
 exact⟨cs,Gr.frzM hg h.r h1,h2,h3⟩
end Go.AE.Y

namespace Go.AE
variable {P:Program}
theorem Qc6 {a b:SC} {Q:X→Env→Heap→Prop} {e:Env} {H:Heap} (T:Env→Heap→Prop) (h1:∀Q':X→Env→Heap→Prop,(∀e H,T e H→Q' .nrm e H)→(∀e H,Q .ret e H→Q' .ret e H)→(∀i e H,Q (.exit i) e H→Q' (.exit i) e H)→Qac P a Q' e H)
  (h2:∀e H,T e H→Qac P b Q e H):Qac P (.seq a b) Q e H:=h1 (X.sq P b Q) h2 (fun _ _ h=>h) (fun _ _ _ h=>h)
end Go.AE
namespace Go.AE.Y
structure UPhi where
 to:Int
 ns:List Int
 ac:C
 al:List (Nat×Obj)
def UPhi.row (x:UPhi):List C:=[.int .i64 x.to,x.ac]
structure UBlk where
 phis:List UPhi
 pc:C
 pl:List (Nat×Obj)
 ins:List InsD
 ic:C
 il:List (Nat×Obj)
 jump:Int
 on:Int
 nfl:Bool
 next:List Int
def UBlk.row (x:UBlk):List C:=[x.pc,x.ic,.int .i64 x.jump,.int .i64 x.on,.sl x.nfl 1 (Qf x.next)]
def UBlk.lg (x:UBlk):List (Nat×Obj):=x.il++(x.phis.flatMap UPhi.al++x.pl)
structure UBlk.ok (x:UBlk):Prop where
 p:Gr x.pl 2 (x.phis.map UPhi.row) x.pc
 i:Gr x.il 4 (Qbk x.ins) x.ic
 a:∀p∈x.phis,Gr p.al 1 (Qf p.ns) p.ac
structure UBlk.sm (b:UBlk) (N:Nat):Prop where
 n:b.next.length≤2
 i:b.ins.length≤1000
 p:b.phis.length≤N
 ia:∀x∈b.ins,x.args.length≤1000
 pa:∀x∈b.phis,x.ns.length≤1000
structure UCode where
 params:Int
 regs:Int
 blocks:List UBlk
 bc:C
 bl:List (Nat×Obj)
def UCode.row (x:UCode):List C:=[.int .i64 x.params,.int .i64 x.regs,x.bc]
def UCode.lg (x:UCode):List (Nat×Obj):=x.blocks.flatMap UBlk.lg++x.bl
structure UCode.ok (x:UCode):Prop where
 b:Gr x.bl 5 (x.blocks.map UBlk.row) x.bc
 bs:∀b∈x.blocks,b.ok
 p0:0≤x.params
 p1:x.params≤3
structure UCode.sm (c:UCode) (N:Nat):Prop where
 b0:0<c.blocks.length
 b:c.blocks.length≤160
 bs:∀b∈c.blocks,b.sm N
theorem UPhi.noOw (x:UPhi) (h:Gr x.al 1 (Qf x.ns) x.ac):Go.AE.noOw x.row=true:=by
 simp only[Go.AE.noOw,UPhi.row,List.all_cons,List.all_nil,h.isOw];rfl
theorem UBlk.noOw (x:UBlk) (h:x.ok):Go.AE.noOw x.row=true:=by
 simp only[Go.AE.noOw,UBlk.row,List.all_cons,List.all_nil,h.p.isOw,h.i.isOw];rfl
theorem UCode.noOw (x:UCode) (h:x.ok):Go.AE.noOw x.row=true:=by
 simp only[Go.AE.noOw,UCode.row,List.all_cons,List.all_nil,h.b.isOw];rfl
theorem UPhi.len2 (x:UPhi):x.row.length=2:=rfl
theorem UBlk.len5 (x:UBlk):x.row.length=5:=rfl
theorem UCode.len3 (x:UCode):x.row.length=3:=rfl
theorem UBlk.sm.mono {b:UBlk} {N M:Nat} (h:b.sm N) (hm:N≤M):b.sm M:=⟨h.n,h.i,by have:=h.p;omega,h.ia,h.pa⟩
theorem UCode.sm.mono {c:UCode} {N M:Nat} (h:c.sm N) (hm:N≤M):c.sm M:=⟨h.b0,h.b,fun b hb=>(h.bs b hb).mono hm⟩
variable {H:Heap} {S:Nat→Bool}
theorem UBlk.frz (x:UBlk) {N:Nat} (hN:N≤1000) (hok:x.ok) (hs:x.sm N) (h:Held H S x.lg):∃d:BlkD,FrzL H S x.row d.cells∧d.sm:=by
 obtain⟨ps,hps,hpn,hpp⟩:=Qns (H:=H) (S:=S) (P:=fun p:PhiD=>p.args.length≤1000) (f:=UPhi.row) (g:=PhiD.cells) x.phis fun p hp=>
  ⟨⟨p.to,p.ns⟩,.cons (Qg rfl) (.cons (Gr.frzM (hok.a p hp) (h.r.l.m hp) (FrzR.same (Qv _))) .nil),hs.pa p hp⟩
 have h1:=hs.n
 have h2:=hs.i
 have h3:=hs.p
 exact⟨⟨ps,x.ins,x.jump,x.on,x.next⟩,.cons (Gr.frzM hok.p h.r.r hps) (.cons (Gr.frzM hok.i h.l (FrzR.same (Qnu _))) (.cons (Qg rfl) (.cons (Qg rfl) (.cons (FrzR.same (Qv _)).sl .nil)))),
  h1,h2,by show ps.length≤_;omega,hs.ia,hpp⟩
theorem UCode.frz (x:UCode) {N:Nat} (hN:N≤1000) (hok:x.ok) (hs:x.sm N) (h:Held H S x.lg):∃d:CodeD,FrzL H S x.row d.cells∧d.sm:=by
 obtain⟨bs,hbs,hbn,hbp⟩:=Qns (H:=H) (S:=S) (P:=BlkD.sm) (f:=UBlk.row) (g:=BlkD.cells) x.blocks fun b hb=>b.frz hN (hok.bs b hb) (hs.bs b hb) (h.l.m hb)
 have hb0:=hs.b0
 have hb1:=hs.b
 exact⟨⟨x.params,x.regs,bs⟩,.cons (Qg rfl) (.cons (Qg rfl) (.cons (Gr.frzM hok.b h.r hbs) .nil)),by show 0<bs.length;omega,by show bs.length≤_;omega,hbp,hok.p0,by have:=hok.p1;show x.params≤_;omega⟩
theorem UCodes.frz {us:List UCode} {N:Nat} (hN:N≤1000) {cc:C} {cl:List (Nat×Obj)} (hg:Gr cl 3 (us.map UCode.row) cc) (hu:∀u∈us,u.ok∧u.sm N) (h:Held H S (us.flatMap UCode.lg++cl)) :
  ∃cs:List CodeD,FrzC H S cc (.sl false 3 (Qp cs))∧cs.length=us.length∧∀c∈cs,c.sm:=by
 obtain⟨cs,h1,h2,h3⟩:=Qns (H:=H) (S:=S) (P:=CodeD.sm) (f:=UCode.row) (g:=CodeD.cells) us fun u hu2=>u.frz hN (hu u hu2).1 (hu u hu2).2 (h.l.m hu2)
 exact⟨cs,Gr.frzM hg h.r h1,h2,h3⟩
end Go.AE.Y

namespace Go.AE.Y
theorem Qr {α:Type} {l1 l2:List α} (h:∀f:List α→Nat,(∀a b,f (a++b)=f a+f b)→f []=0→(∀x l,f (x::l)=f [x]+f l)→(∀a b:List α,a.Perm b→f a=f b)→f l1=f l2):l1.Perm l2:=by
 classical
 exact List.perm_iff_count.2 fun a=>h (List.count a) (fun _ _=>List.count_append) rfl (fun x l=>by rw[List.count_cons,List.count_cons];simp;omega) (fun _ _ hp=>hp.count_eq a)
def UBlk.core (x:UBlk):List (Nat×Obj):=x.il++x.phis.flatMap UPhi.al
def Qair (us:List UCode) (ci bi:Nat) (hc:ci<us.length):List (Nat×Obj):=(us[ci].blocks.eraseIdx bi).flatMap UBlk.lg++(us.eraseIdx ci).flatMap UCode.lg
theorem Qbbc (us:List UCode) (ci bi:Nat) (hc:ci<us.length) (hb:bi<us[ci].blocks.length) :
  (us.flatMap UCode.lg).Perm (us[ci].bl++(us[ci].blocks[bi].pl++(us[ci].blocks[bi].core++Qair us ci bi hc))):=by
 refine Qr fun f hf h0 hc1 hp=>?_
 rw[hp _ _ (Qgu UCode.lg us ci hc)]
 simp only[hf,UCode.lg,Qair]
 rw[hp _ _ (Qgu UBlk.lg us[ci].blocks bi hb)]
 simp only[hf,UBlk.lg,UBlk.core]
 omega
def UCode.put (u:UCode) (bi:Nat) (b:UBlk) (bl:List (Nat×Obj)):UCode:={ u with blocks:=u.blocks.set bi b,bl:=bl }
theorem Qbd0 (us:List UCode) (ci bi:Nat) (hc:ci<us.length) (hb:bi<us[ci].blocks.length) (b:UBlk) (bl:List (Nat×Obj)) :
  ((us.set ci (us[ci].put bi b bl)).flatMap UCode.lg).Perm (bl++(b.pl++(b.core++Qair us ci bi hc))):=by
 refine Qr fun f hf h0 hc1 hp=>?_
 rw[hp _ _ (Qeu UCode.lg us ci _ hc)]
 simp only[hf,UCode.lg,Qair,UCode.put]
 rw[hp _ _ (Qeu UBlk.lg us[ci].blocks bi _ hb)]
 simp only[hf,UBlk.lg,UBlk.core]
 omega
theorem UBlk.core_snoc (b:UBlk) (p:UPhi) (pc:C) (pl:List (Nat×Obj)):UBlk.core { b with phis:=b.phis++[p],pc:=pc,pl:=pl }=b.core++p.al:=by
 simp[UBlk.core,List.flatMap_append]
theorem UCode.put_row (u:UCode) (bi:Nat) (b:UBlk) (bl:List (Nat×Obj)):(u.put bi b bl).row=u.row:=rfl
theorem Qbd1 (us:List UCode) (ci:Nat) (hc:ci<us.length) (u:UCode) (h:u.row=us[ci].row):(us.set ci u).map UCode.row=us.map UCode.row:=by
 rw[List.map_set,h]
 refine List.ext_getElem (by simp) fun i h1 h2=>?_
 rw[List.getElem_set]
 split
 ·rename_i h;subst h;simp
 ·rfl
theorem UCode.put_ok {u:UCode} {bi:Nat} {b:UBlk} {y:Nat} (h:u.ok) (hb:b.ok) (hbl:u.bl=[(y,.vec 5 (u.blocks.map UBlk.row))]):(u.put bi b [(y,.vec 5 ((u.blocks.set bi b).map UBlk.row))]).ok:=by
 refine⟨?_,fun b' hb'=>?_,h.p0,h.p1⟩
 ·rcases h.b with ⟨h1,h2,h3⟩|⟨y',h1,h2⟩
  ·rw[hbl]at h3;simp at h3
  ·rw[hbl]at h2
   have:y=y':=by simpa using h2
   subst this
   exact .inr ⟨y,by show u.bc=_;rw[h1];simp[UCode.put],rfl⟩
 ·rcases List.mem_or_eq_of_mem_set hb' with hb'|rfl
  ·exact h.bs _ hb'
  ·exact hb
theorem UCode.put_sm {u:UCode} {bi N:Nat} {b:UBlk} {bl:List (Nat×Obj)} (h:u.sm N) (hb:b.sm (N+1)):(u.put bi b bl).sm (N+1):=by
 refine⟨by show 0<(u.blocks.set bi b).length;simpa using h.b0,by show (u.blocks.set bi b).length≤_;simpa using h.b,fun b' hb'=>?_⟩
 rcases List.mem_or_eq_of_mem_set hb' with hb'|rfl
 ·exact (h.bs _ hb').mono (by omega)
 ·exact hb
theorem UCode.bvec {u:UCode} (h:u.ok) (h0:0<u.blocks.length):∃y,u.bc=.vsl y 5 0 u.blocks.length∧u.bl=[(y,.vec 5 (u.blocks.map UBlk.row))]:=by
 rcases h.b with ⟨h1,h2,h3⟩|⟨y,h1,h2⟩
 ·have:=List.map_eq_nil_iff.1 h2
  rw[this]at h0;simp at h0
 ·exact⟨y,by rw[h1];simp,h2⟩
end Go.AE.Y

namespace Go.AE.Y
def Q9f (us:List OCode) (ci bi:Nat) (hc:ci<us.length):List (Nat×Obj):=(us[ci].blocks.eraseIdx bi).flatMap OBlk.lg++(us.eraseIdx ci).flatMap OCode.lg
theorem Qa91 (us:List OCode) (ci bi:Nat) (hc:ci<us.length) (hb:bi<us[ci].blocks.length) :
  (us.flatMap OCode.lg).Perm (us[ci].bl++(us[ci].blocks[bi].lg++Q9f us ci bi hc)):=by
 refine Qr fun f hf h0 hc1 hp=>?_
 rw[hp _ _ (Qgu OCode.lg us ci hc)]
 simp only[hf,OCode.lg,Q9f]
 rw[hp _ _ (Qgu OBlk.lg us[ci].blocks bi hb)]
 simp only[hf]
 omega
def OCode.put (u:OCode) (bi:Nat) (b:OBlk) (bl:List (Nat×Obj)):OCode:={ u with blocks:=u.blocks.set bi b,bl:=bl }
theorem Qbdi (us:List OCode) (ci bi:Nat) (hc:ci<us.length) (hb:bi<us[ci].blocks.length) (b:OBlk) (bl:List (Nat×Obj)) :
  ((us.set ci (us[ci].put bi b bl)).flatMap OCode.lg).Perm (bl++(b.lg++Q9f us ci bi hc)):=by
 refine Qr fun f hf h0 hc1 hp=>?_
 rw[hp _ _ (Qeu OCode.lg us ci _ hc)]
 simp only[hf,OCode.lg,Q9f,OCode.put]
 rw[hp _ _ (Qeu OBlk.lg us[ci].blocks bi _ hb)]
 simp only[hf]
 omega
theorem Qbdj (us:List OCode) (ci:Nat) (hc:ci<us.length) (u:OCode) (h:u.row=us[ci].row):(us.set ci u).map OCode.row=us.map OCode.row:=by
 rw[List.map_set,h]
 refine List.ext_getElem (by simp) fun i h1 h2=>?_
 rw[List.getElem_set]
 split
 ·rename_i h;subst h;simp
 ·rfl
theorem OCode.put_ok {u:OCode} {bi:Nat} {b:OBlk} {y:Nat} (h:u.ok) (hb:b.ok) (hbl:u.bl=[(y,.vec 5 (u.blocks.map OBlk.row))]):(u.put bi b [(y,.vec 5 ((u.blocks.set bi b).map OBlk.row))]).ok:=by
 refine⟨?_,fun b' hb'=>?_⟩
 ·rcases h.b with ⟨h1,h2,h3⟩|⟨y',h1,h2⟩
  ·rw[hbl]at h3;simp at h3
  ·rw[hbl]at h2
   have:y=y':=by simpa using h2
   subst this
   exact .inr ⟨y,by show u.bc=_;rw[h1];simp[OCode.put],rfl⟩
 ·rcases List.mem_or_eq_of_mem_set hb' with hb'|rfl
  ·exact h.bs _ hb'
  ·exact hb
theorem OCode.put_sm {u:OCode} {bi:Nat} {b:OBlk} {bl:List (Nat×Obj)} {N:Nat} (h:u.sm N) (hb:b.sm (N+1)):(u.put bi b bl).sm (N+1):=by
 refine⟨by show 0<(u.blocks.set bi b).length;simpa using h.b0,by show (u.blocks.set bi b).length≤_;simpa using h.b,fun b' hb'=>?_,h.p0,h.p1⟩
 rcases List.mem_or_eq_of_mem_set hb' with hb'|rfl
 ·exact (h.bs _ hb').mono (by omega)
 ·exact hb
theorem OCode.bvec {u:OCode} (h:u.ok) (h0:0<u.blocks.length):∃y,u.bc=.vsl y 5 0 u.blocks.length∧u.bl=[(y,.vec 5 (u.blocks.map OBlk.row))]:=by
 rcases h.b with ⟨h1,h2,h3⟩|⟨y,h1,h2⟩
 ·have:=List.map_eq_nil_iff.1 h2
  rw[this]at h0;simp at h0
 ·exact⟨y,by rw[h1];simp,h2⟩
theorem OBlk.ivec {u:OBlk} (h:u.ok) (h0:0<u.ins.length):∃y,u.ic=.vsl y 4 0 u.ins.length∧u.il=[(y,.vec 4 (u.ins.map OIns.row))]:=by
 rcases h.i with ⟨h1,h2,h3⟩|⟨y,h1,h2⟩
 ·have:=List.map_eq_nil_iff.1 h2
  rw[this]at h0;simp at h0
 ·exact⟨y,by rw[h1];simp,h2⟩
variable {H0 H H2:Heap} {E X cl:List (Nat×Obj)}
theorem Qazm {us:List OCode} {ci bi yb:Nat} {u:OCode} {b:OBlk} (kn:Kn H0 H E (X++us.flatMap OCode.lg++cl)) (hc:ci<us.length) (hu:us[ci]=u) (hb:bi<u.blocks.length) (hub:u.blocks[bi]=b)
  (hbl:u.bl=[(yb,.vec 5 (u.blocks.map OBlk.row))]):Kn H0 H E ([(yb,.vec 5 (u.blocks.map OBlk.row))]++(b.lg++(Q9f us ci bi hc++(X++cl)))):=by
 subst hu;subst hub
 refine kn.perm (Qr fun f hf h0 hc1 hp=>?_)
 have h1:=hp _ _ (Qa91 us ci bi hc hb)
 rw[hbl]at h1
 simp only[hf]at h1⊢
 omega
theorem Qa25 {us:List OCode} {ci bi yb:Nat} {u:OCode} {b':OBlk} {cc:C} (hc:ci<us.length) (hu:us[ci]=u) (hb:bi<u.blocks.length)
  (hbl:u.bl=[(yb,.vec 5 (u.blocks.map OBlk.row))]) {N:Nat} (hok:∀u∈us,u.ok∧u.sm N) (hok':b'.ok) (hsm':b'.sm (N+1)) (hg:Gr cl 3 (us.map OCode.row) cc)
  (kn:Kn H0 H E ([(yb,.vec 5 ((u.blocks.set bi b').map OBlk.row))]++(b'.lg++(Q9f us ci bi hc++(X++cl))))) :
  ∃us':List OCode,us'.length=us.length∧Gr cl 3 (us'.map OCode.row) cc∧(∀u∈us',u.ok∧u.sm (N+1))∧Kn H0 H E (X++us'.flatMap OCode.lg++cl):=by
 obtain⟨h1,h2⟩:=hok _ (List.getElem_mem hc)
 rw[hu]at h1 h2
 refine⟨us.set ci (u.put bi b' [(yb,.vec 5 ((u.blocks.set bi b').map OBlk.row))]),by simp,?_,fun v hv=>?_,kn.perm (Qr fun f hf h0 hc1 hp=>?_)⟩
 ·rw[Qbdj us ci hc _ (by rw[hu];rfl)];exact hg
 ·rcases List.mem_or_eq_of_mem_set hv with hv|rfl
  ·exact⟨(hok v hv).1,(hok v hv).2.mono (by omega)⟩
  ·exact⟨OCode.put_ok h1 hok' hbl,OCode.put_sm h2 hsm'⟩
 ·subst hu
  have h1:=hp _ _ (Qbdi us ci bi hc hb b' [(yb,.vec 5 ((us[ci].blocks.set bi b').map OBlk.row))])
  simp only[hf]at h1⊢
  omega
theorem Q13 {l:List OBlk} {bi:Nat} {b:OBlk} (hb:bi<l.length) (h:b.row=(l[bi]).row):(l.set bi b).map OBlk.row=l.map OBlk.row:=by
 rw[List.map_set,h]
 refine List.ext_getElem (by simp) fun i h1 h2=>?_
 rw[List.getElem_set]
 split
 ·rename_i h;subst h;simp
 ·rfl
variable {b b':OBlk} {R:List (Nat×Obj)} {p:Nat×Obj}
theorem Qaeo {yi:Nat} (kn:Kn H0 H E ([p]++(b.lg++R))) (hil:b.il=[(yi,.vec 4 (b.ins.map OIns.row))]) :
  Kn H0 H E ([(yi,.vec 4 (b.ins.map OIns.row))]++([p]++(b.nx.lg++(b.phis.flatMap OPhi.lg++(b.pl++(b.ins.flatMap OIns.lg++R)))))):=by
 refine kn.perm (Qr fun f hf h0 hc1 hp=>?_)
 simp only[OBlk.lg,hil,hf]
 omega
theorem Qa3r {yi:Nat} {is:List OIns} (kn:Kn H0 H E ([(yi,.vec 4 (is.map OIns.row))]++([p]++(b.nx.lg++(b.phis.flatMap OPhi.lg++(b.pl++(b.ins.flatMap OIns.lg++R)))))))
  (hl:(is.flatMap OIns.lg).Perm (b.ins.flatMap OIns.lg)):Kn H0 H E ([p]++(OBlk.lg { b with ins:=is,il:=[(yi,.vec 4 (is.map OIns.row))] }++R)):=by
 refine kn.perm (Qr fun f hf h0 hc1 hp=>?_)
 have:=hp _ _ hl
 simp only[OBlk.lg,hf]
 omega
theorem Qwv {l:List OIns} {i:Nat} {x':OIns} (hi:i<l.length) (h:x'.lg=(l[i]).lg):((l.set i x').flatMap OIns.lg).Perm (l.flatMap OIns.lg):=by
 refine (Qeu OIns.lg l i x' hi).trans ?_
 rw[h]
 exact (Qgu OIns.lg l i hi).symm
theorem OBlk.ins_ok {yi:Nat} {i:Nat} {x':OIns} (h:b.ok) (hic:b.ic=.vsl yi 4 0 b.ins.length):OBlk.ok { b with ins:=b.ins.set i x',il:=[(yi,.vec 4 ((b.ins.set i x').map OIns.row))] }:=
 ⟨h.p,.inr ⟨yi,by show b.ic=_;rw[hic];simp,rfl⟩,h.a⟩
theorem OBlk.ins_sm {yi:Nat} {i:Nat} {x':OIns} {N:Nat} (h:b.sm N) (hx:x'.a.ns.length≤N+1):OBlk.sm { b with ins:=b.ins.set i x',il:=[(yi,.vec 4 ((b.ins.set i x').map OIns.row))] } (N+1):=by
 refine⟨h.n,by simpa using h.i,by have:=h.p;show b.phis.length≤_;omega,fun x hx2=>?_⟩
 rcases List.mem_or_eq_of_mem_set hx2 with hx2|rfl
 ·have:=h.ia x hx2;omega
 ·exact hx
end Go.AE.Y

namespace Go.AE.Y
abbrev Qlc:Nat:=13
abbrev Qld:Nat:=16
abbrev Qiv:Nat:=34
abbrev Qe7:Nat:=45
abbrev Qcn:Nat:=59
abbrev Qee:Nat:=60
abbrev Qi5:Nat:=61
abbrev Qct:Nat:=62
abbrev Qgy:Nat:=65
abbrev Qnl:Nat:=68
abbrev Qnp:Nat:=71
abbrev Quw:Nat:=76
abbrev Qk2:Nat:=77
abbrev Q2t:Nat:=80
abbrev Qnq:Nat:=81
abbrev Qk6:Nat:=83
abbrev Qav:Nat:=84
abbrev Qnk:Nat:=88
abbrev Qhf:Nat:=96
abbrev Qbj:Nat:=98
abbrev Qk3:Nat:=102
abbrev Qe8:Nat:=103
abbrev Qus:Nat:=112
abbrev Qut:Nat:=116
abbrev Q8:Nat:=117
abbrev Qjm:Nat:=118
abbrev Qn:Nat:=120
abbrev Qp3:Nat:=122
abbrev Qbr:Nat:=123
abbrev Qrk:Nat:=125
abbrev Qul:Nat:=126
abbrev Qb5:Nat:=128
abbrev Qdp:Nat:=129
abbrev Qdo:Nat:=130
abbrev Q2s:Nat:=137
abbrev Qf3:Nat:=138
abbrev Qbd:Nat:=140
abbrev Quo:Nat:=141
abbrev Qf6:Nat:=142
abbrev Qix:Nat:=143
abbrev Q2z:Nat:=146
abbrev Qno:Nat:=147
abbrev Quy:Nat:=149
abbrev Qag:Nat:=155
abbrev Qfc:Nat:=156
abbrev Qe9:Nat:=157
abbrev Qb8:Nat:=158
abbrev Qfa:Nat:=159
abbrev Qpz:Nat:=160
abbrev Qfb:Nat:=161
abbrev Qup:Nat:=162
abbrev Qk8:Nat:=164
abbrev Qff:Nat:=165
abbrev Qdq:Nat:=169
abbrev Qi2:Nat:=171
abbrev Qrn:Nat:=172
abbrev Q23:Nat:=173
abbrev Q2x:Nat:=174
abbrev Qaej:Nat:=175
abbrev Qrm:Nat:=176
abbrev Qcw:Nat:=181
abbrev Qco:Nat:=182
abbrev Qgv:Nat:=183
abbrev Qk4:Nat:=184
abbrev Qiw:Nat:=185
abbrev Quq:Nat:=186
abbrev Qhi:Nat:=198
abbrev Q20:Nat:=199
abbrev Qaq2:Nat:=200
abbrev Qiz:Nat:=201
abbrev Qdb:Nat:=202
abbrev Qk9:Nat:=203
abbrev Qef:Nat:=208
abbrev Qd1:Nat:=215
abbrev Q21:Nat:=216
abbrev Q22:Nat:=217
abbrev Qla:Nat:=218
abbrev Qan:Nat:=219
abbrev Qb6:Nat:=220
abbrev Qar:Nat:=221
abbrev Qa0:Nat:=222
abbrev Qax:Nat:=223
abbrev Qb4:Nat:=224
abbrev Qa7:Nat:=225
abbrev Qaq1:Nat:=226
abbrev Qaei:Nat:=227
abbrev Quk:Nat:=228
abbrev Qux:Nat:=230
abbrev Qi4:Nat:=231
abbrev Qi1:Nat:=232
abbrev Qea:Nat:=233
abbrev Qc3:Nat:=234
abbrev Qhh:Nat:=235
abbrev Qhg:Nat:=236
abbrev Qum:Nat:=237
abbrev Qi3:Nat:=238
abbrev Qb1:Nat:=239
abbrev Qf5:Nat:=240
abbrev Qfe:Nat:=241
abbrev Qf4:Nat:=242
abbrev Qev:Nat:=243
abbrev Qi0:Nat:=244
abbrev Q2v:Nat:=245
abbrev Qaeg:Nat:=246
abbrev Qaeh:Nat:=247
abbrev Q2y:Nat:=248
abbrev Qnm:Nat:=249
abbrev Qnn:Nat:=250
abbrev Qiy:Nat:=251
abbrev Qaqx:Nat:=252
abbrev Qazx:Nat:=253
abbrev Qk7:Nat:=254
abbrev Qa3o:Nat:=255
abbrev Qaqy:Nat:=256
abbrev Qaqz:Nat:=257
abbrev Qazy:Nat:=258
abbrev Qaz0:Nat:=259
abbrev Qazz:Nat:=260
abbrev Qaq0:Nat:=261
abbrev Qlb:Nat:=262
abbrev Quz:Nat:=263
abbrev Qgx:Nat:=264
abbrev Quu:Nat:=265
abbrev Qgz:Nat:=266
abbrev Q2w:Nat:=267
abbrev Qfg:Nat:=268
abbrev Qfh:Nat:=269
abbrev Qp0:Nat:=270
abbrev Qur:Nat:=273
abbrev Qp2:Nat:=274
abbrev Qp1:Nat:=275
abbrev Qce:Nat:=276
abbrev Quv:Nat:=287
abbrev Qrl:Nat:=288
abbrev Qnr:Nat:=289
abbrev Qk5:Nat:=290
abbrev Qfd:Nat:=291
abbrev Qcf:Nat:=292
abbrev Qun:Nat:=293
abbrev Q2u:Nat:=299
abbrev Qgw:Nat:=300
end Go.AE.Y

namespace Go.AE.Y
open Go.Proofs.Tryz
def Qw7:List Item:=cJ 5 .eql 4 0::[]
def Qw8:List Item:=.e none none (.sto 1 (.t 2) (.t 7))::[]
def Qasf:SC:=(.cond (.t 5) (.seq (.reg ( mJ 6 0::aJ 7 Q2z [.t 6]::Qw8) [2]) .ret) .skip)
def Qw9:List Item:=.e none none (.sto 1 (.t 2) (.t 9))::[]
def Qasg:SC:=(.seq (.reg ( mJ 8 0::aJ 9 Qno [.t 8]::Qw9) [2]) .ret)
def Qash:SC:=(.seq (.seq (.reg ( mJ 3 0::aJ 4 Qn [.t 3,kI 12]::Qw7) [0,2,5]) Qasf) Qasg)
def Qa53:SC:=(.seq (.reg ( eI 2 (.alloc [.sl true 3 []])::[]) [0,2]) Qash)
def Q3s:List RS:=[.cell 2 1 true]
theorem Qa4p:mFn prog Qhf 1 10 Qa53 Q3s=true:=by kernel_rfl
def Qaba:SC:=(.cond (.t 24) (.seq (.reg ( fI 4 (.mv (kI 0))::[]) [4]) .ret) .skip)
def Qabb:SC:=(.cond (.t 36) (.seq (.reg ( mJ 37 0::kJ 38 37::fJ 39 0 38::lJ 40 39::mJ 41 5::iJ 42 1 40 41::lJ 43 42::fI 44 (.cvt .i64 (.t 43))::mJ 45 1::bJ 46 .rem 44 45::mJ 4 46::[]) [4]) .ret) .skip)
def Qabc:SC:=(.seq (.reg ( mJ 96 6::mJ 97 1::bJ 98 .rem 96 97::mJ 4 98::[]) [4]) .ret)
def Qabd:SC:=(.seq (.reg ( mJ 92 6::mJ 93 6::cJ 94 .quo 93 64::bJ 95 .xor 92 94::mJ 6 95::[]) [1,6]) Qabc)
def Qabe:SC:=(.seq (.dreg 46 [0,1,2,3,4,5,6,7,8,9,10,11,12,13,14,15,16,17,18,19,20,21,22,23,24,25,26,27,28,29,30,31,32,33,34,35,36,37,38,39,40,41,42,43,44,45] ( mJ 47 0::kJ 48 47::fJ 49 0 48::lJ 50 49::mJ 51 5::mJ 52 0::kJ 53 52::fJ 54 0 53::lJ 55 54::nJ 56 55::bJ 57 .rem 51 56::iJ 58 1 50 57::lJ 59 58::fI 60 (.cvt .i64 (.t 59))::cJ 61 .mul 60 131::mJ 62 0::kJ 63 62::fJ 64 0 63::lJ 65 64::mJ 66 5::cJ 67 .mul 66 7::cJ 68 .add 67 3::mJ 69 0::kJ 70 69::fJ 71 0 70::lJ 72 71::nJ 73 72::bJ 74 .rem 68 73::iJ 75 1 65 74::lJ 76 75::fI 77 (.cvt .i64 (.t 76))::cJ 78 .mul 77 1117::bJ 79 .add 61 78::mJ 80 5::cJ 81 .mul 80 29::bJ 82 .add 79 81::mJ 83 5::mJ 84 0::kJ 85 84::fJ 86 0 85::lJ 87 86::nJ 88 87::bJ 89 .quo 83 88::cJ 90 .mul 89 53::bJ 91 .add 82 90::mJ 6 91::[]) [1,6]) Qabd)
def Qabf:SC:=(.seq (.seq (.reg ( mJ 30 5::mJ 31 0::kJ 32 31::fJ 33 0 32::lJ 34 33::nJ 35 34::bJ 36 .lss 30 35::[]) [0,1,5,36]) Qabb) Qabe)
def Qabg:SC:=(.seq (.reg ( mJ 25 0::kJ 26 25::fJ 27 1 26::lJ 28 27::cJ 29 .sub 28 1::mJ 5 29::[]) [0,1,5]) Qabf)
def Qabh:SC:=(.seq (.seq (.reg ( mJ 15 1::cJ 16 .lss 15 1::mJ 17 16::gFm 18 17 0::gF 19 17 (.nck (.t 18))::gFf 20 17 0 19::gFl 21 17 20::gF 22 17 (.len (.t 21))::gF 23 17 (.bin 0 .eql (.t 22) (kI 0))::fI 24 (.pick (.t 17) (.k (.c (.bool true))) (.t 23))::[]) [0,1,24]) Qaba) Qabg)
def Qabi:SC:=(.seq (.reg ( mJ 7 0::mJ 8 0::kJ 9 8::fJ 10 1 9::lJ 11 10::cJ 12 .add 11 1::kJ 13 7::fJ 14 1 13::.e none none (.sto 1 (.t 14) (.t 12))::[]) [0,1]) Qabh)
def Qaor:SC:=(.seq (.reg ( fI 4 (.mv (kI 0))::[]) [0,1]) Qabi)
def Qgc:List RS:=[.tmp 4]
theorem Qajg:mFn prog Qn 2 99 Qaor Qgc=true:=by kernel_rfl
def Q6l:List Item:=.e none none (.sto 1 (.t 3) (.t 9))::[]
def Q6m:List Item:=eI 3 (.alloc [.sl true 3 []])::Q6l
def Q6n:List Item:=aJ 9 Qi2 [.t 8]::Q6m
def Q6o:List Item:=.chk 11 none (.ld 1 false (.t 10))::iJ 17 3 11 16::mJ 4 17::[]
def Q6p:List Item:=.chk 21 none (.ld 1 false (.t 20))::iJ 29 5 21 28::mJ 5 29::[]
def Q6q:List Item:=mJ 6 41::[]
def Q6r:List Item:=kJ 49 46::fJ 50 2 49::.e none none (.sto 1 (.t 50) (.t 48))::[]
def Qa1z:SC:=(.cond (.t 58) (.reg ( mJ 59 5::kJ 60 59::fJ 61 4 60::lJ 62 61::mJ 63 6::fI 64 (.iad 1 (.t 62) (kI 0))::.e none none (.sto 1 (.t 64) (.t 63))::[]) [2,3]) .skip)
def Qa10:SC:=(.cond (.t 78) (.reg ( mJ 79 5::kJ 80 79::fJ 81 1 80::lJ 82 81::mJ 83 6::fI 84 (.iad 4 (.t 82) (kI 0))::fJ 85 1 84::.e none none (.sto 1 (.t 85) (.t 83))::[]) [2,3]) .skip)
def Q6s:List Item:=.chk 97 none (.ld 1 false (.t 96))::fI 108 (.iad 4 (.t 97) (kI 0))::fJ 109 2 108::.e none none (.sto 1 (.t 109) (.t 107))::[]
def Qavt:SC:=(.cond (.t 93) (.dreg 17 [0,1,2,3,4,5,6,7,8,9,10,11,12,13,3,14,15,16] ( mJ 94 5::kJ 95 94::fJ 96 1 95::lJ 97 96::mJ 98 5::kJ 99 98::fJ 100 1 99::lJ 101 100::fI 102 (.iad 4 (.t 101) (kI 0))::fJ 103 2 102::lJ 104 103::mJ 105 6::fI 106 (.bsl 1 [.t 105])::eI 107 (.app 1 (.t 104) (.t 106))::Q6s) [2,3]) .skip)
def Qy8:List Item:=kJ 122 112::fJ 123 0 122::.e none none (.sto 1 (.t 123) (.t 121))::[]
def Qy9:List Item:=.chk 130 none (.ld 1 false (.t 129))::bJ 133 .add 130 132::kJ 134 126::fJ 135 1 134::.e none none (.sto 1 (.t 135) (.t 133))::[]
def Qza:List Item:=.chk 147 none (.ld 1 false (.t 146))::fI 151 (.iad 4 (.t 147) (kI 0))::fJ 152 3 151::.e none none (.sto 1 (.t 152) (.t 150))::[]
def Qavu:SC:=(.cond (.t 143) (.dreg 10 [0,1,2,3,4,5,6,3,7,8,9] ( mJ 144 5::kJ 145 144::fJ 146 1 145::lJ 147 146::mJ 148 0::fI 149 (.bsl 1 [kI 256,kI (-1),kI 1])::aJ 150 Q8 [.t 148,.t 149]::Qza) [2,3]) .skip)
def Qavv:SC:=(.cond (.t 136) (.seq (.reg ( mJ 138 5::kJ 139 138::fJ 140 1 139::lJ 141 140::nJ 142 141::cJ 143 .gtr 142 0::[]) [0,2,3,5,143]) Qavu) .skip)
def Qavw:SC:=(.cond (.t 124) (.dreg 11 [0,1,2,3,4,5,6,4,7,8,9,10] ( mJ 126 4::mJ 127 4::kJ 128 127::fJ 129 0 128::lJ 130 129::mJ 131 0::aJ 132 Qn [.t 131,kI 2]::Qy9) [2,3]) (.seq (.reg ( cJ 137 .eql 43 7::mJ 136 137::[]) [0,2,3,5,136]) Qavv))
def Qavx:SC:=(.cond (.t 110) (.reg ( mJ 112 5::mJ 113 5::kJ 114 113::fJ 115 0 114::lJ 116 115::mJ 117 6::fI 118 (.bsl 1 [.t 117])::fI 119 (.bld [.int .i64 0,.sl true 1 []] [(0,1,kI 0),(1,1,.t 118)])::fI 120 (.bsl 2 [.t 119])::eI 121 (.app 2 (.t 116) (.t 120))::Qy8) [2,3]) (.seq (.reg ( cJ 125 .eql 43 6::mJ 124 125::[]) [0,2,3,4,5,43,124]) Qavw))
def Qavy:SC:=(.cond (.t 86) (.seq (.reg ( mJ 88 5::kJ 89 88::fJ 90 1 89::lJ 91 90::nJ 92 91::cJ 93 .gtr 92 0::[]) [2,3,5,6,93]) Qavt) (.seq (.reg ( cJ 111 .eql 43 5::mJ 110 111::[]) [0,2,3,4,5,6,43,110]) Qavx))
def Qavz:SC:=(.cond (.t 71) (.seq (.reg ( mJ 73 5::kJ 74 73::fJ 75 1 74::lJ 76 75::nJ 77 76::cJ 78 .gtr 77 0::[]) [2,3,5,6,78]) Qa10) (.seq (.reg ( cJ 87 .eql 43 4::mJ 86 87::[]) [0,2,3,4,5,6,43,86]) Qavy))
def Qav0:SC:=(.cond (.t 65) (.reg ( mJ 67 5::mJ 68 6::kJ 69 67::fJ 70 3 69::.e none none (.sto 1 (.t 70) (.t 68))::[]) [2,3]) (.seq (.reg ( cJ 72 .eql 43 3::mJ 71 72::[]) [0,2,3,4,5,6,43,71]) Qavz))
def Qav1:SC:=(.cond (.t 51) (.seq (.reg ( mJ 53 5::kJ 54 53::fJ 55 4 54::lJ 56 55::nJ 57 56::cJ 58 .gtr 57 0::[]) [2,3,5,6,58]) Qa1z) (.seq (.reg ( cJ 66 .eql 43 2::mJ 65 66::[]) [0,2,3,4,5,6,43,65]) Qav0))
def Qav2:SC:=(.cond (.t 44) (.reg ( mJ 46 5::mJ 47 0::aJ 48 Qn [.t 47,kI 5]::Q6r) [2,3]) (.seq (.reg ( cJ 52 .eql 43 1::mJ 51 52::[]) [0,2,3,4,5,6,43,51]) Qav1))
def Qav3:SC:=(.block 0 (.seq (.reg ( cJ 45 .eql 43 0::mJ 44 45::[]) [0,2,3,4,5,6,43,44]) Qav2))
def Qav4:SC:=(.seq (.reg ( tJ 153 1 3::.e none none (.sto 1 (.t 2) (.t 153))::[]) [2]) .ret)
def Qav5:SC:=(.seq (.seq (.reg ( mJ 42 0::aJ 43 Qn [.t 42,kI 32]::[]) [0,2,3,4,5,6,43]) Qav3) Qav4)
def Qav6:SC:=(.seq (.dreg 13 [0,1,2,3,4,5,6,7,8,9,10,11,12] ( mJ 30 0::mJ 31 4::kJ 32 31::fJ 33 1 32::lJ 34 33::mJ 35 4::kJ 36 35::fJ 37 2 36::lJ 38 37::nJ 39 38::fI 40 (.bsl 1 [kI (-1),.t 34,.t 39,kI 0,kI 1])::aJ 41 Q8 [.t 30,.t 40]::Q6q) [0,2,3,4,5,6]) Qav5)
def Qav7:SC:=(.seq (.dreg 13 [0,1,2,3,4,5,6,7,8,9,10,3,11,12] ( mJ 18 4::kJ 19 18::fJ 20 2 19::lJ 21 20::mJ 22 0::mJ 23 4::kJ 24 23::fJ 25 2 24::lJ 26 25::nJ 27 26::aJ 28 Qn [.t 22,.t 27]::Q6p) [0,2,3,4,5]) Qav6)
def Qav8:SC:=(.seq (.dreg 9 [0,1,2,3,4,5,6,1,7,8] ( fJ 10 0 3::lJ 11 10::mJ 12 0::fJ 13 0 3::lJ 14 13::nJ 15 14::aJ 16 Qn [.t 12,.t 15]::Q6o) [0,2,3,4]) Qav7)
def Qav9:SC:=(.seq (.reg ( mJ 7 0::aJ 8 Qrn [.t 7]::Q6n) [0,2,3]) Qav8)
def Qbao:SC:=(.seq (.reg ( eI 2 (.alloc [.sl true 3 []])::[]) [0,2]) Qav9)
def Qay4:List RS:=[.cell 2 1 true]
theorem Qa9p:mFn prog Q2z 1 154 Qbao Qay4=true:=by kernel_rfl
def Qxq:List Item:=cJ 6 .eql 5 0::[]
def Qxr:List Item:=.e none none (.sto 1 (.t 3) (.t 9))::[]
def Qxs:List Item:=eI 3 (.alloc [.sl true 3 []])::Qxr
def Qxt:List Item:=aJ 9 Q23 [.t 8]::Qxs
def Qasy:SC:=(.cond (.t 11) (.seq (.reg ( tJ 12 1 3::.e none none (.sto 1 (.t 2) (.t 12))::[]) [2]) .ret) .skip)
def Qasz:SC:=(.seq (.reg ( tJ 10 1 3::aJ 11 Qbj [.t 10]::[]) [0,2,3,11]) Qasy)
def Qas0:SC:=(.cond (.t 6) (.seq (.reg ( mJ 7 0::aJ 8 Q2x [.t 7]::Qxt) [0,2,3]) Qasz) .skip)
def Qxu:List Item:=.e none none (.sto 1 (.t 2) (.t 14))::[]
def Q4n:SC:=(.seq (.reg ( mJ 13 0::aJ 14 Qrn [.t 13]::Qxu) [2]) .ret)
def Qas1:SC:=(.seq (.seq (.reg ( mJ 4 0::aJ 5 Qn [.t 4,kI 2]::Qxq) [0,2,6]) Qas0) Q4n)
def Qa59:SC:=(.seq (.reg ( eI 2 (.alloc [.sl true 3 []])::[]) [0,2]) Qas1)
def Qr3:List RS:=[.cell 2 1 true]
theorem Qa4v:mFn prog Qno 1 15 Qa59 Qr3=true:=by kernel_rfl
def Qpf:List Item:=iJ 10 1 5 9::lJ 11 10::mJ 4 11::[]
def Qahe:SC:=(.seq (.reg ( mJ 5 1::mJ 6 0::mJ 7 1::nJ 8 7::aJ 9 Qn [.t 6,.t 8]::Qpf) [4]) .ret)
def Qauy:SC:=(.seq (.reg ( fI 4 (.mv (kI 0))::[]) [0,1]) Qahe)
def Q32:List RS:=[.tmp 4]
theorem Qarn:mFn prog Q8 2 12 Qauy Q32=true:=by kernel_rfl
def Qmt:List Item:=.e none none (.sto 1 (.t 3) (.t 5))::[]
def Qmu:List Item:=fJ 23 0 3::.e none none (.sto 1 (.t 23) (.t 22))::[]
def Qmv:List Item:=.chk 14 none (.ld 1 false (.t 13))::fI 21 (.bsl 3 [.t 20])::eI 22 (.app 3 (.t 14) (.t 21))::Qmu
def Qabo:SC:=(.reg ( mJ 11 4::cJ 12 .add 11 1::mJ 4 12::[]) [1,2,3,4])
def Qabp:SC:=(.seq (.block 1 (.dreg 12 [0,1,2,3,4,5,6,7,1,8,9,10,11] ( fJ 13 0 3::lJ 14 13::fJ 15 0 1::lJ 16 15::mJ 17 4::iJ 18 3 16 17::tJ 19 3 18::aJ 20 Qhi [.t 19]::Qmv) [1,2,3,4])) Qabo)
def Q64:SC:=(.seq (.seq (.reg ( mJ 6 4::fJ 7 0 1::lJ 8 7::nJ 9 8::bJ 10 .lss 6 9::[]) [1,2,3,4,10]) (.cond (.t 10) .skip (.exit 0))) Qabp)
def Qabq:SC:=(.seq (.reg ( tJ 24 1 3::.e none none (.sto 1 (.t 2) (.t 24))::[]) [2]) .ret)
def Qabr:SC:=(.seq (.seq (.reg ( fI 4 (.mv (kI 0))::[]) [1,2,3,4]) (.block 0 (.loop Q64))) Qabq)
def Qabs:SC:=(.seq (.reg ( fI 5 (.bld [.sl true 3 []] [])::eI 3 (.alloc [.sl true 3 []])::Qmt) [1,2,3]) Qabr)
def Qapj:SC:=(.seq (.reg ( fI 1 (.box (.t 0))::eI 2 (.alloc [.sl true 3 []])::[]) [1,2]) Qabs)
def Qw1:List RS:=[.cell 2 1 true]
theorem Qajl:mFn prog Qi2 1 25 Qapj Qw1=true:=by kernel_rfl
def Q7l:List Item:=.e none none (.sto 1 (.t 3) (.t 9))::[]
def Q7m:List Item:=mJ 4 12::[]
def Q7n:List Item:=fJ 24 0 3::.e none none (.sto 1 (.t 24) (.t 23))::[]
def Q7o:List Item:=.chk 18 none (.ld 1 false (.t 17))::fI 22 (.bsl 3 [.t 21])::eI 23 (.app 3 (.t 18) (.t 22))::Q7n
def Qa2l:SC:=(.reg ( mJ 15 4::cJ 16 .sub 15 1::mJ 4 16::[]) [0,2,3,4])
def Qa2m:SC:=(.seq (.block 1 (.dreg 9 [0,1,2,3,4,1,5,6,7,8] ( fJ 17 0 3::lJ 18 17::mJ 19 0::tJ 20 1 3::aJ 21 Q20 [.t 19,.t 20]::Q7o) [0,2,3,4])) Qa2l)
def Qaxq:SC:=(.seq (.seq (.reg ( mJ 13 4::cJ 14 .gtr 13 0::[]) [0,2,3,4,14]) (.cond (.t 14) .skip (.exit 0))) Qa2m)
def Q7p:List Item:=mJ 5 27::[]
def Q7q:List Item:=.chk 33 none (.ld 1 false (.t 32))::iJ 39 3 33 38::mJ 6 39::[]
def Q7r:List Item:=mJ 7 46::[]
def Qzx:List Item:=.e none none (.sto 2 (.t 8) (.t 53))::[]
def Qzy:List Item:=fI 53 (.bld [.int .i64 0,.sl true 1 []] [(0,1,.t 52)])::eI 8 (.alloc [.int .i64 0,.sl true 1 []])::Qzx
def Qzz:List Item:=nJ 59 58::fI 60 (.mv (kI 0))::[]
def Qz0:List Item:=fJ 72 1 8::.e none none (.sto 1 (.t 72) (.t 71))::[]
def Qz1:List Item:=.chk 63 none (.ld 1 false (.t 62))::fI 70 (.bsl 1 [.t 69])::eI 71 (.app 1 (.t 63) (.t 70))::Qz0
def Qaxd:SC:=(.reg ( cJ 73 .add 60 1::mJ 60 73::[]) [0,2,3,5,6,7,8,59,60])
def Qaxe:SC:=(.seq (.block 5 (.dreg 12 [0,1,2,3,4,5,6,7,1,8,9,10,11] ( fJ 62 1 8::lJ 63 62::mJ 64 0::mJ 65 6::kJ 66 65::fJ 67 1 66::lJ 68 67::aJ 69 Qn [.t 64,.t 68]::Qz1) [0,2,3,5,6,7,8,59,60])) Qaxd)
def Qapu:SC:=(.seq (.reg ( bJ 61 .lss 60 59::[]) [0,2,3,5,6,7,8,59,60,61]) (.seq (.cond (.t 61) .skip (.exit 4)) Qaxe))
def Qz2:List Item:=.chk 79 none (.ld 1 false (.t 78))::iJ 92 5 79 80::fJ 93 0 92::.e none none (.sto 1 (.t 93) (.t 91))::[]
def Qaxf:SC:=(.cond (.t 75) (.dreg 19 [0,1,2,3,4,5,6,7,8,9,10,11,12,13,14,15,3,16,17,18] ( mJ 76 6::kJ 77 76::fJ 78 2 77::lJ 79 78::mJ 80 7::mJ 81 6::kJ 82 81::fJ 83 2 82::lJ 84 83::mJ 85 7::iJ 86 5 84 85::fJ 87 0 86::lJ 88 87::tJ 89 2 8::fI 90 (.bsl 2 [.t 89])::eI 91 (.app 2 (.t 88) (.t 90))::Qz2) [0,2,3,5]) .skip)
def Qaxg:SC:=(.seq (.reg ( mJ 74 7::cJ 75 .gtr 74 0::[]) [0,2,3,5,6,7,8,75]) Qaxf)
def Qaxh:SC:=(.seq (.seq (.reg ( mJ 54 6::kJ 55 54::tJ 56 3 55::mJ 57 7::aJ 58 Qb5 [.t 56,.t 57]::Qzz) [0,2,3,5,6,7,8,59,60]) (.block 4 (.loop Qapu))) Qaxg)
def Qaxi:SC:=(.seq (.reg ( mJ 47 0::mJ 48 6::kJ 49 48::fJ 50 1 49::lJ 51 50::aJ 52 Qn [.t 47,.t 51]::Qzy) [0,2,3,5,6,7,8]) Qaxh)
def Qaxj:SC:=(.seq (.reg ( mJ 40 0::mJ 41 6::kJ 42 41::fJ 43 2 42::lJ 44 43::nJ 45 44::aJ 46 Qn [.t 40,.t 45]::Q7r) [0,2,3,5,6,7]) Qaxi)
def Qaxk:SC:=(.reg ( mJ 30 5::cJ 31 .sub 30 1::mJ 5 31::[]) [0,2,3,5])
def Qaxl:SC:=(.seq (.block 3 (.seq (.dreg 9 [0,1,2,3,4,5,6,1,7,8] ( fJ 32 0 3::lJ 33 32::mJ 34 0::fJ 35 0 3::lJ 36 35::nJ 37 36::aJ 38 Qn [.t 34,.t 37]::Q7q) [0,2,3,5,6]) Qaxj)) Qaxk)
def Qapv:SC:=(.seq (.seq (.reg ( mJ 28 5::cJ 29 .gtr 28 0::[]) [0,2,3,5,29]) (.cond (.t 29) .skip (.exit 2))) Qaxl)
def Qaxm:SC:=(.seq (.reg ( tJ 94 1 3::.e none none (.sto 1 (.t 2) (.t 94))::[]) [2]) .ret)
def Qaxn:SC:=(.seq (.seq (.reg ( mJ 25 0::fI 26 (.bsl 1 [kI 0,kI 0,kI 1,kI 3])::aJ 27 Q8 [.t 25,.t 26]::Q7p) [0,2,3,5]) (.block 2 (.loop Qapv))) Qaxm)
def Qaxo:SC:=(.seq (.seq (.reg ( mJ 10 0::fI 11 (.bsl 1 [kI 1,kI 2,kI 1,kI 3])::aJ 12 Q8 [.t 10,.t 11]::Q7m) [0,2,3,4]) (.block 0 (.loop Qaxq))) Qaxn)
def Qaxp:SC:=(.seq (.reg ( fI 9 (.bld [.sl true 3 []] [])::eI 3 (.alloc [.sl true 3 []])::Q7l) [0,2,3]) Qaxo)
def Qbau:SC:=(.seq (.reg ( eI 2 (.alloc [.sl true 3 []])::[]) [0,2]) Qaxp)
def Qay8:List RS:=[.cell 2 1 true]
theorem Qa9u:mFn prog Qrn 1 95 Qbau Qay8=true:=by kernel_rfl
def Qim:List Item:=oJ 11 10::[]
def Q1y:SC:=(.cond (.t 11) (.seq (.reg ( fI 2 (.mv (.k (.c (.bool false))))::[]) [2]) .ret) .skip)
def Qin:List Item:=.e none none (.sto 3 (.t 5) (.t 23))::[]
def Qcj:List Item:=gF 41 36 (.not (.t 40))::fI 42 (.pick (.t 36) (.k (.c (.bool true))) (.t 41))::[]
def Qdx:List Item:=gF 34 28 (.not (.t 33))::fI 35 (.pick (.t 28) (.k (.c (.bool true))) (.t 34))::mJ 36 35::gFf 37 36 2 5::gFl 38 36 37::gF 39 36 (.len (.t 38))::.e (some 40) (some (36,false)) (.call Qbd [.t 39,kI 1,kI 160])::Qcj
def Qio:List Item:=oJ 27 26::mJ 28 27::gFf 29 28 1 5::gFl 30 28 29::gFf 31 28 0 5::gFl 32 28 31::.e (some 33) (some (28,false)) (.call Qbd [.t 30,.t 32,kI 300])::Qdx
def s_sp_UnitValid_6:SC:=(.cond (.t 42) (.seq (.reg ( fI 2 (.mv (.k (.c (.bool false))))::[]) [2]) .ret) .skip)
def Qdy:List Item:=gF 74 69 (.not (.t 73))::fI 75 (.pick (.t 69) (.k (.c (.bool true))) (.t 74))::[]
def Qku:SC:=(.cond (.t 75) (.seq (.reg ( fI 2 (.mv (.k (.c (.bool false))))::[]) [2]) .ret) .skip)
def Q1z:SC:=(.seq (.reg ( mJ 67 3::cJ 68 .gtr 67 800::mJ 69 68::gF 70 69 (.ld 1 true (.t 1))::gFm 71 69 4::gFm 72 69 6::.e (some 73) (some (69,false)) (.call Quy [.t 70,.t 71,.t 72])::Qdy) [1,3,4,5,6,75]) Qku)
def Qik:SC:=(.reg ( mJ 48 6::cJ 49 .add 48 1::mJ 6 49::[]) [1,3,4,5,6])
def Qwj:SC:=(.seq (.block 3 (.seq (.dreg 18 [0,1,2,3,4,5,6,7,8,9,10,11,12,13,14,15,16,17] ( mJ 50 3::fJ 51 2 5::lJ 52 51::mJ 53 6::iJ 54 5 52 53::fJ 55 1 54::lJ 56 55::nJ 57 56::bJ 58 .add 50 57::fJ 59 2 5::lJ 60 59::mJ 61 6::iJ 62 5 60 61::fJ 63 0 62::lJ 64 63::nJ 65 64::bJ 66 .add 58 65::mJ 3 66::[]) [1,3,4,5,6]) Q1z)) Qik)
def Qua:SC:=(.seq (.seq (.reg ( mJ 43 6::fJ 44 2 5::lJ 45 44::nJ 46 45::bJ 47 .lss 43 46::[]) [1,3,4,5,6,47]) (.cond (.t 47) .skip (.exit 2))) Qwj)
def Qil:SC:=(.seq (.reg ( fI 6 (.mv (kI 0))::[]) [1,3,4,5,6]) (.block 2 (.loop Qua)))
def Qwk:SC:=(.seq (.seq (.reg ( fJ 24 0 5::lJ 25 24::aJ 26 Qbd [.t 25,kI 0,kI 3]::Qio) [1,3,4,5,42]) s_sp_UnitValid_6) Qil)
def Qdv:SC:=(.reg ( mJ 17 4::cJ 18 .add 17 1::mJ 4 18::[]) [1,3,4])
def Qwl:SC:=(.seq (.block 1 (.seq (.reg ( fJ 19 0 1::lJ 20 19::mJ 21 4::iJ 22 3 20 21::tJ 23 3 22::eI 5 (.alloc [.int .i64 0,.int .i64 0,.sl true 5 []])::Qin) [1,3,4,5]) Qwk)) Qdv)
def Qub:SC:=(.seq (.seq (.reg ( mJ 12 4::fJ 13 0 1::lJ 14 13::nJ 15 14::bJ 16 .lss 12 15::[]) [1,3,4,16]) (.cond (.t 16) .skip (.exit 0))) Qwl)
def Qdw:SC:=(.seq (.reg ( fI 2 (.mv (.k (.c (.bool true))))::[]) [2]) .ret)
def Qwm:SC:=(.seq (.seq (.reg ( fI 4 (.mv (kI 0))::[]) [1,3,4]) (.block 0 (.loop Qub))) Qdw)
def Qwn:SC:=(.seq (.reg ( fI 3 (.mv (kI 0))::[]) [1,3]) Qwm)
def Qwo:SC:=(.seq (.seq (.reg ( fJ 7 0 1::lJ 8 7::nJ 9 8::aJ 10 Qbd [.t 9,kI 1,kI 4]::Qim) [1,11]) Q1y) Qwn)
def Qacw:SC:=(.seq (.reg ( fI 1 (.box (.t 0))::fI 2 (.mv (.k (.c (.bool false))))::[]) [1]) Qwo)
def Qcq:List RS:=[.tmp 2]
theorem Q9y:mFn prog Qbj 1 76 Qacw Qcq=true:=by kernel_rfl
def Q8z:List Item:=.e none none (.sto 1 (.t 3) (.t 5))::[]
def Q80:List Item:=fJ 20 0 3::.e none none (.sto 1 (.t 20) (.t 19))::[]
def Q81:List Item:=.chk 14 none (.ld 1 false (.t 13))::fI 18 (.bsl 3 [.t 17])::eI 19 (.app 3 (.t 14) (.t 18))::Q80
def Qa2s:SC:=(.reg ( mJ 11 4::cJ 12 .add 11 1::mJ 4 12::[]) [1,2,3,4])
def Qa2t:SC:=(.seq (.block 1 (.dreg 9 [0,1,2,3,4,1,5,6,7,8] ( fJ 13 0 3::lJ 14 13::tJ 15 1 1::mJ 16 4::aJ 17 Qaq2 [.t 15,.t 16]::Q81) [1,2,3,4])) Qa2s)
def Qaxv:SC:=(.seq (.seq (.reg ( mJ 6 4::fJ 7 0 1::lJ 8 7::nJ 9 8::bJ 10 .lss 6 9::[]) [1,2,3,4,10]) (.cond (.t 10) .skip (.exit 0))) Qa2t)
def Qa2u:SC:=(.seq (.reg ( tJ 21 1 3::.e none none (.sto 1 (.t 2) (.t 21))::[]) [2]) .ret)
def Qa2v:SC:=(.seq (.seq (.reg ( fI 4 (.mv (kI 0))::[]) [1,2,3,4]) (.block 0 (.loop Qaxv))) Qa2u)
def Qa2w:SC:=(.seq (.reg ( fI 5 (.bld [.sl true 3 []] [])::eI 3 (.alloc [.sl true 3 []])::Q8z) [1,2,3]) Qa2v)
def Qbaz:SC:=(.seq (.reg ( fI 1 (.box (.t 0))::eI 2 (.alloc [.sl true 3 []])::[]) [1,2]) Qa2w)
def Qaza:List RS:=[.cell 2 1 true]
theorem Qa9w:mFn prog Q23 1 22 Qbaz Qaza=true:=by kernel_rfl
def Q6a:List Item:=mJ 3 13::[]
def Q6b:List Item:=fI 12 (.bld [.pnil,.sl true 3 [],.sl true 1 [],.int .i64 0,.int .i64 0] [(0,1,.t 8),(4,1,.t 11)])::eI 13 (.boxm (.t 12))::Q6a
def Q6c:List Item:=mJ 4 16::[]
def Q6d:List Item:=.chk 26 none (.ld 1 false (.t 25))::.chk 27 none (.len (.t 26))::.chk 28 none (.iad 1 (.t 22) (.t 27))::.chk 29 none (.ld 1 false (.t 28))::.e none none (.sto 3 (.t 5) (.t 32))::[]
def Q6e:List Item:=eI 5 (.alloc [.str [],.sl true 1 [],.sl true 5 []])::Q6d
def Q6f:List Item:=.chk 26 none (.ld 1 false (.t 25))::.chk 27 none (.len (.t 26))::.chk 28 none (.iad 1 (.t 22) (.t 27))::.chk 29 none (.ld 1 false (.t 28))::aJ 32 Qiz [.t 21,.t 29,.t 31]::Q6e
def Q6g:List Item:=kJ 41 33::fJ 42 1 41::.e none none (.sto 1 (.t 42) (.t 40))::[]
def Qa1n:SC:=(.dreg 11 [0,1,2,3,4,5,6,7,8,9,10] ( mJ 33 3::mJ 34 3::kJ 35 34::fJ 36 1 35::lJ 37 36::tJ 38 3 5::fI 39 (.bsl 3 [.t 38])::eI 40 (.app 3 (.t 37) (.t 39))::Q6g) [0,2,3,4])
def Qa1o:SC:=(.reg ( mJ 19 4::cJ 20 .sub 19 1::mJ 4 20::[]) [0,2,3,4])
def Qa1p:SC:=(.seq (.block 1 (.seq (.dreg 12 [0,1,2,3,4,5,6,7,8,9,10,5,6,7,8,11,12,5,6,7,8,13] ( mJ 21 3::fI 22 (.bsl 1 [.k (.c (.str [102])),.k (.c (.str [103])),.k (.c (.str [104]))])::mJ 23 3::kJ 24 23::fJ 25 1 24::lJ 26 25::nJ 27 26::iJ 28 1 22 27::lJ 29 28::mJ 30 0::aJ 31 Qn [.t 30,kI 3]::Q6f) [0,2,3,4,5]) Qa1n)) Qa1o)
def Qao1:SC:=(.seq (.seq (.reg ( mJ 17 4::cJ 18 .gtr 17 0::[]) [0,2,3,4,18]) (.cond (.t 18) .skip (.exit 0))) Qa1p)
def Qyz:List Item:=.e none none (.sto 3 (.t 6) (.t 47))::[]
def Qy0:List Item:=eI 6 (.alloc [.str [],.sl true 1 [],.sl true 5 []])::Qyz
def Qy1:List Item:=eI 47 (.call Qiz [.t 43,.k (.c (.str [109])),.t 46])::Qy0
def Qy2:List Item:=.chk 52 none (.ld 1 false (.t 51))::.chk 54 none (.ld 3 true (.t 6))::.e none none (.sto 1 (.t 7) (.t 57))::[]
def Qy3:List Item:=fI 57 (.bld [.sl true 3 []] [(0,1,.t 56)])::eI 7 (.alloc [.sl true 3 []])::Qy2
def Qy4:List Item:=.chk 54 none (.ld 3 true (.t 6))::eI 56 (.app 3 (.t 53) (.t 55))::Qy3
def Qy5:List Item:=oJ 60 59::[]
def Qau5:SC:=(.cond (.t 60) (.seq (.reg ( fI 61 (.bld [.int .i64 0,.int .i64 0,.str [],.sl true 4 []] [(0,1,kI 1),(1,1,kI 1)])::fI 62 (.bsl 4 [.t 61])::fI 63 (.bld [.int .i64 0,.str [],.sl true 4 [],.sl true 5 [],.sl true 5 []] [(0,1,kI 3),(2,1,.t 62)])::fI 64 (.bsl 5 [.t 63])::fI 65 (.bld [.str [],.sl true 1 [],.sl true 5 []] [(0,1,.k (.c (.str [109]))),(2,1,.t 64)])::fI 66 (.bsl 3 [.t 65])::fI 67 (.bld [.sl true 3 []] [(0,1,.t 66)])::.e none none (.sto 1 (.t 2) (.t 67))::[]) [2]) .ret) .skip)
def Qau6:SC:=(.seq (.reg ( tJ 68 1 7::.e none none (.sto 1 (.t 2) (.t 68))::[]) [2]) .ret)
def Qau7:SC:=(.seq (.seq (.seq .gh (.reg ( tJ 58 1 7::aJ 59 Qdb [.t 58]::Qy5) [2,7,60])) Qau5) Qau6)
def Qau8:SC:=(.seq (.dreg 10 [0,1,2,3,4,6,7,5,6,8,9,10,4,6,11] ( fI 48 (.bsl 3 [])::mJ 49 3::kJ 50 49::fJ 51 1 50::lJ 52 51::tJ 54 3 6::fI 55 (.bsl 3 [.t 54])::eI 53 (.app 3 (.t 48) (.t 52))::Qy4) [2,7]) Qau7)
def Qau9:SC:=(.seq (.reg ( mJ 43 3::mJ 44 0::fI 45 (.bsl 1 [kI 0,kI 1,kI 2,kI 1])::aJ 46 Q8 [.t 44,.t 45]::Qy1) [2,3,6]) Qau8)
def Qava:SC:=(.seq (.seq (.reg ( mJ 14 0::fI 15 (.bsl 1 [kI 0,kI 1,kI 1,kI 2])::aJ 16 Q8 [.t 14,.t 15]::Q6c) [0,2,3,4]) (.block 0 (.loop Qao1))) Qau9)
def Qavb:SC:=(.seq (.reg ( mJ 8 0::mJ 9 0::fI 10 (.bsl 1 [kI 14,kI 20,kI 8,kI 26])::aJ 11 Q8 [.t 9,.t 10]::Q6b) [0,2,3]) Qava)
def Qbal:SC:=(.seq (.reg ( eI 2 (.alloc [.sl true 3 []])::[]) [0,2]) Qavb)
def Qafg:List RS:=[.cell 2 1 true]
theorem Qa9m:mFn prog Q2x 1 69 Qbal Qafg=true:=by kernel_rfl
def Q65:List Item:=.e none none (.sto 3 (.t 3) (.t 9))::[]
def Q66:List Item:=fJ 27 2 3::.e none none (.sto 1 (.t 27) (.t 26))::[]
def Q67:List Item:=.chk 18 none (.ld 1 false (.t 17))::fI 25 (.bsl 5 [.t 24])::eI 26 (.app 5 (.t 18) (.t 25))::Q66
def Qa13:SC:=(.reg ( mJ 15 4::cJ 16 .add 15 1::mJ 4 16::[]) [1,2,3,4])
def Qa14:SC:=(.seq (.block 1 (.dreg 12 [0,1,2,3,4,5,6,7,1,8,9,10,11] ( fJ 17 2 3::lJ 18 17::fJ 19 2 1::lJ 20 19::mJ 21 4::iJ 22 5 20 21::tJ 23 5 22::aJ 24 Qd1 [.t 23]::Q67) [1,2,3,4])) Qa13)
def Qaww:SC:=(.seq (.seq (.reg ( mJ 10 4::fJ 11 2 1::lJ 12 11::nJ 13 12::bJ 14 .lss 10 13::[]) [1,2,3,4,14]) (.cond (.t 14) .skip (.exit 0))) Qa14)
def Qa15:SC:=(.seq (.reg ( tJ 28 3 3::.e none none (.sto 3 (.t 2) (.t 28))::[]) [2]) .ret)
def Qa16:SC:=(.seq (.seq (.reg ( fI 4 (.mv (kI 0))::[]) [1,2,3,4]) (.block 0 (.loop Qaww))) Qa15)
def Qa17:SC:=(.seq (.reg ( fJ 5 0 1::lJ 6 5::fJ 7 1 1::lJ 8 7::fI 9 (.bld [.int .i64 0,.int .i64 0,.sl true 5 []] [(0,1,.t 6),(1,1,.t 8)])::eI 3 (.alloc [.int .i64 0,.int .i64 0,.sl true 5 []])::Q65) [1,2,3]) Qa16)
def Qbaq:SC:=(.seq (.reg ( fI 1 (.box (.t 0))::eI 2 (.alloc [.int .i64 0,.int .i64 0,.sl true 5 []])::[]) [1,2]) Qa17)
def Qay6:List RS:=[.cell 2 3 true]
theorem Qa9r:mFn prog Qhi 1 29 Qbaq Qay6=true:=by kernel_rfl
def Qzs:List Item:=mJ 5 41::[]
def Qawy:SC:=(.cond (.t 37) (.seq (.reg ( mJ 38 5::mJ 39 6::fI 40 (.bsl 1 [.t 39])::eI 41 (.app 1 (.t 38) (.t 40))::Qzs) [1,2,5,6]) (.exit 2)) .skip)
def Qawz:SC:=(.reg ( mJ 25 7::cJ 26 .add 25 1::mJ 7 26::[]) [1,2,5,6,7])
def Qaw0:SC:=(.seq (.block 3 (.seq (.reg ( fJ 27 2 2::lJ 28 27::mJ 29 6::iJ 30 5 28 29::fJ 31 4 30::lJ 32 31::mJ 33 7::iJ 34 1 32 33::lJ 35 34::mJ 36 1::bJ 37 .eql 35 36::[]) [1,2,5,6,7,37]) Qawy)) Qawz)
def Qapp:SC:=(.seq (.seq (.reg ( mJ 16 7::fJ 17 2 2::lJ 18 17::mJ 19 6::iJ 20 5 18 19::fJ 21 4 20::lJ 22 21::nJ 23 22::bJ 24 .lss 16 23::[]) [1,2,5,6,7,24]) (.cond (.t 24) .skip (.exit 2))) Qaw0)
def Q69:SC:=(.reg ( mJ 14 6::cJ 15 .add 14 1::mJ 6 15::[]) [1,2,5,6])
def Qaw1:SC:=(.seq (.block 1 (.seq (.reg ( fI 7 (.mv (kI 0))::[]) [1,2,5,6,7]) (.block 2 (.loop Qapp)))) Q69)
def Qapq:SC:=(.seq (.seq (.reg ( mJ 9 6::fJ 10 2 2::lJ 11 10::nJ 12 11::bJ 13 .lss 9 12::[]) [1,2,5,6,13]) (.cond (.t 13) .skip (.exit 0))) Qaw1)
def Q7a:SC:=(.seq (.reg ( mJ 42 5::mJ 4 42::[]) [4]) .ret)
def Qaw2:SC:=(.seq (.seq (.reg ( fI 6 (.mv (kI 0))::[]) [1,2,5,6]) (.block 0 (.loop Qapq))) Q7a)
def Qapo:SC:=(.seq (.reg ( fI 8 (.bsl 1 [])::mJ 5 8::[]) [1,2,5]) Qaw2)
def Qa7a:SC:=(.seq (.reg ( fI 2 (.box (.t 0))::fI 4 (.mv (.k (.c (.sl true 1 []))))::[]) [1,2]) Qapo)
def Q37:List RS:=[.tmp 4]
theorem Qa5e:mFn prog Qb5 2 43 Qa7a Q37=true:=by kernel_rfl
def Q6u:List Item:=.e none none (.sto 3 (.t 5) (.t 13))::[]
def Q6v:List Item:=fI 13 (.bld [.int .i64 0,.int .i64 0,.sl true 5 []] [(0,1,.t 12)])::eI 5 (.alloc [.int .i64 0,.int .i64 0,.sl true 5 []])::Q6u
def Q6w:List Item:=.chk 15 none (.ld 1 false (.t 14))::bJ 19 .add 16 18::fJ 20 1 5::.e none none (.sto 1 (.t 20) (.t 19))::[]
def Q6x:List Item:=mJ 6 23::[]
def Q6y:List Item:=.e none none (.sto 5 (.t 8) (.t 29))::[]
def Q6z:List Item:=mJ 9 32::[]
def Q60:List Item:=fJ 46 1 8::.e none none (.sto 1 (.t 46) (.t 45))::[]
def Q61:List Item:=.chk 38 none (.ld 1 false (.t 37))::fI 44 (.bsl 4 [.t 43])::eI 45 (.app 4 (.t 38) (.t 44))::Q60
def Qa11:SC:=(.reg ( mJ 35 9::cJ 36 .sub 35 1::mJ 9 36::[]) [0,3,4,5,6,7,8,9])
def Qa12:SC:=(.seq (.block 3 (.dreg 11 [0,1,2,3,4,5,6,1,7,8,9,10] ( fJ 37 1 8::lJ 38 37::mJ 39 0::tJ 40 1 3::fJ 41 1 5::lJ 42 41::aJ 43 Q21 [.t 39,.t 40,.t 42]::Q61) [0,3,4,5,6,7,8,9])) Qa11)
def Qaph:SC:=(.seq (.seq (.reg ( mJ 33 9::cJ 34 .gtr 33 0::[]) [0,3,4,5,6,7,8,9,34]) (.cond (.t 34) .skip (.exit 2))) Qa12)
def Qzj:List Item:=fJ 51 3 8::.e none none (.sto 1 (.t 51) (.t 50))::[]
def Qzk:List Item:=fJ 55 2 8::.e none none (.sto 1 (.t 55) (.t 54))::[]
def Qgl:List Item:=gT 66 63 (.bin 0 .gtr (.t 65) (kI 0))::gF 67 58 (.pick (.t 63) (.t 66) (.k (.c (.bool false))))::fI 68 (.pick (.t 58) (.k (.c (.bool true))) (.t 67))::[]
def Q6t:SC:=(.cond (.t 68) (.reg ( fJ 69 2 8::.e none none (.sto 1 (.t 69) (kI 3))::[]) [0,3,4,5,6,7,8]) .skip)
def Qzl:List Item:=fI 79 (.bsl 1 [.t 78])::fJ 80 4 8::.e none none (.sto 1 (.t 80) (.t 79))::[]
def Qawf:SC:=(.reg ( mJ 75 0::mJ 76 7::mJ 77 6::aJ 78 Q22 [.t 75,.t 76,.t 77]::Qzl) [0,3,4,5,6,7,8])
def Qzm:List Item:=fI 91 (.bsl 1 [.t 86,.t 90])::fJ 92 4 8::.e none none (.sto 1 (.t 92) (.t 91))::[]
def Qzn:List Item:=mJ 87 0::mJ 88 7::mJ 89 6::aJ 90 Q22 [.t 87,.t 88,.t 89]::Qzm
def Qawg:SC:=(.cond (.t 81) (.reg ( mJ 83 0::mJ 84 7::mJ 85 6::aJ 86 Q22 [.t 83,.t 84,.t 85]::Qzn) [0,3,4,5,6,7,8]) .skip)
def Qawh:SC:=(.cond (.t 72) (.seq (.reg ( fJ 74 3 8::.e none none (.sto 1 (.t 74) (kI 0))::[]) [0,3,4,5,6,7,8]) Qawf) (.seq (.reg ( cJ 82 .eql 71 2::mJ 81 82::[]) [0,3,4,5,6,7,8,81]) Qawg))
def Qawi:SC:=(.block 4 (.seq (.reg ( cJ 73 .eql 71 1::mJ 72 73::[]) [0,3,4,5,6,7,8,71,72]) Qawh))
def Qzo:List Item:=fJ 98 2 5::.e none none (.sto 1 (.t 98) (.t 97))::[]
def Qawj:SC:=(.reg ( fJ 93 2 5::lJ 94 93::tJ 95 5 8::fI 96 (.bsl 5 [.t 95])::eI 97 (.app 5 (.t 94) (.t 96))::Qzo) [0,3,4,5,6,7])
def Qawk:SC:=(.seq (.seq (.reg ( fJ 70 2 8::lJ 71 70::[]) [0,3,4,5,6,7,8,71]) Qawi) Qawj)
def Qawl:SC:=(.seq (.seq (.reg ( mJ 56 6::cJ 57 .eql 56 1::mJ 58 57::gFm 59 58 7::gFm 60 58 6::gF 61 58 (.bin 0 .sub (.t 60) (kI 1))::gF 62 58 (.bin 0 .eql (.t 59) (.t 61))::gFm 63 58 62::gTm 64 63 0::.e (some 65) (some (63,true)) (.call Qn [.t 64,kI 3])::Qgl) [0,3,4,5,6,7,8,68]) Q6t) Qawk)
def Qawm:SC:=(.seq (.reg ( mJ 52 0::fI 53 (.bsl 1 [kI 2,kI 1,kI 2,kI 1,kI 3])::aJ 54 Q8 [.t 52,.t 53]::Qzk) [0,3,4,5,6,7,8]) Qawl)
def Qawn:SC:=(.seq (.reg ( mJ 47 0::fJ 48 1 5::lJ 49 48::aJ 50 Qn [.t 47,.t 49]::Qzj) [0,3,4,5,6,7,8]) Qawm)
def Qawo:SC:=(.seq (.seq (.reg ( mJ 30 0::fI 31 (.bsl 1 [kI 1,kI 2,kI 0,kI 3,kI 4])::aJ 32 Q8 [.t 30,.t 31]::Q6z) [0,3,4,5,6,7,8,9]) (.block 2 (.loop Qaph))) Qawn)
def Qawp:SC:=(.reg ( mJ 27 7::cJ 28 .add 27 1::mJ 7 28::[]) [0,3,4,5,6,7])
def Qawq:SC:=(.seq (.block 1 (.seq (.reg ( fI 29 (.bld [.sl true 2 [],.sl true 4 [],.int .i64 0,.int .i64 0,.sl true 1 []] [])::eI 8 (.alloc [.sl true 2 [],.sl true 4 [],.int .i64 0,.int .i64 0,.sl true 1 []])::Q6y) [0,3,4,5,6,7,8]) Qawo)) Qawp)
def Qapi:SC:=(.seq (.seq (.reg ( mJ 24 7::mJ 25 6::bJ 26 .lss 24 25::[]) [0,3,4,5,6,7,26]) (.cond (.t 26) .skip (.exit 0))) Qawq)
def Qawr:SC:=(.seq (.reg ( tJ 99 3 5::.e none none (.sto 3 (.t 4) (.t 99))::[]) [4]) .ret)
def Qaws:SC:=(.seq (.seq (.reg ( fI 7 (.mv (kI 0))::[]) [0,3,4,5,6,7]) (.block 0 (.loop Qapi))) Qawr)
def Qawt:SC:=(.seq (.reg ( mJ 21 0::fI 22 (.bsl 1 [kI 3,kI 5,kI 2,kI 1,kI 7,kI 4])::aJ 23 Q8 [.t 21,.t 22]::Q6x) [0,3,4,5,6]) Qaws)
def Qawu:SC:=(.seq (.dreg 8 [0,1,2,3,4,1,5,6,7] ( fJ 14 0 5::lJ 15 14::cJ 16 .add 15 2::mJ 17 0::aJ 18 Qn [.t 17,kI 5]::Q6w) [0,3,4,5]) Qawt)
def Qawv:SC:=(.seq (.reg ( mJ 10 0::fI 11 (.bsl 1 [kI 1,kI 0,kI 2,kI 3])::aJ 12 Q8 [.t 10,.t 11]::Q6v) [0,3,4,5]) Qawu)
def Qbap:SC:=(.seq (.reg ( fI 3 (.box (.t 1))::eI 4 (.alloc [.int .i64 0,.int .i64 0,.sl true 5 []])::[]) [0,3,4]) Qawv)
def Qay5:List RS:=[.cell 4 3 true]
theorem Qa9q:mFn prog Q20 2 100 Qbap Qay5=true:=by kernel_rfl
def Qbaa:SC:=(.seq (.reg ( mJ 7 0::mJ 8 1::bJ 9 .geq 7 8::mJ 10 9::gTm 11 10 0::gTm 12 10 2::gT 13 10 (.bin 0 .leq (.t 11) (.t 12))::fI 14 (.pick (.t 10) (.t 13) (.k (.c (.bool false))))::mJ 6 14::[]) [6]) .ret)
def Qbe4:SC:=(.seq (.reg ( fI 6 (.mv (.k (.c (.bool false))))::[]) [0,1,2]) Qbaa)
def Qbbo:List RS:=[.tmp 6]
theorem Qbeu:mFn prog Qbd 3 15 Qbe4 Qbbo=true:=by kernel_rfl
def Qzg:List Item:=.e none none (.sto 3 (.t 7) (.t 18))::[]
def Qzh:List Item:=.e none none (.sto 5 (.t 8) (.t 23))::[]
def Qawa:SC:=(.cond (.t 30) (.seq (.reg ( fI 6 (.mv (.k (.c (.bool false))))::[]) [6]) .ret) .skip)
def Qawb:SC:=(.cond (.t 33) (.reg ( fI 9 (.mv (kI 0))::[]) [1,2,3,7,8,9]) (.seq (.reg ( fI 6 (.mv (.k (.c (.bool false))))::[]) [6]) .ret))
def Qawc:SC:=(.cond (.t 31) (.reg ( fI 9 (.mv (kI 2))::[]) [1,2,3,7,8,9]) (.seq (.reg ( cJ 34 .eql 25 3::mJ 33 34::[]) [1,2,3,7,8,33]) Qawb))
def Qawd:SC:=(.cond (.t 26) (.seq (.reg ( fJ 28 3 8::lJ 29 28::cJ 30 .neq 29 0::[]) [1,2,3,7,8,9,30]) Qawa) (.seq (.reg ( cJ 32 .eql 25 2::mJ 31 32::[]) [1,2,3,7,8,25,31]) Qawc))
def Qawe:SC:=(.block 0 (.seq (.reg ( cJ 27 .eql 25 1::mJ 26 27::[]) [1,2,3,7,8,9,25,26]) Qawd))
def Qgk:List Item:=gT 51 44 (.not (.t 50))::gF 52 40 (.pick (.t 44) (.t 51) (.k (.c (.bool false))))::fI 53 (.pick (.t 40) (.k (.c (.bool true))) (.t 52))::[]
def s_l7Block_8:SC:=(.cond (.t 53) (.seq (.reg ( fI 6 (.mv (.k (.c (.bool false))))::[]) [6]) .ret) .skip)
def Qzi:List Item:=oJ 71 70::[]
def Qao3:SC:=(.cond (.t 71) (.seq (.reg ( fI 6 (.mv (.k (.c (.bool false))))::[]) [6]) .ret) .skip)
def Qao4:SC:=(.reg ( mJ 59 10::cJ 60 .add 59 1::mJ 10 60::[]) [1,2,3,7,8,10])
def Qao5:SC:=(.seq (.block 2 (.seq (.dreg 11 [0,1,2,3,4,5,6,7,8,9,10] ( fJ 61 4 8::lJ 62 61::mJ 63 10::iJ 64 1 62 63::lJ 65 64::fJ 66 2 7::lJ 67 66::nJ 68 67::cJ 69 .sub 68 1::aJ 70 Qbd [.t 65,kI 1,.t 69]::Qzi) [1,2,3,7,8,10,71]) Qao3)) Qao4)
def Qaho:SC:=(.seq (.seq (.reg ( mJ 54 10::fJ 55 4 8::lJ 56 55::nJ 57 56::bJ 58 .lss 54 57::[]) [1,2,3,7,8,10,58]) (.cond (.t 58) .skip (.exit 1))) Qao5)
def Qtx:List Item:=oJ 87 86::[]
def Qao6:SC:=(.cond (.t 87) (.seq (.reg ( fI 6 (.mv (.k (.c (.bool false))))::[]) [6]) .ret) .skip)
def Qao7:SC:=(.reg ( mJ 77 11::cJ 78 .add 77 1::mJ 11 78::[]) [1,2,3,7,8,11])
def Qao8:SC:=(.seq (.block 4 (.seq (.dreg 9 [0,1,2,3,4,5,6,7,8] ( tJ 79 1 3::mJ 80 1::fJ 81 1 8::lJ 82 81::mJ 83 11::iJ 84 4 82 83::tJ 85 4 84::aJ 86 Qaej [.t 79,.t 80,.t 85]::Qtx) [1,2,3,7,8,11,87]) Qao6)) Qao7)
def Qahp:SC:=(.seq (.seq (.reg ( mJ 72 11::fJ 73 1 8::lJ 74 73::nJ 75 74::bJ 76 .lss 72 75::[]) [1,2,3,7,8,11,76]) (.cond (.t 76) .skip (.exit 3))) Qao8)
def Qty:List Item:=mJ 12 90::[]
def Qez:List Item:=gF 134 123 (.not (.t 133))::fI 135 (.pick (.t 123) (.k (.c (.bool true))) (.t 134))::[]
def Qjg:List Item:=gF 121 112 (.not (.t 120))::fI 122 (.pick (.t 112) (.k (.c (.bool true))) (.t 121))::mJ 123 122::gFf 124 123 0 8::gFl 125 123 124::gFm 126 123 13::gF 127 123 (.iad 2 (.t 125) (.t 126))::gFf 128 123 0 127::gFl 129 123 128::gFf 130 123 1 7::gFl 131 123 130::gF 132 123 (.bin 0 .sub (.t 131) (kI 1))::.e (some 133) (some (123,false)) (.call Qbd [.t 129,kI 0,.t 132])::Qez
def Qzb:SC:=(.cond (.t 135) (.seq (.reg ( fI 6 (.mv (.k (.c (.bool false))))::[]) [6]) .ret) .skip)
def Qzc:SC:=(.reg ( mJ 96 13::cJ 97 .add 96 1::mJ 13 97::[]) [2,7,8,12,13])
def Qao9:SC:=(.seq (.block 6 (.seq (.dreg 38 [0,1,2,3,4,5,6,7,8,9,10,11,12,13,14,15,16,17,18,19,20,21,22,23,24,25,26,27,28,29,30,31,32,33,34,35,36,37] ( mJ 98 2::cJ 99 .eql 98 0::mJ 100 99::gFf 101 100 0 8::gFl 102 100 101::gFm 103 100 13::gF 104 100 (.iad 2 (.t 102) (.t 103))::gFf 105 100 1 104::gFl 106 100 105::gF 107 100 (.len (.t 106))::gFm 108 100 12::gF 109 100 (.len (.t 108))::gF 110 100 (.bin 0 .neq (.t 107) (.t 109))::fI 111 (.pick (.t 100) (.k (.c (.bool true))) (.t 110))::mJ 112 111::gF 113 112 (.ld 3 true (.t 7))::gFf 114 112 0 8::gFl 115 112 114::gFm 116 112 13::gF 117 112 (.iad 2 (.t 115) (.t 116))::gFf 118 112 1 117::gFl 119 112 118::.e (some 120) (some (112,false)) (.call Qrm [.t 113,.t 119])::Qjg) [2,7,8,12,13,135]) Qzb)) Qzc)
def Qahq:SC:=(.seq (.seq (.reg ( mJ 91 13::fJ 92 0 8::lJ 93 92::nJ 94 93::bJ 95 .lss 91 94::[]) [2,7,8,12,13,95]) (.cond (.t 95) .skip (.exit 5))) Qao9)
def Qzd:SC:=(.seq (.reg ( fI 6 (.mv (.k (.c (.bool true))))::[]) [6]) .ret)
def Qapa:SC:=(.seq (.seq (.reg ( fI 13 (.mv (kI 0))::[]) [2,7,8,12,13]) (.block 5 (.loop Qahq))) Qzd)
def Qapb:SC:=(.seq (.reg ( tJ 88 3 7::mJ 89 2::aJ 90 Qb5 [.t 88,.t 89]::Qty) [2,7,8,12]) Qapa)
def Qapc:SC:=(.seq (.seq (.reg ( fI 11 (.mv (kI 0))::[]) [1,2,3,7,8,11]) (.block 3 (.loop Qahp))) Qapb)
def Qze:SC:=(.seq (.seq (.reg ( fI 10 (.mv (kI 0))::[]) [1,2,3,7,8,10]) (.block 1 (.loop Qaho))) Qapc)
def Qzf:SC:=(.seq (.seq (.reg ( fJ 35 4 8::lJ 36 35::nJ 37 36::mJ 38 9::bJ 39 .neq 37 38::mJ 40 39::gFf 41 40 2 8::gFl 42 40 41::gF 43 40 (.bin 0 .neq (.t 42) (kI 1))::gFm 44 40 43::gTf 45 44 3 8::gTl 46 44 45::gTf 47 44 1 7::gTl 48 44 47::gT 49 44 (.bin 0 .sub (.t 48) (kI 1))::.e (some 50) (some (44,true)) (.call Qbd [.t 46,kI 0,.t 49])::Qgk) [1,2,3,7,8,53]) s_l7Block_8) Qze)
def Qapd:SC:=(.seq (.seq (.reg ( fJ 24 2 8::lJ 25 24::[]) [1,2,3,7,8,9,25]) Qawe) Qzf)
def Qape:SC:=(.seq (.reg ( fI 9 (.mv (kI 1))::[]) [1,2,3,7,8,9]) Qapd)
def Qapf:SC:=(.seq (.reg ( fJ 19 2 7::lJ 20 19::mJ 21 2::iJ 22 5 20 21::tJ 23 5 22::eI 8 (.alloc [.sl true 2 [],.sl true 4 [],.int .i64 0,.int .i64 0,.sl true 1 []])::Qzh) [1,2,3,7,8]) Qape)
def Qapg:SC:=(.seq (.reg ( fJ 14 0 3::lJ 15 14::mJ 16 1::iJ 17 3 15 16::tJ 18 3 17::eI 7 (.alloc [.int .i64 0,.int .i64 0,.sl true 5 []])::Qzg) [1,2,3,7]) Qapf)
def Qa67:SC:=(.seq (.reg ( fI 3 (.box (.t 0))::fI 6 (.mv (.k (.c (.bool false))))::[]) [1,2,3]) Qapg)
def Qhr:List RS:=[.tmp 6]
theorem Qa5c:mFn prog Quy 3 136 Qa67 Qhr=true:=by kernel_rfl
def Qapw:List Item:=.e none none (.sto 3 (.t 5) (.t 13))::[]
def Qapx:List Item:=mJ 6 19::[]
def Qapy:List Item:=.chk 29 none (.ld 1 false (.t 28))::.chk 30 none (.len (.t 29))::bJ 34 .add 30 33::kJ 35 27::fJ 36 1 35::fJ 37 1 36::.e none none (.sto 1 (.t 37) (.t 34))::[]
def Qapz:List Item:=kJ 59 45::fJ 60 5 59::.e none none (.sto 1 (.t 60) (.t 58))::[]
def Qbav:SC:=(.reg ( mJ 43 7::cJ 44 .add 43 1::mJ 7 44::[]) [4,5,6,7])
def Qbaw:SC:=(.seq (.block 1 (.dreg 17 [0,1,2,3,4,5,6,7,8,9,10,11,12,13,14,15,16] ( mJ 45 6::mJ 46 6::kJ 47 46::fJ 48 5 47::lJ 49 48::fJ 50 1 5::lJ 51 50::mJ 52 7::iJ 53 1 51 52::lJ 54 53::mJ 55 7::fI 56 (.bld [.str [],.int .i64 0,.int .i64 0] [(0,1,.t 54),(1,1,.t 55),(2,1,kI 0)])::fI 57 (.bsl 3 [.t 56])::eI 58 (.app 3 (.t 49) (.t 57))::Qapz) [4,5,6,7])) Qbav)
def Qa7k:SC:=(.seq (.seq (.reg ( mJ 38 7::fJ 39 1 5::lJ 40 39::nJ 41 40::bJ 42 .lss 38 41::[]) [4,5,6,7,42]) (.cond (.t 42) .skip (.exit 0))) Qbaw)
def Qap0:List Item:=mJ 8 71::[]
def Qap1:List Item:=fI 70 (.bsl 1 [])::aJ 71 Qar [.t 67,kI 1,.t 69,kI 0,.t 70]::Qap0
def Qbax:SC:=(.seq (.reg ( mJ 76 6::kJ 77 76::fJ 78 1 77::tJ 79 3 78::.e none none (.sto 3 (.t 4) (.t 79))::[]) [4]) .ret)
def Qa7b:SC:=(.seq (.reg ( mJ 72 6::mJ 73 8::fI 74 (.bsl 1 [])::aJ 75 Qax [.t 72,kI 3,.t 73,.t 74,kI 0]::[]) [4,6]) Qbax)
def Qa7c:SC:=(.seq (.reg ( mJ 67 6::mJ 68 6::aJ 69 Qa0 [.t 68]::Qap1) [4,6,8]) Qa7b)
def Qa7d:SC:=(.seq (.reg ( mJ 63 6::fJ 64 2 5::lJ 65 64::aJ 66 Qb6 [.t 63,.t 65]::[]) [4,6]) Qa7c)
def Qa7e:SC:=(.seq (.reg ( mJ 61 6::aJ 62 Qan [.t 61]::[]) [4,5,6]) Qa7d)
def Qa7f:SC:=(.seq (.seq (.reg ( fI 7 (.mv (kI 0))::[]) [4,5,6,7]) (.block 0 (.loop Qa7k))) Qa7e)
def Qa7g:SC:=(.seq (.dreg 12 [0,1,2,3,4,5,6,2,3,7,8,9,10,11] ( mJ 27 6::fJ 28 1 5::lJ 29 28::nJ 30 29::fJ 31 2 5::lJ 32 31::aJ 33 Qla [.t 32]::Qapy) [4,5,6]) Qa7f)
def Qa7h:SC:=(.seq (.reg ( mJ 20 6::fJ 21 1 5::lJ 22 21::nJ 23 22::kJ 24 20::fJ 25 1 24::fJ 26 0 25::.e none none (.sto 1 (.t 26) (.t 23))::[]) [4,5,6]) Qa7g)
def Qa7i:SC:=(.seq (.reg ( tJ 14 1 2::fJ 15 1 5::lJ 16 15::nJ 17 16::fI 18 (.bld [.sl true 3 [],.int .i64 0,.int .i64 0,.sl true 5 [],.int .i64 0,.sl true 3 [],.int .i64 0,.sl true 1 []] [(0,1,.t 14),(6,1,.t 17)])::eI 19 (.boxm (.t 18))::Qapx) [4,5,6]) Qa7h)
def Qa7j:SC:=(.seq (.reg ( fJ 9 0 2::lJ 10 9::mJ 11 1::iJ 12 3 10 11::tJ 13 3 12::eI 5 (.alloc [.str [],.sl true 1 [],.sl true 5 []])::Qapw) [2,4,5]) Qa7i)
def Qbe7:SC:=(.seq (.reg ( fI 2 (.box (.t 0))::eI 4 (.alloc [.int .i64 0,.int .i64 0,.sl true 5 []])::[]) [1,2,4]) Qa7j)
def Qbbp:List RS:=[.cell 4 3 true]
theorem Qbex:mFn prog Qaq2 2 80 Qbe7 Qbbp=true:=by kernel_rfl
def Qts:List Item:=.e none none (.sto 3 (.t 7) (.t 26))::[]
def Qtt:List Item:=fI 26 (.bld [.str [],.sl true 1 [],.sl true 5 []] [(0,1,.t 19),(1,1,.t 25)])::eI 7 (.alloc [.str [],.sl true 1 [],.sl true 5 []])::Qts
def Qtu:List Item:=fJ 29 2 7::.e none none (.sto 1 (.t 29) (.t 28))::[]
def Qje:List Item:=gT 41 35 (.bin 0 .gtr (.t 40) (kI 0))::fI 42 (.pick (.t 35) (.t 41) (.k (.c (.bool false))))::[]
def Qtv:List Item:=fJ 59 2 7::.e none none (.sto 1 (.t 59) (.t 58))::[]
def Qtw:List Item:=.chk 52 none (.ld 1 false (.t 51))::fI 55 (.bsl 4 [.t 54])::fI 56 (.bld [.int .i64 0,.str [],.sl true 4 [],.sl true 5 [],.sl true 5 []] [(0,1,kI 7),(2,1,.t 55)])::fI 57 (.bsl 5 [.t 56])::eI 58 (.app 5 (.t 52) (.t 57))::Qtv
def Qaox:SC:=(.dreg 10 [0,1,2,3,1,4,5,6,7,8,9] ( fJ 51 2 7::lJ 52 51::mJ 53 0::aJ 54 Qa7 [.t 53,kI 2]::Qtw) [6,7])
def s_l3Gen_fn_7:SC:=(.cond (.t 42) (.seq (.reg ( mJ 43 0::mJ 44 0::kJ 45 44::fJ 46 4 45::lJ 47 46::cJ 48 .sub 47 1::kJ 49 43::fJ 50 4 49::.e none none (.sto 1 (.t 50) (.t 48))::[]) [0,6,7]) Qaox) .skip)
def Ql8:SC:=(.seq (.reg ( tJ 60 3 7::.e none none (.sto 3 (.t 6) (.t 60))::[]) [6]) .ret)
def Qaoy:SC:=(.seq (.seq (.reg ( mJ 30 0::kJ 31 30::fJ 32 4 31::lJ 33 32::cJ 34 .gtr 33 0::mJ 35 34::gTm 36 35 0::gT 37 35 (.nck (.t 36))::gTf 38 35 0 37::gTl 39 35 38::.e (some 40) (some (35,true)) (.call Qn [.t 39,kI 4])::Qje) [0,6,7,42]) s_l3Gen_fn_7) Ql8)
def Qahg:SC:=(.seq (.reg ( mJ 27 0::aJ 28 Qb4 [.t 27,kI 3]::Qtu) [0,6,7]) Qaoy)
def Qahh:SC:=(.seq (.reg ( mJ 19 1::fI 20 (.bsl 1 [])::mJ 21 0::kJ 22 21::fJ 23 2 22::lJ 24 23::eI 25 (.app 1 (.t 20) (.t 24))::Qtt) [0,6,7]) Qahg)
def Qahi:SC:=(.seq (.reg ( mJ 14 0::mJ 15 2::cJ 16 .sub 15 1::kJ 17 14::fJ 18 3 17::.e none none (.sto 1 (.t 18) (.t 16))::[]) [0,1,6]) Qahh)
def Qahj:SC:=(.seq (.reg ( mJ 8 0::fI 9 (.bsl 1 [.k (.c (.str [97])),.k (.c (.str [98])),.k (.c (.str [99]))])::mJ 10 2::fI 11 (.sli 1 (.t 9) none (some (.t 10)))::kJ 12 8::fJ 13 2 12::.e none none (.sto 1 (.t 13) (.t 11))::[]) [0,1,2,6]) Qahi)
def Qa1m:SC:=(.seq (.reg ( eI 6 (.alloc [.str [],.sl true 1 [],.sl true 5 []])::[]) [0,1,2,6]) Qahj)
def Qny:List RS:=[.cell 6 3 true]
theorem Qa0j:mFn prog Qiz 3 61 Qa1m Qny=true:=by kernel_rfl
def Qep:List Item:=oJ 8 7::[]
def Qra:SC:=(.cond (.t 8) (.seq (.reg ( fI 2 (.mv (.k (.c (.bool false))))::[]) [2]) .ret) .skip)
def Qeq:List Item:=oJ 22 21::[]
def Qrb:SC:=(.cond (.t 22) (.seq (.reg ( fI 2 (.mv (.k (.c (.bool false))))::[]) [2]) .ret) .skip)
def Qrc:SC:=(.reg ( mJ 14 3::cJ 15 .add 14 1::mJ 3 15::[]) [1,3])
def Qrd:SC:=(.seq (.block 1 (.seq (.reg ( fJ 16 0 1::lJ 17 16::mJ 18 3::iJ 19 3 17 18::tJ 20 3 19::aJ 21 Qaq1 [.t 20]::Qeq) [1,3,22]) Qrb)) Qrc)
def Qof:SC:=(.seq (.seq (.reg ( mJ 9 3::fJ 10 0 1::lJ 11 10::nJ 12 11::bJ 13 .lss 9 12::[]) [1,3,13]) (.cond (.t 13) .skip (.exit 0))) Qrd)
def Qer:List Item:=cJ 25 .leq 24 40::mJ 2 25::[]
def Qre:SC:=(.seq (.reg ( tJ 23 1 1::aJ 24 Qaei [.t 23]::Qer) [2]) .ret)
def Qrf:SC:=(.seq (.seq (.reg ( fI 3 (.mv (kI 0))::[]) [1,3]) (.block 0 (.loop Qof))) Qre)
def Qoe:SC:=(.seq (.seq (.reg ( fJ 4 0 1::lJ 5 4::nJ 6 5::aJ 7 Qbd [.t 6,kI 1,kI 4]::Qep) [1,8]) Qra) Qrf)
def Qwh:SC:=(.seq (.reg ( fI 1 (.box (.t 0))::fI 2 (.mv (.k (.c (.bool false))))::[]) [1]) Qoe)
def Qdt:List RS:=[.tmp 2]
theorem Qu4:mFn prog Qdb 1 26 Qwh Qdt=true:=by kernel_rfl
def Qj8:List Item:=.chk 10 none (.ld 1 false (.t 9))::.chk 12 none (.ld 1 false (.t 11))::.chk 15 none (.ld 1 false (.t 14))::.e none none (.sto 5 (.t 3) (.t 17))::[]
def Qj9:List Item:=.chk 10 none (.ld 1 false (.t 9))::.chk 12 none (.ld 1 false (.t 11))::fI 17 (.bld [.sl true 2 [],.sl true 4 [],.int .i64 0,.int .i64 0,.sl true 1 []] [(0,1,.t 7),(1,1,.t 8),(2,1,.t 10),(3,1,.t 12),(4,1,.t 16)])::eI 3 (.alloc [.sl true 2 [],.sl true 4 [],.int .i64 0,.int .i64 0,.sl true 1 []])::Qj8
def Qka:List Item:=fJ 44 0 3::.e none none (.sto 1 (.t 44) (.t 43))::[]
def Qkb:List Item:=.chk 26 none (.ld 1 false (.t 25))::.chk 28 none (.ld 1 false (.t 27))::.chk 30 none (.iad 2 (.t 28) (.t 29))::.chk 32 none (.ld 1 false (.t 31))::fI 41 (.bld [.int .i64 0,.sl true 1 []] [(0,1,.t 32),(1,1,.t 40)])::fI 42 (.bsl 2 [.t 41])::eI 43 (.app 2 (.t 26) (.t 42))::Qka
def Q62:SC:=(.reg ( mJ 23 4::cJ 24 .add 23 1::mJ 4 24::[]) [1,2,3,4])
def Q63:SC:=(.seq (.block 1 (.dreg 21 [0,1,2,3,4,5,6,7,8,9,10,11,12,13,14,15,1,3,5,7,16,17,18,19,20] ( fJ 25 0 3::lJ 26 25::fJ 27 0 1::lJ 28 27::mJ 29 4::iJ 30 2 28 29::fJ 31 0 30::lJ 32 31::fI 33 (.bsl 1 [])::fJ 34 0 1::lJ 35 34::mJ 36 4::iJ 37 2 35 36::fJ 38 1 37::lJ 39 38::eI 40 (.app 1 (.t 33) (.t 39))::Qkb) [1,2,3,4])) Q62)
def Q1h:SC:=(.seq (.seq (.reg ( mJ 18 4::fJ 19 0 1::lJ 20 19::nJ 21 20::bJ 22 .lss 18 21::[]) [1,2,3,4,22]) (.cond (.t 22) .skip (.exit 0))) Q63)
def Qkc:List Item:=.e none none (.sto 4 (.t 6) (.t 56))::[]
def Qkd:List Item:=fJ 72 1 3::.e none none (.sto 1 (.t 72) (.t 71))::[]
def Qke:List Item:=.chk 58 none (.ld 1 false (.t 57))::.chk 60 none (.ld 1 false (.t 59))::.chk 62 none (.ld 1 false (.t 61))::.chk 68 none (.ld 1 false (.t 67))::fI 69 (.bld [.int .i64 0,.int .i64 0,.sl true 1 [],.int .i64 0] [(0,1,.t 60),(1,1,.t 62),(2,1,.t 66),(3,1,.t 68)])::fI 70 (.bsl 4 [.t 69])::eI 71 (.app 4 (.t 58) (.t 70))::Qkd
def Q1a:SC:=(.dreg 17 [0,1,2,3,4,5,6,7,8,10,11,9,1,3,5,11,12,13,14,15,16] ( fJ 57 1 3::lJ 58 57::fJ 59 0 6::lJ 60 59::fJ 61 1 6::lJ 62 61::fI 63 (.bsl 1 [])::fJ 64 2 6::lJ 65 64::fJ 67 3 6::lJ 68 67::eI 66 (.app 1 (.t 63) (.t 65))::Qke) [1,2,3,5])
def Q1b:SC:=(.reg ( mJ 50 5::cJ 51 .add 50 1::mJ 5 51::[]) [1,2,3,5])
def Q1c:SC:=(.seq (.block 3 (.seq (.reg ( fJ 52 1 1::lJ 53 52::mJ 54 5::iJ 55 4 53 54::tJ 56 4 55::eI 6 (.alloc [.int .i64 0,.int .i64 0,.sl true 1 [],.int .i64 0])::Qkc) [1,2,3,5,6]) Q1a)) Q1b)
def Qvy:SC:=(.seq (.seq (.reg ( mJ 45 5::fJ 46 1 1::lJ 47 46::nJ 48 47::bJ 49 .lss 45 48::[]) [1,2,3,5,49]) (.cond (.t 49) .skip (.exit 2))) Q1c)
def Q1d:SC:=(.seq (.reg ( tJ 73 5 3::.e none none (.sto 5 (.t 2) (.t 73))::[]) [2]) .ret)
def Q1e:SC:=(.seq (.seq (.reg ( fI 5 (.mv (kI 0))::[]) [1,2,3,5]) (.block 2 (.loop Qvy))) Q1d)
def Q1f:SC:=(.seq (.seq (.reg ( fI 4 (.mv (kI 0))::[]) [1,2,3,4]) (.block 0 (.loop Q1h))) Q1e)
def Q1g:SC:=(.seq (.dreg 11 [0,1,2,3,4,5,6,7,8,9,3,5,10,11,3,5,8,12] ( fI 7 (.bsl 2 [])::fI 8 (.bsl 4 [])::fJ 9 2 1::lJ 10 9::fJ 11 3 1::lJ 12 11::fI 13 (.bsl 1 [])::fJ 14 4 1::lJ 15 14::eI 16 (.app 1 (.t 13) (.t 15))::Qj9) [1,2,3]) Q1f)
def Qahr:SC:=(.seq (.reg ( fI 1 (.box (.t 0))::eI 2 (.alloc [.sl true 2 [],.sl true 4 [],.int .i64 0,.int .i64 0,.sl true 1 []])::[]) [1,2]) Q1g)
def Qr8:List RS:=[.cell 2 5 true]
theorem Qae4:mFn prog Qd1 1 74 Qahr Qr8=true:=by kernel_rfl
def Q7f:List Item:=mJ 7 13::[]
def Qq6:List Item:=.e none none (.sto 4 (.t 8) (.t 18))::[]
def Q7g:List Item:=fI 18 (.bld [.int .i64 0,.int .i64 0,.sl true 1 [],.int .i64 0] [(0,1,.t 14),(1,1,.t 17)])::eI 8 (.alloc [.int .i64 0,.int .i64 0,.sl true 1 [],.int .i64 0])::Qq6
def Q7h:List Item:=mJ 9 20::[]
def Q7i:List Item:=fI 30 (.bsl 1 [.t 29])::fI 31 (.bld [.int .i64 0,.int .i64 0,.sl true 1 [],.int .i64 0] [(0,1,kI 13),(1,1,kI (-1)),(2,1,.t 30)])::.e none none (.sto 4 (.t 6) (.t 31))::[]
def Qa2h:SC:=(.cond (.t 26) (.seq (.reg ( mJ 27 0::mJ 28 2::aJ 29 Qn [.t 27,.t 28]::Q7i) [6]) .ret) .skip)
def Q7j:List Item:=fJ 37 3 8::.e none none (.sto 1 (.t 37) (.t 36))::[]
def Qa2i:SC:=(.reg ( fJ 38 0 4::lJ 39 38::fJ 40 3 8::lJ 41 40::iJ 42 3 39 41::fJ 43 0 42::lJ 44 43::mJ 9 44::[]) [0,2,6,7,8,9])
def Qa2j:SC:=(.seq (.reg ( mJ 32 0::fJ 33 0 4::lJ 34 33::nJ 35 34::aJ 36 Qn [.t 32,.t 35]::Q7j) [0,2,4,6,7,8]) Qa2i)
def Qa2k:SC:=(.cond (.t 22) (.seq (.seq (.reg ( fJ 23 0 4::lJ 24 23::nJ 25 24::cJ 26 .eql 25 0::[]) [0,2,4,6,7,8,26]) Qa2h) Qa2j) .skip)
def Qzt:List Item:=fJ 50 3 8::.e none none (.sto 1 (.t 50) (.t 49))::[]
def Qaw4:SC:=(.cond (.t 46) (.reg ( mJ 47 0::fI 48 (.bsl 1 [kI 0,kI 1,kI 2,kI 3,kI 15,kI 16,kI 255])::aJ 49 Q8 [.t 47,.t 48]::Qzt) [0,2,6,7,8,9]) .skip)
def Qzu:List Item:=oJ 53 52::[]
def Qaw5:SC:=(.cond (.t 53) (.reg ( fJ 54 1 8::.e none none (.sto 1 (.t 54) (kI (-1)))::[]) [0,2,6,8,9]) .skip)
def Qzv:List Item:=fJ 67 2 8::.e none none (.sto 1 (.t 67) (.t 66))::[]
def Qzw:List Item:=.chk 61 none (.ld 1 false (.t 60))::fI 65 (.bsl 1 [.t 64])::eI 66 (.app 1 (.t 61) (.t 65))::Qzv
def Qaw6:SC:=(.reg ( mJ 58 10::cJ 59 .add 58 1::mJ 10 59::[]) [0,2,6,8,9,10])
def Qaw7:SC:=(.seq (.block 1 (.dreg 9 [0,1,2,3,4,1,5,6,7,8] ( fJ 60 2 8::lJ 61 60::mJ 62 0::mJ 63 2::aJ 64 Qn [.t 62,.t 63]::Qzw) [0,2,6,8,9,10])) Qaw6)
def Qapr:SC:=(.seq (.seq (.reg ( mJ 55 10::mJ 56 9::bJ 57 .lss 55 56::[]) [0,2,6,8,9,10,57]) (.cond (.t 57) .skip (.exit 0))) Qaw7)
def Qaw8:SC:=(.seq (.reg ( tJ 68 4 8::.e none none (.sto 4 (.t 6) (.t 68))::[]) [6]) .ret)
def Q7c:SC:=(.seq (.seq (.reg ( fI 10 (.mv (kI 0))::[]) [0,2,6,8,9,10]) (.block 0 (.loop Qapr))) Qaw8)
def Q7d:SC:=(.seq (.seq (.reg ( mJ 51 7::aJ 52 Qdq [.t 51]::Qzu) [0,2,6,8,9,53]) Qaw5) Q7c)
def Q7e:SC:=(.seq (.seq (.reg ( mJ 45 7::cJ 46 .eql 45 1::[]) [0,2,6,7,8,9,46]) Qaw4) Q7d)
def Qaw9:SC:=(.seq (.seq (.reg ( mJ 21 7::cJ 22 .eql 21 14::[]) [0,2,4,6,7,8,9,22]) Qa2k) Q7e)
def Qaxa:SC:=(.seq (.reg ( mJ 19 7::aJ 20 Qk9 [.t 19]::Q7h) [0,2,4,6,7,8,9]) Qaw9)
def Qaxb:SC:=(.seq (.reg ( mJ 14 7::mJ 15 0::mJ 16 2::aJ 17 Qn [.t 15,.t 16]::Q7g) [0,2,4,6,7,8]) Qaxa)
def Qaxc:SC:=(.seq (.reg ( mJ 11 0::fI 12 (.bsl 1 [kI 1,kI 1,kI 2,kI 3,kI 4,kI 5,kI 8,kI 9,kI 10,kI 13,kI 3,kI 6,kI 7,kI 11,kI 12,kI 14])::aJ 13 Q8 [.t 11,.t 12]::Q7f) [0,2,4,6,7]) Qaxb)
def Qbas:SC:=(.seq (.reg ( fI 4 (.box (.t 1))::eI 6 (.alloc [.int .i64 0,.int .i64 0,.sl true 1 [],.int .i64 0])::[]) [0,2,4,6]) Qaxc)
def Qnz:List RS:=[.cell 6 4 true]
theorem Qa9t:mFn prog Q21 3 69 Qbas Qnz=true:=by kernel_rfl
def Q7k:List Item:=gT 14 11 (.bin 0 .gtr (.t 13) (kI 0))::fI 15 (.pick (.t 11) (.t 14) (.k (.c (.bool false))))::[]
def Qaps:List Item:=bJ 24 .add 17 23::mJ 6 24::[]
def s_l7To_2:SC:=(.cond (.t 15) (.seq (.reg ( mJ 16 1::cJ 17 .add 16 1::mJ 18 0::mJ 19 2::cJ 20 .sub 19 1::mJ 21 1::bJ 22 .sub 20 21::aJ 23 Qn [.t 18,.t 22]::Qaps) [6]) .ret) .skip)
def Qapt:List Item:=fI 29 (.bin 0 .add (kI 1) (.t 28))::mJ 6 29::[]
def Qazc:SC:=(.seq (.reg ( mJ 25 0::mJ 26 2::cJ 27 .sub 26 1::aJ 28 Qn [.t 25,.t 27]::Qapt) [6]) .ret)
def Qbat:SC:=(.seq (.seq (.reg ( mJ 7 1::mJ 8 2::cJ 9 .sub 8 1::bJ 10 .lss 7 9::mJ 11 10::gTm 12 11 0::.e (some 13) (some (11,true)) (.call Qn [.t 12,kI 4])::Q7k) [0,1,2,15]) s_l7To_2) Qazc)
def Qbe6:SC:=(.seq (.reg ( fI 6 (.mv (kI 0))::[]) [0,1,2]) Qbat)
def Qay7:List RS:=[.tmp 6]
theorem Qbew:mFn prog Q22 3 30 Qbe6 Qay7=true:=by kernel_rfl
def Qadz:List Item:=.e none none (.sto 3 (.t 7) (.t 12))::[]
def Qvz:List Item:=gF 22 17 (.not (.t 21))::fI 23 (.pick (.t 17) (.k (.c (.bool true))) (.t 22))::[]
def Qad0:List Item:=oJ 16 15::mJ 17 16::gF 18 17 (.ld 3 true (.t 7))::gFf 19 17 2 5::gFl 20 17 19::.e (some 21) (some (17,false)) (.call Qrm [.t 18,.t 20])::Qvz
def s_l7Ins_3:SC:=(.cond (.t 23) (.seq (.reg ( fI 6 (.mv (.k (.c (.bool false))))::[]) [6]) .ret) .skip)
def Qv0:List Item:=gF 38 34 (.not (.t 37))::gFm 39 34 38::gTf 40 39 1 5::gTl 41 39 40::gT 42 39 (.bin 0 .neq (.t 41) (kI (-1)))::gF 43 34 (.pick (.t 39) (.t 42) (.k (.c (.bool false))))::fI 44 (.pick (.t 34) (.k (.c (.bool true))) (.t 43))::[]
def Qad1:List Item:=fI 33 (.bin 1 .neq (.t 26) (.t 32))::mJ 34 33::gFf 35 34 0 5::gFl 36 34 35::.e (some 37) (some (34,false)) (.call Qdq [.t 36])::Qv0
def Qad2:List Item:=.chk 28 none (.ld 1 false (.t 27))::.chk 30 none (.ld 1 false (.t 29))::aJ 32 Qbd [.t 28,kI 0,.t 31]::Qad1
def s_l7Ins_7:SC:=(.cond (.t 44) (.seq (.reg ( fI 6 (.mv (.k (.c (.bool false))))::[]) [6]) .ret) .skip)
def Qn1:List Item:=mJ 53 52::gTf 54 53 2 5::gTl 55 53 54::gT 56 53 (.len (.t 55))::gTf 57 53 0 3::gTl 58 53 57::gTf 59 53 3 5::gTl 60 53 59::gT 61 53 (.iad 3 (.t 58) (.t 60))::gTf 62 53 0 61::gTl 63 53 62::gT 64 53 (.bin 0 .eql (.t 56) (.t 63))::fI 65 (.pick (.t 53) (.t 64) (.k (.c (.bool false))))::mJ 6 65::[]
def Qa68:SC:=(.cond (.t 47) (.seq (.dreg 19 [0,1,2,3,4,5,6,7,8,9,10,11,12,13,14,15,16,17,18] ( fJ 48 3 5::lJ 49 48::mJ 50 1::cJ 51 .sub 50 1::aJ 52 Qbd [.t 49,kI 0,.t 51]::Qn1) [6]) .ret) .skip)
def Qq5:List Item:=fI 77 (.pick (.t 73) (.t 76) (.k (.c (.bool false))))::mJ 78 77::gTf 79 78 3 5::gTl 80 78 79::gT 81 78 (.bin 0 .eql (.t 80) (kI 0))::gTm 82 78 81::gFf 83 82 0 5::gFl 84 82 83::gF 85 82 (.bin 0 .eql (.t 84) (kI 1))::gT 86 78 (.pick (.t 82) (.k (.c (.bool true))) (.t 85))::fI 87 (.pick (.t 78) (.t 86) (.k (.c (.bool false))))::mJ 6 87::[]
def Q68:List Item:=.chk 67 none (.ld 1 false (.t 66))::.chk 68 none (.len (.t 67))::bJ 72 .eql 68 71::mJ 73 72::gTf 74 73 3 5::gTl 75 73 74::.e (some 76) (some (73,true)) (.call Qbd [.t 75,kI 0,kI 255])::Qq5
def Qa18:SC:=(.seq (.dreg 23 [0,1,2,3,4,5,1,2,6,7,8,9,10,11,12,13,14,15,16,17,18,19,20,21,22] ( fJ 66 2 5::lJ 67 66::nJ 68 67::fJ 69 0 5::lJ 70 69::aJ 71 Qk9 [.t 70]::Q68) [6]) .ret)
def Qadx:SC:=(.seq (.seq (.reg ( fJ 45 0 5::lJ 46 45::cJ 47 .eql 46 14::[]) [1,3,5,47]) Qa68) Qa18)
def Qady:SC:=(.seq (.seq (.dreg 21 [0,1,3,4,5,6,7,2,4,6,8,9,10,11,12,13,14,15,16,17,18,19,20] ( fJ 24 0 5::lJ 25 24::fJ 27 1 5::lJ 28 27::fJ 29 1 7::lJ 30 29::cJ 31 .sub 30 1::aJ 26 Qdq [.t 25]::Qad2) [1,3,5,44]) s_l7Ins_7) Qadx)
def Qa19:SC:=(.seq (.seq (.reg ( fJ 13 0 5::lJ 14 13::aJ 15 Qbd [.t 14,kI 1,kI 14]::Qad0) [1,3,5,7,23]) s_l7Ins_3) Qady)
def Qa2a:SC:=(.seq (.reg ( fJ 8 0 3::lJ 9 8::mJ 10 1::iJ 11 3 9 10::tJ 12 3 11::eI 7 (.alloc [.int .i64 0,.int .i64 0,.sl true 5 []])::Qadz) [1,3,5,7]) Qa19)
def Qbdr:SC:=(.seq (.reg ( fI 3 (.box (.t 0))::fI 5 (.box (.t 2))::fI 6 (.mv (.k (.c (.bool false))))::[]) [1,3,5]) Qa2a)
def Q36:List RS:=[.tmp 6]
theorem Qbdc:mFn prog Qaej 3 88 Qbdr Q36=true:=by kernel_rfl
def Q7b:List Item:=oJ 20 19::[]
def Qa2c:SC:=(.cond (.t 20) (.seq (.reg ( fI 4 (.mv (.k (.c (.bool false))))::[]) [4]) .ret) .skip)
def Qa2d:SC:=(.reg ( mJ 10 5::cJ 11 .add 10 1::mJ 5 11::[]) [1,2,5])
def Qa2e:SC:=(.seq (.block 1 (.seq (.dreg 9 [0,1,2,3,4,5,6,7,8] ( mJ 12 1::mJ 13 5::iJ 14 1 12 13::lJ 15 14::fJ 16 1 2::lJ 17 16::cJ 18 .sub 17 1::aJ 19 Qbd [.t 15,kI 0,.t 18]::Q7b) [1,2,5,20]) Qa2c)) Qa2d)
def Qaw3:SC:=(.seq (.seq (.reg ( mJ 6 5::mJ 7 1::nJ 8 7::bJ 9 .lss 6 8::[]) [1,2,5,9]) (.cond (.t 9) .skip (.exit 0))) Qa2e)
def Qa2f:SC:=(.seq (.reg ( fI 4 (.mv (.k (.c (.bool true))))::[]) [4]) .ret)
def Qa2g:SC:=(.seq (.seq (.reg ( fI 5 (.mv (kI 0))::[]) [1,2,5]) (.block 0 (.loop Qaw3))) Qa2f)
def Qbar:SC:=(.seq (.reg ( fI 2 (.box (.t 0))::fI 4 (.mv (.k (.c (.bool false))))::[]) [1,2]) Qa2g)
def Qafi:List RS:=[.tmp 4]
theorem Qa9s:mFn prog Qrm 2 21 Qbar Qafi=true:=by kernel_rfl
def Q7s:List Item:=bJ 33 .add 26 32::mJ 3 33::[]
def Q7t:List Item:=.chk 29 none (.iad 5 (.t 27) (.t 28))::.chk 31 none (.ld 1 false (.t 30))::bJ 26 .add 19 25::aJ 32 Qla [.t 31]::Q7s
def Q7u:List Item:=.chk 22 none (.iad 5 (.t 20) (.t 21))::.chk 24 none (.ld 1 false (.t 23))::.chk 29 none (.iad 5 (.t 27) (.t 28))::.chk 31 none (.ld 1 false (.t 30))::bJ 19 .add 11 18::aJ 25 Qla [.t 24]::Q7t
def Qa2n:SC:=(.reg ( mJ 9 4::cJ 10 .add 9 1::mJ 4 10::[]) [0,3,4])
def Qa2o:SC:=(.seq (.block 1 (.dreg 24 [0,1,2,3,4,5,6,9,10,11,12,13,16,17,18,19,20,7,11,13,18,20,8,14,18,20,15,21,22,23] ( mJ 11 3::mJ 12 0::mJ 13 4::iJ 14 5 12 13::fJ 15 0 14::lJ 16 15::cJ 17 .eql 16 1::mJ 20 0::mJ 21 4::iJ 22 5 20 21::fJ 23 3 22::lJ 24 23::mJ 27 0::mJ 28 4::iJ 29 5 27 28::fJ 30 4 29::lJ 31 30::aJ 18 Qux [.t 17]::Q7u) [0,3,4])) Qa2n)
def Qaxr:SC:=(.seq (.seq (.reg ( mJ 5 4::mJ 6 0::nJ 7 6::bJ 8 .lss 5 7::[]) [0,3,4,8]) (.cond (.t 8) .skip (.exit 0))) Qa2o)
def Qa2p:SC:=(.seq (.reg ( mJ 34 3::mJ 2 34::[]) [2]) .ret)
def Qa2q:SC:=(.seq (.seq (.reg ( fI 4 (.mv (kI 0))::[]) [0,3,4]) (.block 0 (.loop Qaxr))) Qa2p)
def Qa2r:SC:=(.seq (.reg ( fI 3 (.mv (kI 0))::[]) [0,3]) Qa2q)
def Qbay:SC:=(.seq (.reg ( fI 2 (.mv (kI 0))::[]) [0]) Qa2r)
def Qay9:List RS:=[.tmp 2]
theorem Qa9v:mFn prog Qla 1 35 Qbay Qay9=true:=by kernel_rfl
def Qkf:List Item:=kJ 15 3::fJ 16 1 15::fJ 17 2 16::.e none none (.sto 1 (.t 17) (.t 14))::[]
def Q7v:SC:=(.seq (.reg ( mJ 18 0::kJ 19 18::fJ 20 1 19::fJ 21 2 20::lJ 22 21::nJ 23 22::cJ 24 .sub 23 1::mJ 2 24::[]) [2]) .ret)
def Q7w:SC:=(.seq (.reg ( mJ 3 0::mJ 4 0::kJ 5 4::fJ 6 1 5::fJ 7 2 6::lJ 8 7::fI 9 (.bsl 2 [])::fI 10 (.bsl 4 [])::fI 11 (.bsl 1 [])::fI 12 (.bld [.sl true 2 [],.sl true 4 [],.int .i64 0,.int .i64 0,.sl true 1 []] [(0,1,.t 9),(1,1,.t 10),(4,1,.t 11)])::fI 13 (.bsl 5 [.t 12])::eI 14 (.app 5 (.t 8) (.t 13))::Qkf) [0]) Q7v)
def Qahv:SC:=(.seq (.reg ( fI 2 (.mv (kI 0))::[]) [0]) Q7w)
def Qr9:List RS:=[.tmp 2]
theorem Qae5:mFn prog Qan 1 25 Qahv Qr9=true:=by kernel_rfl
def Q8v:SC:=(.reg ( mJ 15 5::cJ 16 .add 15 1::mJ 5 16::[]) [0,1,4,5])
def Q8w:SC:=(.seq (.block 1 (.reg ( mJ 17 0::mJ 18 1::mJ 19 5::iJ 20 5 18 19::tJ 21 5 20::aJ 22 Qi4 [.t 17,.t 21]::[]) [0,1,4,5])) Q8v)
def Q1j:SC:=(.seq (.seq (.reg ( mJ 11 5::mJ 12 1::nJ 13 12::bJ 14 .lss 11 13::[]) [0,1,4,5,14]) (.cond (.t 14) .skip (.exit 0))) Q8w)
def Q8x:SC:=(.reg ( mJ 23 0::mJ 24 0::kJ 25 24::fJ 26 5 25::lJ 27 26::mJ 28 4::fI 29 (.sli 3 (.t 27) none (some (.t 28)))::kJ 30 23::fJ 31 5 30::.e none none (.sto 1 (.t 31) (.t 29))::[]) [])
def Q8y:SC:=(.seq (.seq (.reg ( fI 5 (.mv (kI 0))::[]) [0,1,4,5]) (.block 0 (.loop Q1j))) Q8x)
def Qah5:SC:=(.seq (.reg ( mJ 6 0::kJ 7 6::fJ 8 5 7::lJ 9 8::nJ 10 9::mJ 4 10::[]) [0,1,4]) Q8y)
def Qi9:List RS:=[]
theorem Qae7:mFn prog Qb6 2 32 Qah5 Qi9=true:=by kernel_rfl
def Qpr:List Item:=kJ 34 22::fJ 35 1 34::.e none none (.sto 1 (.t 35) (.t 33))::[]
def Qahx:SC:=(.seq (.reg ( mJ 36 2::mJ 10 36::[]) [10]) .ret)
def Qahy:SC:=(.seq (.reg ( mJ 22 11::mJ 23 11::kJ 24 23::fJ 25 1 24::lJ 26 25::mJ 27 1::mJ 28 2::mJ 29 4::mJ 30 3::fI 31 (.bld [.int .i64 0,.int .i64 0,.sl true 1 [],.int .i64 0] [(0,1,.t 27),(1,1,.t 28),(2,1,.t 29),(3,1,.t 30)])::fI 32 (.bsl 4 [.t 31])::eI 33 (.app 4 (.t 26) (.t 32))::Qpr) [2]) Qahx)
def Qahz:SC:=(.seq (.dreg 11 [0,1,2,3,4,5,6,7,8,9,10] ( mJ 12 0::kJ 13 12::fJ 14 1 13::fJ 15 2 14::lJ 16 15::mJ 17 0::kJ 18 17::fJ 19 4 18::lJ 20 19::iJ 21 5 16 20::mJ 11 21::[]) [1,2,3,4,11]) Qahy)
def Qaxt:SC:=(.seq (.reg ( fI 10 (.mv (kI 0))::[]) [0,1,2,3,4]) Qahz)
def Q39:List RS:=[.tmp 10]
theorem Qarq:mFn prog Qar 5 37 Qaxt Q39=true:=by kernel_rfl
def Q78:SC:=(.seq (.reg ( mJ 13 0::kJ 14 13::fJ 15 1 14::fJ 16 1 15::lJ 17 16::cJ 18 .sub 17 1::mJ 2 18::[]) [2]) .ret)
def Q79:SC:=(.seq (.reg ( mJ 3 0::mJ 4 0::kJ 5 4::fJ 6 1 5::fJ 7 1 6::lJ 8 7::cJ 9 .add 8 1::kJ 10 3::fJ 11 1 10::fJ 12 1 11::.e none none (.sto 1 (.t 12) (.t 9))::[]) [0]) Q78)
def Qahw:SC:=(.seq (.reg ( fI 2 (.mv (kI 0))::[]) [0]) Q79)
def Qsa:List RS:=[.tmp 2]
theorem Qae6:mFn prog Qa0 1 19 Qahw Qsa=true:=by kernel_rfl
def Qab5:SC:=(.reg ( mJ 33 0::mJ 34 4::kJ 35 33::fJ 36 4 35::.e none none (.sto 1 (.t 36) (.t 34))::[]) [])
def Qab6:SC:=(.seq (.reg ( mJ 29 10::mJ 30 3::kJ 31 29::fJ 32 4 31::.e none none (.sto 1 (.t 32) (.t 30))::[]) [0,4]) Qab5)
def Qab7:SC:=(.seq (.reg ( mJ 25 10::mJ 26 2::kJ 27 25::fJ 28 3 27::.e none none (.sto 1 (.t 28) (.t 26))::[]) [0,3,4,10]) Qab6)
def Qab8:SC:=(.seq (.reg ( mJ 21 10::mJ 22 1::kJ 23 21::fJ 24 2 23::.e none none (.sto 1 (.t 24) (.t 22))::[]) [0,2,3,4,10]) Qab7)
def Qap3:SC:=(.seq (.dreg 11 [0,1,2,3,4,5,6,7,8,9,10] ( mJ 11 0::kJ 12 11::fJ 13 1 12::fJ 14 2 13::lJ 15 14::mJ 16 0::kJ 17 16::fJ 18 4 17::lJ 19 18::iJ 20 5 15 19::mJ 10 20::[]) [0,1,2,3,4,10]) Qab8)
def Qw2:List RS:=[]
theorem Qajn:mFn prog Qax 5 37 Qap3 Qw2=true:=by kernel_rfl
def Qju:List Item:=mJ 7 18::[]
def Qjv:List Item:=mJ 6 34::[]
def Qjw:List Item:=eI 34 (.app 5 (.t 30) (.t 33))::Qjv
def Q5e:SC:=(.reg ( mJ 28 7::cJ 29 .sub 28 1::mJ 7 29::[]) [0,1,5,6,7])
def Q5f:SC:=(.seq (.block 1 (.reg ( mJ 30 6::mJ 31 0::mJ 32 1::aJ 33 Qi1 [.t 31,.t 32]::Qjw) [0,1,5,6,7])) Q5e)
def Q08:SC:=(.seq (.seq (.reg ( mJ 19 7::cJ 20 .gtr 19 0::mJ 21 20::gTm 22 21 0::gT 23 21 (.nck (.t 22))::gTf 24 21 4 23::gTl 25 21 24::gT 26 21 (.bin 0 .gtr (.t 25) (kI 0))::fI 27 (.pick (.t 21) (.t 26) (.k (.c (.bool false))))::[]) [0,1,5,6,7,27]) (.cond (.t 27) .skip (.exit 0))) Q5f)
def Q5g:SC:=(.seq (.reg ( mJ 39 6::mJ 4 39::[]) [4]) .ret)
def Q5h:SC:=(.seq (.reg ( mJ 35 0::mJ 36 5::kJ 37 35::fJ 38 2 37::.e none none (.sto 1 (.t 38) (.t 36))::[]) [6]) Q5g)
def Q5i:SC:=(.seq (.seq (.reg ( mJ 13 0::kJ 14 13::fJ 15 0 14::lJ 16 15::fI 17 (.bsl 1 [kI 2,kI 3,kI 1,kI 4])::aJ 18 Q8 [.t 16,.t 17]::Qju) [0,1,5,6,7]) (.block 0 (.loop Q08))) Q5h)
def Q5j:SC:=(.seq (.reg ( fI 12 (.bsl 5 [])::mJ 6 12::[]) [0,1,5,6]) Q5i)
def Q07:SC:=(.seq (.reg ( mJ 8 0::kJ 9 8::fJ 10 2 9::lJ 11 10::mJ 5 11::[]) [0,1,5]) Q5j)
def Qahf:SC:=(.seq (.reg ( fI 4 (.mv (.k (.c (.sl true 5 []))))::[]) [0,1]) Q07)
def Qr7:List RS:=[.tmp 4]
theorem Qae2:mFn prog Qb4 2 40 Qahf Qr7=true:=by kernel_rfl
def Ql1:List Item:=.chk 12 none (.ld 1 false (.t 11))::.chk 16 none (.ld 1 false (.t 15))::.e none none (.sto 4 (.t 5) (.t 18))::[]
def Ql2:List Item:=eI 5 (.alloc [.int .i64 0,.int .i64 0,.str [],.sl true 4 []])::Ql1
def Qfu:List Item:=gF 31 25 (.bin 0 .gtr (.t 30) (kI 0))::fI 32 (.pick (.t 25) (.k (.c (.bool true))) (.t 31))::[]
def s_l3Gen_expr_3:SC:=(.cond (.t 32) (.seq (.reg ( tJ 33 4 5::.e none none (.sto 4 (.t 4) (.t 33))::[]) [4]) .ret) .skip)
def Ql3:List Item:=.chk 37 none (.ld 1 false (.t 36))::.chk 41 none (.ld 1 false (.t 40))::.chk 45 none (.ld 1 false (.t 44))::.chk 46 none (.len (.t 45))::.chk 48 none (.iad 3 (.t 37) (.t 47))::.chk 49 none (.ld 3 true (.t 48))::.e none none (.sto 3 (.t 6) (.t 49))::[]
def Ql4:List Item:=.chk 37 none (.ld 1 false (.t 36))::iJ 48 3 37 47::tJ 49 3 48::eI 6 (.alloc [.str [],.sl true 1 [],.sl true 5 []])::Ql3
def Ql5:List Item:=.e none none (.sto 4 (.t 7) (.t 52))::[]
def Ql6:List Item:=fJ 73 3 7::.e none none (.sto 1 (.t 73) (.t 72))::[]
def Ql7:List Item:=.chk 61 none (.ld 1 false (.t 60))::fI 71 (.bsl 4 [.t 70])::eI 72 (.app 4 (.t 61) (.t 71))::Ql6
def Qabk:SC:=(.reg ( mJ 58 8::cJ 59 .add 58 1::mJ 8 59::[]) [0,4,6,7,8])
def Q5k:SC:=(.seq (.block 1 (.dreg 15 [0,1,2,3,4,5,6,7,8,9,10,1,11,12,13,14] ( fJ 60 3 7::lJ 61 60::mJ 62 0::kJ 63 62::fJ 64 0 63::lJ 65 64::mJ 66 0::kJ 67 66::fJ 68 2 67::lJ 69 68::aJ 70 Qea [.t 65,.t 69,kI 2]::Ql7) [0,4,6,7,8])) Qabk)
def Q09:SC:=(.seq (.seq (.reg ( mJ 53 8::fJ 54 1 6::lJ 55 54::nJ 56 55::bJ 57 .lss 53 56::[]) [0,4,6,7,8,57]) (.cond (.t 57) .skip (.exit 0))) Q5k)
def Qjx:List Item:=cJ 79 .eql 78 0::[]
def Q5l:SC:=(.cond (.t 79) (.seq (.reg ( tJ 80 4 7::.e none none (.sto 4 (.t 4) (.t 80))::[]) [4]) .ret) .skip)
def Qjy:List Item:=.chk 87 none (.ld 4 true (.t 7))::fI 97 (.bsl 4 [.t 87,.t 96])::fI 98 (.bld [.int .i64 0,.int .i64 0,.str [],.sl true 4 []] [(0,1,.t 86),(3,1,.t 97)])::.e none none (.sto 4 (.t 4) (.t 98))::[]
def Qjz:List Item:=.chk 87 none (.ld 4 true (.t 7))::.chk 91 none (.ld 1 false (.t 90))::.chk 95 none (.ld 1 false (.t 94))::aJ 96 Qea [.t 91,.t 95,kI 2]::Qjy
def Q5m:SC:=(.seq (.dreg 19 [0,1,2,3,4,6,7,8,9,10,11,12,13,14,5,6,10,14,15,6,16,17,18] ( mJ 81 0::kJ 82 81::fJ 83 0 82::lJ 84 83::fI 85 (.bsl 1 [kI 3,kI 4,kI 8,kI 10])::tJ 87 4 7::mJ 88 0::kJ 89 88::fJ 90 0 89::lJ 91 90::mJ 92 0::kJ 93 92::fJ 94 2 93::lJ 95 94::aJ 86 Q8 [.t 84,.t 85]::Qjz) [4]) .ret)
def Q5n:SC:=(.seq (.seq (.reg ( mJ 74 0::kJ 75 74::fJ 76 0 75::lJ 77 76::aJ 78 Qn [.t 77,kI 2]::Qjx) [0,4,7,79]) Q5l) Q5m)
def Q5o:SC:=(.seq (.seq (.reg ( fI 8 (.mv (kI 0))::[]) [0,4,6,7,8]) (.block 0 (.loop Q09))) Q5n)
def Q5p:SC:=(.seq (.reg ( fJ 50 0 6::lJ 51 50::fI 52 (.bld [.int .i64 0,.int .i64 0,.str [],.sl true 4 []] [(0,1,kI 13),(2,1,.t 51)])::eI 7 (.alloc [.int .i64 0,.int .i64 0,.str [],.sl true 4 []])::Ql5) [0,4,6,7]) Q5o)
def Ql0:SC:=(.seq (.dreg 16 [0,1,2,3,4,5,6,7,8,9,10,11,12,13,3,14,15,16,3,7,11,12,14,15,17] ( mJ 34 0::kJ 35 34::fJ 36 1 35::lJ 37 36::mJ 38 0::kJ 39 38::fJ 40 0 39::lJ 41 40::mJ 42 0::kJ 43 42::fJ 44 1 43::lJ 45 44::nJ 46 45::aJ 47 Qn [.t 41,.t 46]::Ql4) [0,4,6]) Q5p)
def Q5q:SC:=(.seq (.seq (.reg ( mJ 19 0::kJ 20 19::fJ 21 1 20::lJ 22 21::nJ 23 22::cJ 24 .eql 23 0::mJ 25 24::gFm 26 25 0::gF 27 25 (.nck (.t 26))::gFf 28 25 0 27::gFl 29 25 28::.e (some 30) (some (25,false)) (.call Qn [.t 29,kI 4])::Qfu) [0,4,5,32]) s_l3Gen_expr_3) Ql0)
def Q5r:SC:=(.seq (.dreg 10 [0,1,2,3,4,5,6,7,8,9,10,3,7,11] ( mJ 9 0::kJ 10 9::fJ 11 0 10::lJ 12 11::mJ 13 0::kJ 14 13::fJ 15 2 14::lJ 16 15::mJ 17 1::aJ 18 Qea [.t 12,.t 16,.t 17]::Ql2) [0,4,5]) Q5q)
def Qaow:SC:=(.seq (.reg ( eI 4 (.alloc [.int .i64 0,.int .i64 0,.str [],.sl true 4 []])::[]) [0,1,4]) Q5r)
def Qgd:List RS:=[.cell 4 4 true]
theorem Qaji:mFn prog Qa7 2 99 Qaow Qgd=true:=by kernel_rfl
def Qaot:List Item:=oJ 17 16::[]
def Qbag:SC:=(.cond (.t 17) (.seq (.reg ( fI 2 (.mv (.k (.c (.bool false))))::[]) [2]) .ret) .skip)
def Qbah:SC:=(.reg ( mJ 9 3::cJ 10 .add 9 1::mJ 3 10::[]) [1,3])
def Qbai:SC:=(.seq (.block 1 (.seq (.reg ( fJ 11 1 1::lJ 12 11::mJ 13 3::iJ 14 1 12 13::lJ 15 14::aJ 16 Qc3 [.t 15]::Qaot) [1,3,17]) Qbag)) Qbah)
def Qa64:SC:=(.seq (.seq (.reg ( mJ 4 3::fJ 5 1 1::lJ 6 5::nJ 7 6::bJ 8 .lss 4 7::[]) [1,3,8]) (.cond (.t 8) .skip (.exit 0))) Qbai)
def Q5d:List Item:=fI 31 (.pick (.t 27) (.t 30) (.k (.c (.bool false))))::mJ 2 31::[]
def Qaou:List Item:=mJ 21 20::gTf 22 21 1 1::gTl 23 21 22::gT 24 21 (.len (.t 23))::gT 25 21 (.bin 0 .leq (.t 24) (kI 3))::fI 26 (.pick (.t 21) (.t 25) (.k (.c (.bool false))))::mJ 27 26::gTf 28 27 2 1::gTl 29 27 28::.e (some 30) (some (27,true)) (.call Qhh [.t 29,kI 4])::Q5d
def Qbaj:SC:=(.seq (.reg ( fJ 18 0 1::lJ 19 18::aJ 20 Qc3 [.t 19]::Qaou) [2]) .ret)
def Qbak:SC:=(.seq (.seq (.reg ( fI 3 (.mv (kI 0))::[]) [1,3]) (.block 0 (.loop Qa64))) Qbaj)
def Qbe5:SC:=(.seq (.reg ( fI 1 (.box (.t 0))::fI 2 (.mv (.k (.c (.bool false))))::[]) [1]) Qbak)
def Qa5q:List RS:=[.tmp 2]
theorem Qbev:mFn prog Qaq1 1 32 Qbe5 Qa5q=true:=by kernel_rfl
def Qadw:List Item:=bJ 20 .add 12 19::mJ 3 20::[]
def Qa6y:SC:=(.reg ( mJ 10 4::cJ 11 .add 10 1::mJ 4 11::[]) [1,3,4])
def Qa6z:SC:=(.seq (.block 1 (.reg ( mJ 12 3::fJ 13 0 1::lJ 14 13::mJ 15 4::iJ 16 3 14 15::fJ 17 2 16::lJ 18 17::aJ 19 Qhg [.t 18]::Qadw) [1,3,4])) Qa6y)
def Qa1i:SC:=(.seq (.seq (.reg ( mJ 5 4::fJ 6 0 1::lJ 7 6::nJ 8 7::bJ 9 .lss 5 8::[]) [1,3,4,9]) (.cond (.t 9) .skip (.exit 0))) Qa6z)
def Qa60:SC:=(.seq (.reg ( mJ 21 3::mJ 2 21::[]) [2]) .ret)
def Qa61:SC:=(.seq (.seq (.reg ( fI 4 (.mv (kI 0))::[]) [1,3,4]) (.block 0 (.loop Qa1i))) Qa60)
def Qa62:SC:=(.seq (.reg ( fI 3 (.mv (kI 0))::[]) [1,3]) Qa61)
def Qbdq:SC:=(.seq (.reg ( fI 1 (.box (.t 0))::fI 2 (.mv (kI 0))::[]) [1]) Qa62)
def Qa5p:List RS:=[.tmp 2]
theorem Qbdb:mFn prog Qaei 1 22 Qbdq Qa5p=true:=by kernel_rfl
def Qzr:List Item:=mJ 5 4::gTm 6 5 0::gT 7 5 (.bin 0 .neq (.t 6) (kI 12))::fI 8 (.pick (.t 5) (.t 7) (.k (.c (.bool false))))::mJ 9 8::gTm 10 9 0::gT 11 9 (.bin 0 .neq (.t 10) (kI 13))::fI 12 (.pick (.t 9) (.t 11) (.k (.c (.bool false))))::mJ 2 12::[]
def Qawx:SC:=(.seq (.reg ( mJ 3 0::aJ 4 Qbd [.t 3,kI 1,kI 14]::Qzr) [2]) .ret)
def Qa69:SC:=(.seq (.reg ( fI 2 (.mv (.k (.c (.bool false))))::[]) [0]) Qawx)
def Qaj9:List RS:=[.tmp 2]
theorem Qa5d:mFn prog Qdq 1 13 Qa69 Qaj9=true:=by kernel_rfl
def Q6k:List Item:=mJ 24 23::gFm 25 24 0::gF 26 24 (.bin 0 .eql (.t 25) (kI 12))::fI 27 (.pick (.t 24) (.k (.c (.bool true))) (.t 26))::mJ 21 27::[]
def Qa1u:SC:=(.cond (.t 21) (.seq (.reg ( fI 2 (.mv (kI 2))::[]) [2]) .ret) .skip)
def Qa1v:SC:=(.cond (.t 6) (.seq (.reg ( fI 2 (.mv (kI 1))::[]) [2]) .ret) (.seq (.reg ( mJ 22 0::aJ 23 Qbd [.t 22,kI 3,kI 9]::Q6k) [21]) Qa1u))
def Qa1w:SC:=(.cond (.t 3) (.seq (.reg ( fI 2 (.mv (kI 0))::[]) [2]) .ret) (.seq (.reg ( mJ 7 0::cJ 8 .eql 7 2::mJ 9 8::gFm 10 9 0::gF 11 9 (.bin 0 .eql (.t 10) (kI 10))::fI 12 (.pick (.t 9) (.k (.c (.bool true))) (.t 11))::mJ 13 12::gFm 14 13 0::gF 15 13 (.bin 0 .eql (.t 14) (kI 11))::fI 16 (.pick (.t 13) (.k (.c (.bool true))) (.t 15))::mJ 17 16::gFm 18 17 0::gF 19 17 (.bin 0 .eql (.t 18) (kI 13))::fI 20 (.pick (.t 17) (.k (.c (.bool true))) (.t 19))::mJ 6 20::[]) [0,6]) Qa1v))
def Qa1x:SC:=(.seq (.reg ( fI 2 (.mv (kI (-1)))::[]) [2]) .ret)
def Qa1y:SC:=(.seq (.block 0 (.seq (.reg ( mJ 4 0::cJ 5 .eql 4 1::mJ 3 5::[]) [0,3]) Qa1w)) Qa1x)
def Qban:SC:=(.seq (.reg ( fI 2 (.mv (kI 0))::[]) [0]) Qa1y)
def Qafh:List RS:=[.tmp 2]
theorem Qa9o:mFn prog Qk9 1 28 Qban Qafh=true:=by kernel_rfl
def Qavq:SC:=(.cond (.t 3) (.seq (.reg ( fI 2 (.mv (kI 1))::[]) [2]) .ret) .skip)
def Qavr:SC:=(.seq (.reg ( fI 2 (.mv (kI 0))::[]) [2]) .ret)
def Qavs:SC:=(.seq (.seq (.reg ( mJ 3 0::[]) [3]) Qavq) Qavr)
def Qa66:SC:=(.seq (.reg ( fI 2 (.mv (kI 0))::[]) [0]) Qavs)
def Q35:List RS:=[.tmp 2]
theorem Qa5b:mFn prog Qux 1 4 Qa66 Q35=true:=by kernel_rfl
def Qacg:SC:=(.cond (.t 11) (.seq (.reg ( mJ 12 0::tJ 13 5 3::aJ 14 Qi3 [.t 12,.t 13]::[]) []) .ret) .skip)
def Qm6:List Item:=mJ 4 32::[]
def Qm7:List Item:=fI 31 (.bsl 1 [.t 30])::eI 32 (.app 1 (.t 23) (.t 31))::Qm6
def Qach:SC:=(.reg ( mJ 21 5::cJ 22 .add 21 1::mJ 5 22::[]) [0,3,4,5])
def Qaci:SC:=(.seq (.block 1 (.reg ( mJ 23 4::mJ 24 0::fJ 25 2 3::lJ 26 25::mJ 27 5::iJ 28 4 26 27::tJ 29 4 28::aJ 30 Qb1 [.t 24,.t 29]::Qm7) [0,3,4,5])) Qach)
def Q8u:SC:=(.seq (.seq (.reg ( mJ 16 5::fJ 17 2 3::lJ 18 17::nJ 19 18::bJ 20 .lss 16 19::[]) [0,3,4,5,20]) (.cond (.t 20) .skip (.exit 0))) Qaci)
def Qm8:List Item:=kJ 58 44::fJ 59 5 58::.e none none (.sto 1 (.t 59) (.t 57))::[]
def Qacj:SC:=(.reg ( mJ 60 0::mJ 61 0::kJ 62 61::fJ 63 6 62::lJ 64 63::cJ 65 .add 64 1::kJ 66 60::fJ 67 6 66::.e none none (.sto 1 (.t 67) (.t 65))::[]) [])
def Qack:SC:=(.seq (.dreg 17 [0,1,2,3,4,5,6,7,8,9,10,11,12,13,14,15,16] ( mJ 44 0::mJ 45 0::kJ 46 45::fJ 47 5 46::lJ 48 47::fJ 49 1 3::lJ 50 49::mJ 51 0::kJ 52 51::fJ 53 6 52::lJ 54 53::fI 55 (.bld [.str [],.int .i64 0,.int .i64 0] [(0,1,.t 50),(1,1,.t 54),(2,1,kI 0)])::fI 56 (.bsl 3 [.t 55])::eI 57 (.app 3 (.t 48) (.t 56))::Qm8) [0]) Qacj)
def Qm9:List Item:=mJ 75 4::aJ 76 Qar [.t 70,kI 2,.t 74,kI 0,.t 75]::[]
def Qkp:List Item:=.chk 91 none (.iad 1 (.t 90) (kI 0))::.chk 92 none (.ld 1 false (.t 91))::aJ 96 Qax [.t 89,kI 3,.t 92,.t 93,.t 95]::[]
def Qkq:List Item:=mJ 6 100::[]
def Qkr:List Item:=mJ 7 102::[]
def Qks:List Item:=mJ 8 104::[]
def Q8c:SC:=(.reg ( mJ 127 0::mJ 128 8::fI 129 (.bsl 1 [.t 128])::mJ 130 8::aJ 131 Qax [.t 127,kI 1,kI 0,.t 129,.t 130]::[]) [])
def Q8d:SC:=(.seq (.reg ( mJ 123 0::fJ 124 4 3::lJ 125 124::aJ 126 Qb6 [.t 123,.t 125]::[]) [0,8]) Q8c)
def Q8e:SC:=(.seq (.reg ( mJ 118 0::mJ 119 8::fI 120 (.bsl 1 [.t 119])::mJ 121 7::aJ 122 Qax [.t 118,kI 1,kI 0,.t 120,.t 121]::[]) [0,3,8]) Q8d)
def Q8f:SC:=(.seq (.reg ( mJ 114 0::fJ 115 3 3::lJ 116 115::aJ 117 Qb6 [.t 114,.t 116]::[]) [0,3,7,8]) Q8e)
def Q8g:SC:=(.seq (.reg ( mJ 105 0::mJ 106 4::fI 107 (.iad 1 (.t 106) (kI 0))::lJ 108 107::mJ 109 6::mJ 110 7::fI 111 (.bsl 1 [.t 109,.t 110])::mJ 112 6::aJ 113 Qax [.t 105,kI 2,.t 108,.t 111,.t 112]::[]) [0,3,7,8]) Q8f)
def Q8h:SC:=(.seq (.reg ( mJ 103 0::aJ 104 Qan [.t 103]::Qks) [0,3,4,6,7,8]) Q8g)
def Q8i:SC:=(.seq (.reg ( mJ 101 0::aJ 102 Qan [.t 101]::Qkr) [0,3,4,6,7]) Q8h)
def Q8j:SC:=(.cond (.t 97) (.seq (.reg ( mJ 99 0::aJ 100 Qan [.t 99]::Qkq) [0,3,4,6]) Q8i) .skip)
def Q8k:SC:=(.cond (.t 87) (.dreg 8 [0,1,2,3,4,5,6,2,3,7] ( mJ 89 0::mJ 90 4::fI 91 (.iad 1 (.t 90) (kI 0))::lJ 92 91::fI 93 (.bsl 1 [])::mJ 94 0::aJ 95 Qan [.t 94]::Qkp) []) (.seq (.reg ( cJ 98 .eql 34 5::mJ 97 98::[]) [0,3,4,97]) Q8j))
def Q8l:SC:=(.cond (.t 82) (.reg ( mJ 84 0::mJ 85 4::aJ 86 Qar [.t 84,kI 12,kI (-1),kI 0,.t 85]::[]) []) (.seq (.reg ( cJ 88 .eql 34 7::mJ 87 88::[]) [0,3,4,34,87]) Q8k))
def Q8m:SC:=(.cond (.t 77) (.reg ( mJ 79 0::mJ 80 4::aJ 81 Qar [.t 79,kI 13,kI (-1),kI 0,.t 80]::[]) []) (.seq (.reg ( cJ 83 .eql 34 4::mJ 82 83::[]) [0,3,4,34,82]) Q8l))
def Q8n:SC:=(.cond (.t 68) (.reg ( mJ 70 0::mJ 71 0::fJ 72 1 3::lJ 73 72::aJ 74 Qf5 [.t 71,.t 73]::Qm9) []) (.seq (.reg ( cJ 78 .eql 34 3::mJ 77 78::[]) [0,3,4,34,77]) Q8m))
def Q8o:SC:=(.cond (.t 35) (.seq (.reg ( mJ 37 0::mJ 38 0::kJ 39 38::fJ 40 6 39::lJ 41 40::mJ 42 4::aJ 43 Qar [.t 37,kI 2,.t 41,kI 0,.t 42]::[]) [0,3]) Qack) (.seq (.reg ( cJ 69 .eql 34 2::mJ 68 69::[]) [0,3,4,34,68]) Q8n))
def Q8p:SC:=(.block 2 (.seq (.reg ( cJ 36 .eql 34 1::mJ 35 36::[]) [0,3,4,34,35]) Q8o))
def Q8q:SC:=(.seq (.seq .gh (.reg ( fJ 33 0 3::lJ 34 33::[]) [0,3,4,34])) Q8p)
def Q8r:SC:=(.seq (.seq (.reg ( fI 5 (.mv (kI 0))::[]) [0,3,4,5]) (.block 0 (.loop Q8u))) Q8q)
def Q8s:SC:=(.seq (.reg ( fI 15 (.bsl 1 [])::mJ 4 15::[]) [0,3,4]) Q8r)
def Q8t:SC:=(.seq (.seq (.reg ( fJ 9 0 3::lJ 10 9::cJ 11 .eql 10 6::[]) [0,3,11]) Qacg) Q8s)
def Qap5:SC:=(.seq (.reg ( fI 3 (.box (.t 1))::[]) [0,3]) Q8t)
def Qlo:List RS:=[]
theorem Qajp:mFn prog Qi4 2 132 Qap5 Qlo=true:=by kernel_rfl
def Qmi:List Item:=mJ 5 19::[]
def Qmj:List Item:=fI 42 (.bsl 4 [.t 41])::fI 43 (.bld [.int .i64 0,.str [],.sl true 4 [],.sl true 5 [],.sl true 5 []] [(0,1,kI 2),(1,1,.t 39),(2,1,.t 42)])::fI 44 (.bsl 5 [.t 43])::mJ 4 44::[]
def Qmk:List Item:=aJ 41 Qa7 [.t 40,kI 3]::Qmj
def Qml:List Item:=fI 52 (.bsl 5 [.t 51])::mJ 4 52::[]
def Qmm:List Item:=aJ 51 Qf4 [.t 48,.t 50]::Qml
def Qmn:List Item:=fI 62 (.bsl 4 [.t 61])::fI 63 (.bld [.int .i64 0,.str [],.sl true 4 [],.sl true 5 [],.sl true 5 []] [(0,1,kI 3),(2,1,.t 62)])::fI 64 (.bsl 5 [.t 63])::mJ 4 64::[]
def Qmo:List Item:=fI 72 (.bsl 4 [.t 69,.t 71])::fI 73 (.bld [.int .i64 0,.str [],.sl true 4 [],.sl true 5 [],.sl true 5 []] [(0,1,kI 4),(2,1,.t 72)])::fI 74 (.bsl 5 [.t 73])::mJ 4 74::[]
def Qmp:List Item:=mJ 70 0::aJ 71 Qa7 [.t 70,kI 2]::Qmo
def Qmq:List Item:=fI 80 (.bsl 4 [.t 79])::fI 81 (.bld [.int .i64 0,.int .i64 0,.str [],.sl true 4 []] [(0,1,kI 12),(3,1,.t 80)])::fI 82 (.bsl 4 [.t 81])::fI 83 (.bld [.int .i64 0,.str [],.sl true 4 [],.sl true 5 [],.sl true 5 []] [(0,1,kI 3),(2,1,.t 82)])::fI 84 (.bsl 5 [.t 83])::mJ 4 84::[]
def Qmr:List Item:=.e none none (.sto 5 (.t 6) (.t 95))::[]
def Qj2:List Item:=fI 95 (.bld [.int .i64 0,.str [],.sl true 4 [],.sl true 5 [],.sl true 5 []] [(0,1,kI 5),(2,1,.t 90),(3,1,.t 94)])::eI 6 (.alloc [.int .i64 0,.str [],.sl true 4 [],.sl true 5 [],.sl true 5 []])::Qmr
def Qj3:List Item:=fI 90 (.bsl 4 [.t 89])::mJ 91 0::mJ 92 1::cJ 93 .sub 92 1::aJ 94 Qb4 [.t 91,.t 93]::Qj2
def Qj4:List Item:=cJ 101 .eql 100 0::[]
def Qj5:List Item:=fJ 106 4 6::.e none none (.sto 1 (.t 106) (.t 105))::[]
def Q5z:SC:=(.cond (.t 101) (.reg ( mJ 102 0::mJ 103 1::cJ 104 .sub 103 1::aJ 105 Qb4 [.t 102,.t 104]::Qj5) [6]) .skip)
def Qmg:SC:=(.seq (.reg ( tJ 107 5 6::fI 108 (.bsl 5 [.t 107])::mJ 4 108::[]) [4]) .ret)
def Q50:SC:=(.seq (.seq (.reg ( mJ 96 0::kJ 97 96::fJ 98 0 97::lJ 99 98::aJ 100 Qn [.t 99,kI 2]::Qj4) [0,1,6,101]) Q5z) Qmg)
def Qeh:List Item:=gT 118 112 (.bin 0 .eql (.t 117) (kI 0))::fI 119 (.pick (.t 112) (.t 118) (.k (.c (.bool false))))::mJ 109 119::[]
def Qj6:List Item:=fI 122 (.bsl 4 [.t 121])::fI 123 (.bld [.int .i64 0,.str [],.sl true 4 [],.sl true 5 [],.sl true 5 []] [(0,1,kI 7),(2,1,.t 122)])::fI 124 (.bsl 5 [.t 123])::mJ 4 124::[]
def Qmh:SC:=(.cond (.t 109) (.seq (.reg ( mJ 120 0::aJ 121 Qa7 [.t 120,kI 2]::Qj6) [4]) .ret) .skip)
def Q51:SC:=(.cond (.t 85) (.seq (.reg ( mJ 88 0::aJ 89 Qa7 [.t 88,kI 3]::Qj3) [0,1,6]) Q50) (.seq (.reg ( mJ 110 5::cJ 111 .eql 110 11::mJ 112 111::gTm 113 112 0::gT 114 112 (.nck (.t 113))::gTf 115 112 0 114::gTl 116 112 115::.e (some 117) (some (112,true)) (.call Qn [.t 116,kI 3])::Qeh) [0,1,109]) Qmh))
def Q52:SC:=(.cond (.t 75) (.seq (.reg ( mJ 78 0::aJ 79 Qev [.t 78]::Qmq) [4]) .ret) (.seq (.reg ( mJ 86 5::cJ 87 .lss 86 11::mJ 85 87::[]) [0,1,5,85]) Q51))
def Q53:SC:=(.cond (.t 65) (.seq (.reg ( mJ 68 0::aJ 69 Qev [.t 68]::Qmp) [4]) .ret) (.seq (.reg ( mJ 76 5::cJ 77 .eql 76 8::mJ 75 77::[]) [0,1,5,75]) Q52))
def Q54:SC:=(.cond (.t 53) (.seq (.reg ( mJ 60 0::aJ 61 Qa7 [.t 60,kI 3]::Qmn) [4]) .ret) (.seq (.reg ( mJ 66 5::cJ 67 .eql 66 7::mJ 65 67::[]) [0,1,5,65]) Q53))
def Q55:SC:=(.cond (.t 45) (.seq (.reg ( mJ 48 0::mJ 49 0::aJ 50 Qa7 [.t 49,kI 3]::Qmm) [4]) .ret) (.seq (.reg ( mJ 54 5::cJ 55 .lss 54 7::mJ 56 55::gFm 57 56 1::gF 58 56 (.bin 0 .lss (.t 57) (kI 2))::fI 59 (.pick (.t 56) (.k (.c (.bool true))) (.t 58))::mJ 53 59::[]) [0,1,5,53]) Q54))
def Q56:SC:=(.cond (.t 20) (.seq (.dreg 15 [0,1,2,3,4,5,6,7,9,8,10,11,12,13,14] ( mJ 31 0::kJ 32 31::fJ 33 0 32::lJ 34 33::mJ 35 0::kJ 36 35::fJ 37 2 36::lJ 38 37::mJ 40 0::aJ 39 Qfe [.t 34,.t 38]::Qmk) [4]) .ret) (.seq (.reg ( mJ 46 5::cJ 47 .lss 46 5::mJ 45 47::[]) [0,1,5,45]) Q55))
def Qj7:List Item:=mJ 4 127::[]
def Qfv:SC:=(.seq (.reg ( mJ 125 0::mJ 126 1::aJ 127 Qi0 [.t 125,.t 126]::Qj7) [4]) .ret)
def Q57:SC:=(.seq (.block 0 (.seq (.reg ( mJ 21 5::cJ 22 .lss 21 3::mJ 23 22::gTm 24 23 0::gT 25 23 (.nck (.t 24))::gTf 26 23 2 25::gTl 27 23 26::gT 28 23 (.len (.t 27))::gT 29 23 (.bin 0 .gtr (.t 28) (kI 0))::fI 30 (.pick (.t 23) (.t 29) (.k (.c (.bool false))))::mJ 20 30::[]) [0,1,5,20]) Q56)) Qfv)
def Q58:SC:=(.seq (.reg ( mJ 15 0::kJ 16 15::fJ 17 0 16::lJ 18 17::aJ 19 Qn [.t 18,kI 13]::Qmi) [0,1,5]) Q57)
def Q59:SC:=(.seq (.reg ( mJ 7 0::mJ 8 0::kJ 9 8::fJ 10 4 9::lJ 11 10::cJ 12 .sub 11 1::kJ 13 7::fJ 14 4 13::.e none none (.sto 1 (.t 14) (.t 12))::[]) [0,1]) Q58)
def Qao0:SC:=(.seq (.reg ( fI 4 (.mv (.k (.c (.sl true 5 []))))::[]) [0,1]) Q59)
def Qa8:List RS:=[.tmp 4]
theorem Qajk:mFn prog Qi1 2 128 Qao0 Qa8=true:=by kernel_rfl
def Qq0:List Item:=gF 13 10 (.bin 0 .eql (.t 12) (kI 0))::fI 14 (.pick (.t 10) (.k (.c (.bool true))) (.t 13))::[]
def Q4y:List Item:=.e none none (.sto 4 (.t 6) (.t 17))::[]
def s_l2Expr_2:SC:=(.cond (.t 14) (.seq (.reg ( mJ 15 0::mJ 16 1::aJ 17 Q2v [.t 15,.t 16]::Q4y) [6]) .ret) .skip)
def Q4z:List Item:=cJ 20 .eql 19 0::[]
def Q40:List Item:=fI 29 (.bsl 4 [.t 28])::fI 30 (.bld [.int .i64 0,.int .i64 0,.str [],.sl true 4 []] [(0,1,.t 23),(3,1,.t 29)])::.e none none (.sto 4 (.t 6) (.t 30))::[]
def Q41:List Item:=mJ 24 0::mJ 25 1::mJ 26 2::cJ 27 .sub 26 1::aJ 28 Qea [.t 24,.t 25,.t 27]::Q40
def Qa08:SC:=(.cond (.t 20) (.seq (.reg ( mJ 21 0::fI 22 (.bsl 1 [kI 11,kI 12,kI 11])::aJ 23 Q8 [.t 21,.t 22]::Q41) [6]) .ret) .skip)
def Q42:List Item:=mJ 7 33::[]
def Q43:List Item:=fI 45 (.bsl 4 [.t 39,.t 44])::fI 46 (.bld [.int .i64 0,.int .i64 0,.str [],.sl true 4 []] [(0,1,.t 34),(3,1,.t 45)])::.e none none (.sto 4 (.t 6) (.t 46))::[]
def Q44:List Item:=mJ 40 0::mJ 41 1::mJ 42 2::cJ 43 .sub 42 1::aJ 44 Qea [.t 40,.t 41,.t 43]::Q43
def Qaue:SC:=(.seq (.reg ( mJ 34 7::mJ 35 0::mJ 36 1::mJ 37 2::cJ 38 .sub 37 1::aJ 39 Qea [.t 35,.t 36,.t 38]::Q44) [6]) .ret)
def Qauf:SC:=(.seq (.reg ( mJ 31 0::fI 32 (.bsl 1 [kI 3,kI 3,kI 4,kI 5,kI 6,kI 7,kI 8,kI 9,kI 10])::aJ 33 Q8 [.t 31,.t 32]::Q42) [0,1,2,6,7]) Qaue)
def Q4x:SC:=(.seq (.seq (.reg ( mJ 18 0::aJ 19 Qn [.t 18,kI 7]::Q4z) [0,1,2,6,20]) Qa08) Qauf)
def Qaug:SC:=(.seq (.seq (.reg ( mJ 8 2::cJ 9 .lss 8 2::mJ 10 9::gFm 11 10 0::.e (some 12) (some (10,false)) (.call Qn [.t 11,kI 4])::Qq0) [0,1,2,6,14]) s_l2Expr_2) Q4x)
def Qbab:SC:=(.seq (.reg ( eI 6 (.alloc [.int .i64 0,.int .i64 0,.str [],.sl true 4 []])::[]) [0,1,2,6]) Qaug)
def Q17:List RS:=[.cell 6 4 true]
theorem Qa9h:mFn prog Qea 3 47 Qbab Q17=true:=by kernel_rfl
def Qhc:List Item:=gT 13 10 (.not (.t 12))::fI 14 (.pick (.t 10) (.t 13) (.k (.c (.bool false))))::mJ 2 14::[]
def Qps:List Item:=mJ 5 4::gTm 6 5 0::gT 7 5 (.lens (.t 6))::gT 8 5 (.bin 0 .leq (.t 7) (kI 4))::fI 9 (.pick (.t 5) (.t 8) (.k (.c (.bool false))))::mJ 10 9::gTm 11 10 0::.e (some 12) (some (10,true)) (.call Qaeh [.t 11])::Qhc
def Qaie:SC:=(.seq (.reg ( mJ 3 0::aJ 4 Qaeg [.t 3,kI 1]::Qps) [2]) .ret)
def Qax2:SC:=(.seq (.reg ( fI 2 (.mv (.k (.c (.bool false))))::[]) [0]) Qaie)
def Qqa:List RS:=[.tmp 2]
theorem Qart:mFn prog Qc3 1 15 Qax2 Qqa=true:=by kernel_rfl
def Qy7:List Item:=oJ 18 17::[]
def Qavl:SC:=(.cond (.t 18) (.seq (.reg ( fI 4 (.mv (.k (.c (.bool false))))::[]) [4]) .ret) .skip)
def Qavm:SC:=(.reg ( mJ 10 5::cJ 11 .add 10 1::mJ 5 11::[]) [0,1,5])
def Qavn:SC:=(.seq (.block 1 (.seq (.reg ( mJ 12 0::mJ 13 5::iJ 14 5 12 13::tJ 15 5 14::mJ 16 1::aJ 17 Q2y [.t 15,.t 16]::Qy7) [0,1,5,18]) Qavl)) Qavm)
def Qao2:SC:=(.seq (.seq (.reg ( mJ 6 5::mJ 7 0::nJ 8 7::bJ 9 .lss 6 8::[]) [0,1,5,9]) (.cond (.t 9) .skip (.exit 0))) Qavn)
def Qavo:SC:=(.seq (.reg ( fI 4 (.mv (.k (.c (.bool true))))::[]) [4]) .ret)
def Qavp:SC:=(.seq (.seq (.reg ( fI 5 (.mv (kI 0))::[]) [0,1,5]) (.block 0 (.loop Qao2))) Qavo)
def Qa65:SC:=(.seq (.reg ( fI 4 (.mv (.k (.c (.bool false))))::[]) [0,1]) Qavp)
def Q34:List RS:=[.tmp 4]
theorem Qa5a:mFn prog Qhh 2 19 Qa65 Q34=true:=by kernel_rfl
def Qyx:List Item:=bJ 27 .add 20 26::mJ 3 27::[]
def Qyy:List Item:=.chk 23 none (.iad 5 (.t 21) (.t 22))::.chk 25 none (.ld 1 false (.t 24))::bJ 20 .add 13 19::aJ 26 Qhg [.t 25]::Qyx
def Qauz:SC:=(.reg ( mJ 11 4::cJ 12 .add 11 1::mJ 4 12::[]) [0,3,4])
def Qau0:SC:=(.seq (.block 1 (.dreg 16 [0,1,2,3,4,5,8,9,10,11,12,6,10,12,7,13,14,15] ( mJ 13 3::mJ 14 0::mJ 15 4::iJ 16 5 14 15::fJ 17 3 16::lJ 18 17::mJ 21 0::mJ 22 4::iJ 23 5 21 22::fJ 24 4 23::lJ 25 24::aJ 19 Qhg [.t 18]::Qyy) [0,3,4])) Qauz)
def Qaos:SC:=(.seq (.seq (.reg ( mJ 7 4::mJ 8 0::nJ 9 8::bJ 10 .lss 7 9::[]) [0,3,4,10]) (.cond (.t 10) .skip (.exit 0))) Qau0)
def Qau1:SC:=(.seq (.reg ( mJ 28 3::mJ 2 28::[]) [2]) .ret)
def Qau2:SC:=(.seq (.seq (.reg ( fI 4 (.mv (kI 0))::[]) [0,3,4]) (.block 0 (.loop Qaos))) Qau1)
def Qau3:SC:=(.seq (.reg ( mJ 5 0::nJ 6 5::mJ 3 6::[]) [0,3]) Qau2)
def Qa63:SC:=(.seq (.reg ( fI 2 (.mv (kI 0))::[]) [0]) Qau3)
def Qaj8:List RS:=[.tmp 2]
theorem Qa49:mFn prog Qhg 1 29 Qa63 Qaj8=true:=by kernel_rfl
def Qm2:List Item:=mJ 4 9::[]
def Qm3:List Item:=mJ 5 11::[]
def Qm4:List Item:=mJ 6 13::[]
def Qm5:List Item:=mJ 7 24::[]
def Qab9:SC:=(.reg ( mJ 36 0::mJ 37 4::fI 38 (.bsl 1 [.t 37])::mJ 39 6::aJ 40 Qax [.t 36,kI 1,kI 0,.t 38,.t 39]::[]) [])
def Qaca:SC:=(.seq (.reg ( mJ 32 0::fJ 33 3 3::lJ 34 33::aJ 35 Qb6 [.t 32,.t 34]::[]) [0,4,6]) Qab9)
def Qacb:SC:=(.seq (.reg ( mJ 25 0::mJ 26 7::mJ 27 5::mJ 28 6::fI 29 (.bsl 1 [.t 27,.t 28])::mJ 30 5::aJ 31 Qax [.t 25,kI 2,.t 26,.t 29,.t 30]::[]) [0,3,4,6]) Qaca)
def Qacc:SC:=(.seq (.reg ( mJ 19 0::fJ 20 2 3::lJ 21 20::fI 22 (.iad 4 (.t 21) (kI 0))::tJ 23 4 22::aJ 24 Qb1 [.t 19,.t 23]::Qm5) [0,3,4,5,6,7]) Qacb)
def Qacd:SC:=(.seq (.reg ( mJ 14 0::mJ 15 4::fI 16 (.bsl 1 [.t 15])::mJ 17 4::aJ 18 Qax [.t 14,kI 1,kI 0,.t 16,.t 17]::[]) [0,3,4,5,6]) Qacc)
def Qace:SC:=(.seq (.reg ( mJ 12 0::aJ 13 Qan [.t 12]::Qm4) [0,3,4,5,6]) Qacd)
def Q8a:SC:=(.seq (.reg ( mJ 10 0::aJ 11 Qan [.t 10]::Qm3) [0,3,4,5]) Qace)
def Q8b:SC:=(.seq (.reg ( mJ 8 0::aJ 9 Qan [.t 8]::Qm2) [0,3,4]) Q8a)
def Qap4:SC:=(.seq (.reg ( fI 3 (.box (.t 1))::[]) [0,3]) Q8b)
def Qw3:List RS:=[]
theorem Qajo:mFn prog Qi3 2 41 Qap4 Qw3=true:=by kernel_rfl
def Qmw:List Item:=mJ 4 17::[]
def Qmx:List Item:=.chk 15 none (.ld 1 false (.t 14))::aJ 17 Qar [.t 11,kI 1,.t 13,.t 15,.t 16]::Qmw
def Qmy:List Item:=mJ 4 23::[]
def Qmz:List Item:=mJ 4 28::[]
def Qab1:SC:=(.cond (.t 24) (.seq (.reg ( mJ 26 0::tJ 27 4 3::aJ 28 Qlb [.t 26,.t 27]::Qmz) [4]) .ret) .skip)
def Qab2:SC:=(.cond (.t 18) (.seq (.reg ( mJ 20 0::fJ 21 2 3::lJ 22 21::aJ 23 Qf5 [.t 20,.t 22]::Qmy) [4]) .ret) (.seq (.reg ( cJ 25 .eql 8 10::mJ 24 25::[]) [0,3,24]) Qab1))
def Qab3:SC:=(.cond (.t 9) (.seq (.dreg 8 [0,1,3,4,5,2,4,6,7] ( mJ 11 0::mJ 12 0::fJ 14 1 3::lJ 15 14::fI 16 (.bsl 1 [])::aJ 13 Qa0 [.t 12]::Qmx) [4]) .ret) (.seq (.reg ( cJ 19 .eql 8 2::mJ 18 19::[]) [0,3,8,18]) Qab2))
def Qab4:SC:=(.block 0 (.seq (.reg ( cJ 10 .eql 8 1::mJ 9 10::[]) [0,3,8,9]) Qab3))
def Qm0:List Item:=mJ 5 46::[]
def Qm1:List Item:=fI 45 (.bsl 1 [.t 44])::eI 46 (.app 1 (.t 37) (.t 45))::Qm0
def Q7x:SC:=(.reg ( mJ 35 6::cJ 36 .add 35 1::mJ 6 36::[]) [0,3,5,6])
def Q7y:SC:=(.seq (.block 2 (.reg ( mJ 37 5::mJ 38 0::fJ 39 3 3::lJ 40 39::mJ 41 6::iJ 42 4 40 41::tJ 43 4 42::aJ 44 Qb1 [.t 38,.t 43]::Qm1) [0,3,5,6])) Q7x)
def Q1i:SC:=(.seq (.seq (.reg ( mJ 30 6::fJ 31 3 3::lJ 32 31::nJ 33 32::bJ 34 .lss 30 33::[]) [0,3,5,6,34]) (.cond (.t 34) .skip (.exit 1))) Q7y)
def Qkg:List Item:=mJ 4 55::[]
def Qkh:List Item:=mJ 54 5::aJ 55 Qar [.t 51,kI 10,.t 53,kI 0,.t 54]::Qkg
def Qki:List Item:=mJ 4 62::[]
def Qkj:List Item:=mJ 61 5::aJ 62 Qar [.t 58,kI 11,.t 60,kI 0,.t 61]::Qki
def Qkk:List Item:=mJ 4 76::[]
def Qkl:List Item:=aJ 76 Qar [.t 65,kI 14,.t 67,.t 74,.t 75]::Qkk
def Qkm:List Item:=.chk 71 none (.ld 1 true (.t 70))::.chk 73 none (.ld 1 false (.t 72))::aJ 74 Quz [.t 71,.t 73]::Qkl
def Q7z:SC:=(.cond (.t 63) (.seq (.dreg 13 [0,1,3,4,5,6,7,8,10,2,6,8,9,11,12] ( mJ 65 0::mJ 66 0::mJ 68 0::kJ 69 68::fJ 70 0 69::tJ 71 1 70::fJ 72 2 3::lJ 73 72::mJ 75 5::aJ 67 Qa0 [.t 66]::Qkm) [4]) .ret) .skip)
def Q70:SC:=(.cond (.t 56) (.seq (.reg ( mJ 58 0::mJ 59 0::aJ 60 Qa0 [.t 59]::Qkj) [4]) .ret) (.seq (.reg ( cJ 64 .eql 48 13::mJ 63 64::[]) [0,3,5,63]) Q7z))
def Q71:SC:=(.cond (.t 49) (.seq (.reg ( mJ 51 0::mJ 52 0::aJ 53 Qa0 [.t 52]::Qkh) [4]) .ret) (.seq (.reg ( cJ 57 .eql 48 12::mJ 56 57::[]) [0,3,5,48,56]) Q70))
def Q72:SC:=(.block 3 (.seq (.reg ( cJ 50 .eql 48 11::mJ 49 50::[]) [0,3,5,48,49]) Q71))
def Qkn:List Item:=mJ 4 83::[]
def Qko:List Item:=.chk 79 none (.ld 1 false (.t 78))::aJ 83 Qar [.t 77,.t 79,.t 81,kI 0,.t 82]::Qkn
def Q73:SC:=(.seq (.dreg 8 [0,1,2,3,5,4,2,6,7] ( mJ 77 0::fJ 78 0 3::lJ 79 78::mJ 80 0::mJ 82 5::aJ 81 Qa0 [.t 80]::Qko) [4]) .ret)
def Q74:SC:=(.seq (.seq (.seq .gh (.reg ( fJ 47 0 3::lJ 48 47::[]) [0,3,5,48])) Q72) Q73)
def Q75:SC:=(.seq (.seq (.reg ( fI 6 (.mv (kI 0))::[]) [0,3,5,6]) (.block 1 (.loop Q1i))) Q74)
def Q76:SC:=(.seq (.reg ( fI 29 (.bsl 1 [])::mJ 5 29::[]) [0,3,5]) Q75)
def Q77:SC:=(.seq (.seq (.reg ( fJ 7 0 3::lJ 8 7::[]) [0,3,8]) Qab4) Q76)
def Qap2:SC:=(.seq (.reg ( fI 3 (.box (.t 1))::fI 4 (.mv (kI 0))::[]) [0,3]) Q77)
def Qln:List RS:=[.tmp 4]
theorem Qajm:mFn prog Qb1 2 84 Qap2 Qln=true:=by kernel_rfl
def Qah0:SC:=(.cond (.t 25) (.seq (.reg ( mJ 26 0::kJ 27 26::fJ 28 5 27::lJ 29 28::mJ 30 5::iJ 31 3 29 30::fJ 32 1 31::lJ 33 32::mJ 4 33::[]) [4]) .ret) .skip)
def Qah1:SC:=(.reg ( mJ 14 5::cJ 15 .sub 14 1::mJ 5 15::[]) [0,1,5])
def Qah2:SC:=(.seq (.block 1 (.seq (.reg ( mJ 16 0::kJ 17 16::fJ 18 5 17::lJ 19 18::mJ 20 5::iJ 21 3 19 20::fJ 22 0 21::lJ 23 22::mJ 24 1::bJ 25 .eql 23 24::[]) [0,1,5,25]) Qah0)) Qah1)
def Qacf:SC:=(.seq (.seq (.reg ( mJ 12 5::cJ 13 .geq 12 0::[]) [0,1,5,13]) (.cond (.t 13) .skip (.exit 0))) Qah2)
def Qah3:SC:=(.seq (.reg ( fI 4 (.mv (kI (-1)))::[]) [4]) .ret)
def Qah4:SC:=(.seq (.seq (.reg ( mJ 6 0::kJ 7 6::fJ 8 5 7::lJ 9 8::nJ 10 9::cJ 11 .sub 10 1::mJ 5 11::[]) [0,1,5]) (.block 0 (.loop Qacf))) Qah3)
def Qaxu:SC:=(.seq (.reg ( fI 4 (.mv (kI 0))::[]) [0,1]) Qah4)
def Qp8:List RS:=[.tmp 4]
theorem Qarr:mFn prog Qf5 2 34 Qaxu Qp8=true:=by kernel_rfl
def Qtr:List Item:=iJ 10 1 5 9::lJ 11 10::mJ 4 11::[]
def Qaoq:SC:=(.seq (.reg ( mJ 5 1::mJ 6 0::mJ 7 1::nJ 8 7::aJ 9 Qn [.t 6,.t 8]::Qtr) [4]) .ret)
def Qa1h:SC:=(.seq (.reg ( fI 4 (.mv (.k (.c (.str []))))::[]) [0,1]) Qaoq)
def Qadp:List RS:=[.tmp 4]
theorem Qa0i:mFn prog Qfe 2 12 Qa1h Qadp=true:=by kernel_rfl
def Qpg:List Item:=mJ 5 7::[]
def Qph:List Item:=kJ 18 8::fJ 19 2 18::.e none none (.sto 1 (.t 19) (.t 17))::[]
def Qpi:List Item:=mJ 15 5::fI 16 (.bsl 1 [.t 15])::eI 17 (.app 1 (.t 14) (.t 16))::Qph
def Qahl:SC:=(.seq (.reg ( mJ 20 5::tJ 21 4 3::fI 22 (.bsl 4 [.t 21])::fI 23 (.bld [.int .i64 0,.str [],.sl true 4 [],.sl true 5 [],.sl true 5 []] [(0,1,kI 1),(1,1,.t 20),(2,1,.t 22)])::.e none none (.sto 5 (.t 4) (.t 23))::[]) [4]) .ret)
def Qahm:SC:=(.seq (.reg ( mJ 8 0::fI 9 (.bsl 1 [])::mJ 10 0::kJ 11 10::fJ 12 2 11::lJ 13 12::eI 14 (.app 1 (.t 9) (.t 13))::Qpi) [3,4,5]) Qahl)
def Qahn:SC:=(.seq (.reg ( mJ 6 0::aJ 7 Qgx [.t 6]::Qpg) [0,3,4,5]) Qahm)
def Qau4:SC:=(.seq (.reg ( fI 3 (.box (.t 1))::eI 4 (.alloc [.int .i64 0,.str [],.sl true 4 [],.sl true 5 [],.sl true 5 []])::[]) [0,3,4]) Qahn)
def Q33:List RS:=[.cell 4 5 true]
theorem Qaro:mFn prog Qf4 2 24 Qau4 Q33=true:=by kernel_rfl
def Qly:List Item:=fI 11 (.bld [.int .i64 0,.int .i64 0,.str [],.sl true 4 []] [(0,1,kI 1),(1,1,.t 10)])::fI 12 (.bsl 4 [.t 4,.t 11])::fI 13 (.bld [.int .i64 0,.int .i64 0,.str [],.sl true 4 []] [(0,1,kI 7),(3,1,.t 12)])::.e none none (.sto 4 (.t 2) (.t 13))::[]
def Qlz:List Item:=.chk 8 none (.ld 1 false (.t 7))::aJ 10 Q8 [.t 8,.t 9]::Qly
def Qabj:SC:=(.seq (.dreg 12 [0,2,3,4,5,6,1,5,7,8,9,10,11] ( mJ 3 0::mJ 5 0::kJ 6 5::fJ 7 0 6::lJ 8 7::fI 9 (.bsl 1 [kI 16,kI 16,kI 16,kI 8,kI 17,kI 0])::aJ 4 Qa7 [.t 3,kI 2]::Qlz) [2]) .ret)
def Qaov:SC:=(.seq (.reg ( eI 2 (.alloc [.int .i64 0,.int .i64 0,.str [],.sl true 4 []])::[]) [0,2]) Qabj)
def Qwz:List RS:=[.cell 2 4 true]
theorem Qajh:mFn prog Qev 1 14 Qaov Qwz=true:=by kernel_rfl
def Ql9:List Item:=.e none none (.sto 5 (.t 5) (.t 17))::[]
def Qma:List Item:=eI 5 (.alloc [.int .i64 0,.str [],.sl true 4 [],.sl true 5 [],.sl true 5 []])::Ql9
def Qmb:List Item:=fI 16 (.bld [.int .i64 0,.int .i64 0,.str [],.sl true 4 []] [(0,1,kI 1),(1,1,.t 15)])::aJ 17 Qf4 [.t 9,.t 16]::Qma
def Qmc:List Item:=.e none none (.sto 4 (.t 6) (.t 20))::[]
def Qmd:List Item:=mJ 7 24::[]
def Qme:List Item:=.e none none (.sto 5 (.t 8) (.t 32))::[]
def Qmf:List Item:=.chk 41 none (.ld 5 true (.t 5))::.chk 42 none (.ld 4 true (.t 6))::fI 48 (.bld [.int .i64 0,.str [],.sl true 4 [],.sl true 5 [],.sl true 5 []] [(0,1,kI 6),(2,1,.t 43),(3,1,.t 47)])::fI 49 (.bsl 5 [.t 41,.t 48])::mJ 4 49::[]
def Qabl:SC:=(.seq (.dreg 10 [0,1,2,3,4,5,6,0,1,7,8,9] ( tJ 41 5 5::tJ 42 4 6::fI 43 (.bsl 4 [.t 42])::mJ 44 7::tJ 45 5 8::fI 46 (.bsl 5 [.t 45])::eI 47 (.app 5 (.t 44) (.t 46))::Qmf) [4]) .ret)
def Qabm:SC:=(.seq (.reg ( mJ 33 0::mJ 34 0::kJ 35 34::fJ 36 4 35::lJ 37 36::cJ 38 .sub 37 2::kJ 39 33::fJ 40 4 39::.e none none (.sto 1 (.t 40) (.t 38))::[]) [5,6,7,8]) Qabl)
def Qabn:SC:=(.seq (.reg ( fJ 25 1 5::lJ 26 25::tJ 27 4 6::fI 28 (.bld [.int .i64 0,.int .i64 0,.str [],.sl true 4 []] [(0,1,kI 1),(1,1,kI 1)])::fI 29 (.bsl 4 [.t 27,.t 28])::fI 30 (.bld [.int .i64 0,.int .i64 0,.str [],.sl true 4 []] [(0,1,kI 4),(3,1,.t 29)])::fI 31 (.bsl 4 [.t 30])::fI 32 (.bld [.int .i64 0,.str [],.sl true 4 [],.sl true 5 [],.sl true 5 []] [(0,1,kI 2),(1,1,.t 26),(2,1,.t 31)])::eI 8 (.alloc [.int .i64 0,.str [],.sl true 4 [],.sl true 5 [],.sl true 5 []])::Qme) [0,5,6,7,8]) Qabm)
def Q5w:SC:=(.seq (.reg ( mJ 21 0::mJ 22 1::cJ 23 .sub 22 1::aJ 24 Qb4 [.t 21,.t 23]::Qmd) [0,5,6,7]) Qabn)
def Q5x:SC:=(.seq (.reg ( fJ 18 1 5::lJ 19 18::fI 20 (.bld [.int .i64 0,.int .i64 0,.str [],.sl true 4 []] [(0,1,kI 2),(2,1,.t 19)])::eI 6 (.alloc [.int .i64 0,.int .i64 0,.str [],.sl true 4 []])::Qmc) [0,1,5,6]) Q5w)
def Q5y:SC:=(.seq (.reg ( mJ 9 0::mJ 10 0::kJ 11 10::fJ 12 0 11::lJ 13 12::fI 14 (.bsl 1 [kI 2,kI 3,kI 1,kI 0,kI 5])::aJ 15 Q8 [.t 13,.t 14]::Qmb) [0,1,5]) Q5x)
def Qaoz:SC:=(.seq (.reg ( fI 4 (.mv (.k (.c (.sl true 5 []))))::[]) [0,1]) Q5y)
def Qw0:List RS:=[.tmp 4]
theorem Qajj:mFn prog Qi0 2 50 Qaoz Qw0=true:=by kernel_rfl
def Qq3:List Item:=gF 11 8 (.bin 0 .eql (.t 10) (kI 0))::fI 12 (.pick (.t 8) (.k (.c (.bool true))) (.t 11))::[]
def Q5a:List Item:=fI 16 (.bld [.int .i64 0,.int .i64 0,.str [],.sl true 4 []] [(0,1,kI 1),(1,1,.t 15)])::.e none none (.sto 4 (.t 4) (.t 16))::[]
def s_l2Leaf_2:SC:=(.cond (.t 12) (.seq (.reg ( mJ 13 0::fI 14 (.bsl 1 [kI 0,kI 1,kI 2,kI 3,kI 5,kI 7,kI 15,kI 16,kI 100,kI 255])::aJ 15 Q8 [.t 13,.t 14]::Q5a) [4]) .ret) .skip)
def Q5b:List Item:=fI 20 (.bld [.int .i64 0,.int .i64 0,.str [],.sl true 4 []] [(0,1,kI 2),(2,1,.t 19)])::.e none none (.sto 4 (.t 4) (.t 20))::[]
def Qadv:SC:=(.seq (.reg ( mJ 17 0::mJ 18 1::aJ 19 Qfe [.t 17,.t 18]::Q5b) [4]) .ret)
def Qa1g:SC:=(.seq (.seq (.reg ( mJ 5 1::nJ 6 5::cJ 7 .eql 6 0::mJ 8 7::gFm 9 8 0::.e (some 10) (some (8,false)) (.call Qn [.t 9,kI 3])::Qq3) [0,1,4,12]) s_l2Leaf_2) Qadv)
def Qbae:SC:=(.seq (.reg ( eI 4 (.alloc [.int .i64 0,.int .i64 0,.str [],.sl true 4 []])::[]) [0,1,4]) Qa1g)
def Q18:List RS:=[.cell 4 4 true]
theorem Qa9k:mFn prog Q2v 2 21 Qbae Q18=true:=by kernel_rfl
def Qadr:List Item:=mJ 16 1::bJ 17 .neq 15 16::[]
def Qa6j:SC:=(.cond (.t 17) (.seq (.reg ( fI 4 (.mv (.k (.c (.bool false))))::[]) [4]) .ret) .skip)
def Qa6k:SC:=(.reg ( mJ 10 5::cJ 11 .add 10 1::mJ 5 11::[]) [0,1,5])
def Qa6l:SC:=(.seq (.block 1 (.seq (.reg ( mJ 12 0::mJ 13 5::fI 14 (.idx (.t 12) (.t 13))::aJ 15 Quu [.t 14]::Qadr) [0,1,5,17]) Qa6j)) Qa6k)
def Qa06:SC:=(.seq (.seq (.reg ( mJ 6 5::mJ 7 0::fI 8 (.lens (.t 7))::bJ 9 .lss 6 8::[]) [0,1,5,9]) (.cond (.t 9) .skip (.exit 0))) Qa6l)
def Qa6m:SC:=(.seq (.reg ( mJ 18 0::fI 19 (.lens (.t 18))::cJ 20 .gtr 19 0::mJ 4 20::[]) [4]) .ret)
def Qa6n:SC:=(.seq (.seq (.reg ( fI 5 (.mv (kI 0))::[]) [0,1,5]) (.block 0 (.loop Qa06))) Qa6m)
def Qbdo:SC:=(.seq (.reg ( fI 4 (.mv (.k (.c (.bool false))))::[]) [0,1]) Qa6n)
def Qar5:List RS:=[.tmp 4]
theorem Qbc9:mFn prog Qaeg 2 21 Qbdo Qar5=true:=by kernel_rfl
def Qads:List Item:=mJ 3 5::[]
def Qa6p:SC:=(.cond (.t 17) (.seq (.reg ( fI 2 (.mv (.k (.c (.bool true))))::[]) [2]) .ret) .skip)
def Qa6q:SC:=(.reg ( mJ 10 4::cJ 11 .add 10 1::mJ 4 11::[]) [0,3,4])
def Qa6r:SC:=(.seq (.block 1 (.seq (.reg ( mJ 12 3::mJ 13 4::iJ 14 1 12 13::lJ 15 14::mJ 16 0::bJ 17 .eql 15 16::[]) [0,3,4,17]) Qa6p)) Qa6q)
def Qa07:SC:=(.seq (.seq (.reg ( mJ 6 4::mJ 7 3::nJ 8 7::bJ 9 .lss 6 8::[]) [0,3,4,9]) (.cond (.t 9) .skip (.exit 0))) Qa6r)
def Qa6s:SC:=(.seq (.reg ( fI 2 (.mv (.k (.c (.bool false))))::[]) [2]) .ret)
def Qa6t:SC:=(.seq (.seq (.reg ( fI 4 (.mv (kI 0))::[]) [0,3,4]) (.block 0 (.loop Qa07))) Qa6s)
def Qa6u:SC:=(.seq (.reg ( aJ 5 Qgz []::Qads) [0,3]) Qa6t)
def Qbdp:SC:=(.seq (.reg ( fI 2 (.mv (.k (.c (.bool false))))::[]) [0]) Qa6u)
def Qar6:List RS:=[.tmp 2]
theorem Qbda:mFn prog Qaeh 1 18 Qbdp Qar6=true:=by kernel_rfl
def Qjf:List Item:=.chk 17 (some (15,false)) (.ld 1 false (.t 16))::.chk 18 (some (15,false)) (.len (.t 17))::gF 22 15 (.bin 0 .neq (.t 18) (.t 21))::fI 23 (.pick (.t 15) (.k (.c (.bool true))) (.t 22))::[]
def Qq4:List Item:=gF 13 9 (.not (.t 12))::fI 14 (.pick (.t 9) (.k (.c (.bool true))) (.t 13))::mJ 15 14::gFf 16 15 2 2::gFl 17 15 16::gF 18 15 (.len (.t 17))::gFf 19 15 0 2::gFl 20 15 19::.e (some 21) (some (15,false)) (.call Q2w [.t 20])::Qjf
def s_l3Stmt_2:SC:=(.cond (.t 23) (.seq (.reg ( fI 4 (.mv (.k (.c (.bool false))))::[]) [4]) .ret) .skip)
def Q6i:List Item:=fI 36 (.bin 1 .neq (.t 32) (.t 35))::mJ 37 36::gFm 38 37 5::gF 39 37 (.not (.t 38))::gFm 40 37 39::gTf 41 40 1 2::gTl 42 40 41::gT 43 40 (.bin 0 .neq (.t 42) (.k (.c (.str []))))::gF 44 37 (.pick (.t 40) (.t 43) (.k (.c (.bool false))))::fI 45 (.pick (.t 37) (.k (.c (.bool true))) (.t 44))::[]
def Qa1q:SC:=(.cond (.t 45) (.seq (.reg ( fI 4 (.mv (.k (.c (.bool false))))::[]) [4]) .ret) .skip)
def Q6j:List Item:=oJ 59 58::[]
def Qa1r:SC:=(.cond (.t 59) (.seq (.reg ( fI 4 (.mv (.k (.c (.bool false))))::[]) [4]) .ret) .skip)
def Qa1s:SC:=(.reg ( mJ 51 6::cJ 52 .add 51 1::mJ 6 52::[]) [1,2,6])
def Qa1t:SC:=(.seq (.block 1 (.seq (.reg ( fJ 53 2 2::lJ 54 53::mJ 55 6::iJ 56 4 54 55::tJ 57 4 56::aJ 58 Qfg [.t 57]::Q6j) [1,2,6,59]) Qa1r)) Qa1s)
def Qavk:SC:=(.seq (.seq (.reg ( mJ 46 6::fJ 47 2 2::lJ 48 47::nJ 49 48::bJ 50 .lss 46 49::[]) [1,2,6,50]) (.cond (.t 50) .skip (.exit 0))) Qa1t)
def Qavc:SC:=(.cond (.t 70) (.seq (.reg ( fI 4 (.mv (.k (.c (.bool false))))::[]) [4]) .ret) .skip)
def Qavd:SC:=(.cond (.t 95) (.seq (.reg ( fI 4 (.mv (.k (.c (.bool false))))::[]) [4]) .ret) .skip)
def Qms:List Item:=fI 107 (.pick (.t 101) (.t 106) (.k (.c (.bool false))))::mJ 4 107::[]
def Qy6:List Item:=mJ 101 100::gTf 102 101 4 2::gTl 103 101 102::gTm 104 101 1::gT 105 101 (.bin 0 .sub (.t 104) (kI 1))::.e (some 106) (some (101,true)) (.call Qhh [.t 103,.t 105])::Qms
def Qave:SC:=(.seq (.reg ( fJ 96 3 2::lJ 97 96::mJ 98 1::cJ 99 .sub 98 1::aJ 100 Qhh [.t 97,.t 99]::Qy6) [4]) .ret)
def Qavf:SC:=(.seq (.seq (.reg ( fJ 71 4 2::lJ 72 71::nJ 73 72::cJ 74 .gtr 73 0::mJ 75 74::gTf 76 75 0 2::gTl 77 75 76::gT 78 75 (.bin 0 .neq (.t 77) (kI 5))::fI 79 (.pick (.t 75) (.t 78) (.k (.c (.bool false))))::mJ 80 79::gFf 81 80 3 2::gFl 82 80 81::gF 83 80 (.len (.t 82))::gF 84 80 (.bin 0 .gtr (.t 83) (kI 0))::gFm 85 80 84::gTf 86 85 0 2::gTl 87 85 86::gT 88 85 (.bin 0 .neq (.t 87) (kI 5))::gF 89 80 (.pick (.t 85) (.t 88) (.k (.c (.bool false))))::gFm 90 80 89::gTf 91 90 0 2::gTl 92 90 91::gT 93 90 (.bin 0 .neq (.t 92) (kI 6))::gF 94 80 (.pick (.t 90) (.t 93) (.k (.c (.bool false))))::fI 95 (.pick (.t 80) (.k (.c (.bool true))) (.t 94))::[]) [1,2,95]) Qavd) Qave)
def Qavg:SC:=(.seq (.seq (.reg ( fJ 60 0 2::lJ 61 60::cJ 62 .eql 61 8::mJ 63 62::gTf 64 63 2 2::gTl 65 63 64::gT 66 63 (.iad 4 (.t 65) (kI 0))::gTf 67 63 0 66::gTl 68 63 67::gT 69 63 (.bin 0 .neq (.t 68) (kI 13))::fI 70 (.pick (.t 63) (.t 69) (.k (.c (.bool false))))::[]) [1,2,70]) Qavc) Qavf)
def Qavh:SC:=(.seq (.seq (.reg ( fI 6 (.mv (kI 0))::[]) [1,2,6]) (.block 0 (.loop Qavk))) Qavg)
def Qavi:SC:=(.seq (.seq (.reg ( mJ 32 5::fJ 33 1 2::lJ 34 33::aJ 35 Qc3 [.t 34]::Q6i) [1,2,45]) Qa1q) Qavh)
def Q6h:SC:=(.seq (.reg ( fJ 24 0 2::lJ 25 24::cJ 26 .eql 25 1::mJ 27 26::gFf 28 27 0 2::gFl 29 27 28::gF 30 27 (.bin 0 .eql (.t 29) (kI 2))::fI 31 (.pick (.t 27) (.k (.c (.bool true))) (.t 30))::mJ 5 31::[]) [1,2,5]) Qavi)
def Qavj:SC:=(.seq (.seq (.dreg 17 [0,1,2,3,4,5,6,7,8,9,10,11,12,13,14,10,11,15,16] ( mJ 7 1::cJ 8 .lss 7 1::mJ 9 8::gFf 10 9 0 2::gFl 11 9 10::.e (some 12) (some (9,false)) (.call Qbd [.t 11,kI 1,kI 8])::Qq4) [1,2,23]) s_l3Stmt_2) Q6h)
def Qbam:SC:=(.seq (.reg ( fI 2 (.box (.t 0))::fI 4 (.mv (.k (.c (.bool false))))::[]) [1,2]) Qavj)
def Q19:List RS:=[.tmp 4]
theorem Qa9n:mFn prog Q2y 2 108 Qbam Q19=true:=by kernel_rfl
def Qpj:List Item:=mJ 5 16::[]
def Qpk:List Item:=mJ 6 21::[]
def Qpl:List Item:=fI 20 (.bsl 1 [])::aJ 21 Qar [.t 17,kI 1,.t 19,kI 0,.t 20]::Qpk
def Qpm:List Item:=mJ 7 23::[]
def Qpn:List Item:=mJ 8 25::[]
def Qpo:List Item:=mJ 9 38::[]
def Qpp:List Item:=mJ 10 44::[]
def Qpq:List Item:=mJ 42 9::fI 43 (.bsl 1 [.t 42])::aJ 44 Qar [.t 39,kI 10,.t 41,kI 0,.t 43]::Qpp
def Qaht:SC:=(.seq (.reg ( mJ 55 6::mJ 4 55::[]) [4]) .ret)
def Qahu:SC:=(.seq (.reg ( mJ 50 0::mJ 51 8::fI 52 (.bsl 1 [.t 51])::mJ 53 8::aJ 54 Qax [.t 50,kI 1,kI 0,.t 52,.t 53]::[]) [6]) Qaht)
def Qabt:SC:=(.seq (.reg ( mJ 45 0::mJ 46 6::mJ 47 10::fI 48 (.bsl 1 [.t 47])::aJ 49 Qar [.t 45,kI 10,.t 46,kI 0,.t 48]::[]) [0,6,8]) Qahu)
def Qabu:SC:=(.seq (.reg ( mJ 39 0::mJ 40 0::aJ 41 Qa0 [.t 40]::Qpq) [0,6,8,10]) Qabt)
def Qabv:SC:=(.seq (.reg ( mJ 33 0::fJ 34 3 3::lJ 35 34::fI 36 (.iad 4 (.t 35) (kI 1))::tJ 37 4 36::aJ 38 Qb1 [.t 33,.t 37]::Qpo) [0,6,8,9]) Qabu)
def Qabw:SC:=(.seq (.reg ( mJ 26 0::mJ 27 5::mJ 28 7::mJ 29 8::fI 30 (.bsl 1 [.t 28,.t 29])::mJ 31 7::aJ 32 Qax [.t 26,kI 2,.t 27,.t 30,.t 31]::[]) [0,3,6,8]) Qabv)
def Qabx:SC:=(.seq (.reg ( mJ 24 0::aJ 25 Qan [.t 24]::Qpn) [0,3,5,6,7,8]) Qabw)
def Qaby:SC:=(.seq (.reg ( mJ 22 0::aJ 23 Qan [.t 22]::Qpm) [0,3,5,6,7]) Qabx)
def Qabz:SC:=(.seq (.reg ( mJ 17 0::mJ 18 0::aJ 19 Qa0 [.t 18]::Qpl) [0,3,5,6]) Qaby)
def Qab0:SC:=(.seq (.reg ( mJ 11 0::fJ 12 3 3::lJ 13 12::fI 14 (.iad 4 (.t 13) (kI 0))::tJ 15 4 14::aJ 16 Qb1 [.t 11,.t 15]::Qpj) [0,3,5]) Qabz)
def Qaxs:SC:=(.seq (.reg ( fI 3 (.box (.t 1))::fI 4 (.mv (kI 0))::[]) [0,3]) Qab0)
def Q38:List RS:=[.tmp 4]
theorem Qarp:mFn prog Qlb 2 56 Qaxs Q38=true:=by kernel_rfl
def Qaxx:SC:=(.cond (.t 20) (.seq (.reg ( mJ 21 5::mJ 4 21::[]) [4]) .ret) .skip)
def Qaxy:SC:=(.reg ( mJ 11 5::cJ 12 .add 11 1::mJ 5 12::[]) [1,2,5])
def Qaxz:SC:=(.seq (.block 1 (.seq (.reg ( fJ 13 0 2::lJ 14 13::mJ 15 5::iJ 16 3 14 15::fJ 17 0 16::lJ 18 17::mJ 19 1::bJ 20 .eql 18 19::[]) [1,2,5,20]) Qaxx)) Qaxy)
def Qaqe:SC:=(.seq (.seq (.reg ( mJ 6 5::fJ 7 0 2::lJ 8 7::nJ 9 8::bJ 10 .lss 6 9::[]) [1,2,5,10]) (.cond (.t 10) .skip (.exit 0))) Qaxz)
def Qax0:SC:=(.seq (.reg ( fI 4 (.mv (kI (-1)))::[]) [4]) .ret)
def Qax1:SC:=(.seq (.seq (.reg ( fI 5 (.mv (kI 0))::[]) [1,2,5]) (.block 0 (.loop Qaqe))) Qax0)
def Qa7l:SC:=(.seq (.reg ( fI 2 (.box (.t 0))::fI 4 (.mv (kI 0))::[]) [1,2]) Qax1)
def Q4a:List RS:=[.tmp 4]
theorem Qa5f:mFn prog Quz 2 22 Qa7l Q4a=true:=by kernel_rfl
def Qj0:List Item:=cJ 16 .eql 15 0::mJ 17 16::gTm 18 17 0::gT 19 17 (.nck (.t 18))::gTf 20 17 2 19::gTl 21 17 20::gT 22 17 (.len (.t 21))::gT 23 17 (.bin 0 .gtr (.t 22) (kI 0))::fI 24 (.pick (.t 17) (.t 23) (.k (.c (.bool false))))::[]
def Qj1:List Item:=mJ 2 33::[]
def Q5s:SC:=(.cond (.t 24) (.seq (.dreg 10 [0,1,2,3,4,5,6,7,8,9] ( mJ 25 0::kJ 26 25::fJ 27 0 26::lJ 28 27::mJ 29 0::kJ 30 29::fJ 31 2 30::lJ 32 31::aJ 33 Qfe [.t 28,.t 32]::Qj1) [2]) .ret) .skip)
def Q5t:SC:=(.seq (.dreg 13 [0,1,2,3,4,5,6,7,8,9,10,11,12] ( mJ 34 0::kJ 35 34::fJ 36 3 35::lJ 37 36::cJ 38 .rem 37 24::mJ 39 0::kJ 40 39::fJ 41 3 40::lJ 42 41::cJ 43 .rem 42 24::cJ 44 .add 43 1::fI 45 (.slis (.k (.c (.str [97,98,99,100,101,103,104,105,106,107,108,109,110,112,113,114,115,116,117,118,119,120,121,122]))) (some (.t 38)) (some (.t 44)))::mJ 2 45::[]) [2]) .ret)
def Q5u:SC:=(.seq (.seq (.reg ( mJ 11 0::kJ 12 11::fJ 13 0 12::lJ 14 13::aJ 15 Qn [.t 14,kI 9]::Qj0) [0,24]) Q5s) Q5t)
def Q5v:SC:=(.seq (.reg ( mJ 3 0::mJ 4 0::kJ 5 4::fJ 6 3 5::lJ 7 6::cJ 8 .add 7 1::kJ 9 3::fJ 10 3 9::.e none none (.sto 1 (.t 10) (.t 8))::[]) [0]) Q5u)
def Qahk:SC:=(.seq (.reg ( fI 2 (.mv (.k (.c (.str []))))::[]) [0]) Q5v)
def Qi8:List RS:=[.tmp 2]
theorem Qae3:mFn prog Qgx 1 46 Qahk Qi8=true:=by kernel_rfl
def Qyu:List Item:=cJ 20 .geq 19 0::mJ 17 20::[]
def Qat8:SC:=(.cond (.t 21) (.seq (.reg ( fI 2 (.mv (kI 4))::[]) [2]) .ret) .skip)
def Qat9:SC:=(.cond (.t 17) (.seq (.reg ( fI 2 (.mv (kI 3))::[]) [2]) .ret) (.seq (.reg ( mJ 22 0::fI 23 (.bin 0 .eql (.t 22) (.k (.c (.int .u8 32))))::mJ 24 23::gFm 25 24 0::gF 26 24 (.bin 0 .eql (.t 25) (.k (.c (.int .u8 10))))::fI 27 (.pick (.t 24) (.k (.c (.bool true))) (.t 26))::mJ 21 27::[]) [21]) Qat8))
def Qaua:SC:=(.cond (.t 10) (.seq (.reg ( fI 2 (.mv (kI 2))::[]) [2]) .ret) (.seq (.reg ( mJ 18 0::eI 19 (.call Quv [.k (.c (.str [40,41,123,125,59,44,43,45,42,47,37,60,61,38,33,64])),.t 18])::Qyu) [0,17]) Qat9))
def Qaub:SC:=(.cond (.t 3) (.seq (.reg ( fI 2 (.mv (kI 1))::[]) [2]) .ret) (.seq (.reg ( mJ 11 0::fI 12 (.bin 0 .geq (.t 11) (.k (.c (.int .u8 48))))::mJ 13 12::gTm 14 13 0::gT 15 13 (.bin 0 .leq (.t 14) (.k (.c (.int .u8 57))))::fI 16 (.pick (.t 13) (.t 15) (.k (.c (.bool false))))::mJ 10 16::[]) [0,10]) Qaua))
def Qauc:SC:=(.seq (.reg ( fI 2 (.mv (kI 0))::[]) [2]) .ret)
def Qaud:SC:=(.seq (.block 0 (.seq (.reg ( mJ 4 0::fI 5 (.bin 0 .geq (.t 4) (.k (.c (.int .u8 97))))::mJ 6 5::gTm 7 6 0::gT 8 6 (.bin 0 .leq (.t 7) (.k (.c (.int .u8 122))))::fI 9 (.pick (.t 6) (.t 8) (.k (.c (.bool false))))::mJ 3 9::[]) [0,3]) Qaub)) Qauc)
def Qa6o:SC:=(.seq (.reg ( fI 2 (.mv (kI 0))::[]) [0]) Qaud)
def Qhq:List RS:=[.tmp 2]
theorem Qa45:mFn prog Quu 1 28 Qa6o Qhq=true:=by kernel_rfl
def Q85:SC:=(.seq (.reg ( fI 1 (.bsl 1 [.k (.c (.str [102,110])),.k (.c (.str [108,101,116])),.k (.c (.str [115,97,121])),.k (.c (.str [112,117,116])),.k (.c (.str [105,102])),.k (.c (.str [101,108,115,101])),.k (.c (.str [108,111,111,112])),.k (.c (.str [98,97,99,107])),.k (.c (.str [100,111]))])::mJ 0 1::[]) [0]) .ret)
def Qaif:SC:=(.seq (.reg ( fI 0 (.mv (.k (.c (.sl true 1 []))))::[]) []) Q85)
def Qsd:List RS:=[.tmp 0]
theorem Qae9:mFn prog Qgz 0 2 Qaif Qsd=true:=by kernel_rfl
def Qa1j:SC:=(.cond (.t 4) (.seq (.reg ( fI 2 (.mv (kI 2))::[]) [2]) .ret) .skip)
def Qa1k:SC:=(.seq (.reg ( fI 2 (.mv (kI 1))::[]) [2]) .ret)
def Qa1l:SC:=(.seq (.seq (.reg ( mJ 3 0::cJ 4 .eql 3 4::[]) [4]) Qa1j) Qa1k)
def Qbaf:SC:=(.seq (.reg ( fI 2 (.mv (kI 0))::[]) [0]) Qa1l)
def Qaff:List RS:=[.tmp 2]
theorem Qa9l:mFn prog Q2w 1 5 Qbaf Qaff=true:=by kernel_rfl
def Qdu:List Item:=gT 8 5 (.bin 0 .leq (.t 7) (kI 30))::fI 9 (.pick (.t 5) (.t 8) (.k (.c (.bool false))))::mJ 2 9::[]
def Qig:List Item:=mJ 5 4::gT 6 5 (.ld 4 true (.t 1))::.e (some 7) (some (5,true)) (.call Qnr [.t 6])::Qdu
def Q1u:SC:=(.seq (.reg ( tJ 3 4 1::aJ 4 Qrl [.t 3,kI 6]::Qig) [2]) .ret)
def Qacu:SC:=(.seq (.reg ( fI 1 (.box (.t 0))::fI 2 (.mv (.k (.c (.bool false))))::[]) [1]) Q1u)
def Qg6:List RS:=[.tmp 2]
theorem Q9w:mFn prog Qfg 1 10 Qacu Qg6=true:=by kernel_rfl
def Qaur:SC:=(.cond (.t 16) (.seq (.reg ( mJ 17 5::mJ 4 17::[]) [4]) .ret) .skip)
def Qaus:SC:=(.reg ( mJ 10 5::cJ 11 .add 10 1::mJ 5 11::[]) [0,1,5])
def Qaut:SC:=(.seq (.block 1 (.seq (.reg ( mJ 12 0::mJ 13 5::fI 14 (.idx (.t 12) (.t 13))::mJ 15 1::bJ 16 .eql 14 15::[]) [0,1,5,16]) Qaur)) Qaus)
def Qaop:SC:=(.seq (.seq (.reg ( mJ 6 5::mJ 7 0::fI 8 (.lens (.t 7))::bJ 9 .lss 6 8::[]) [0,1,5,9]) (.cond (.t 9) .skip (.exit 0))) Qaut)
def Qauu:SC:=(.seq (.reg ( fI 4 (.mv (kI (-1)))::[]) [4]) .ret)
def Qauv:SC:=(.seq (.seq (.reg ( fI 5 (.mv (kI 0))::[]) [0,1,5]) (.block 0 (.loop Qaop))) Qauu)
def Qa6w:SC:=(.seq (.reg ( fI 4 (.mv (kI 0))::[]) [0,1]) Qauv)
def Q30:List RS:=[.tmp 4]
theorem Qa47:mFn prog Quv 2 18 Qa6w Q30=true:=by kernel_rfl
def Q47:List Item:=mJ 9 12::fI 13 (.ext (.t 9) 0)::fI 14 (.ext (.t 9) 1)::mJ 5 13::mJ 6 14::[]
def Qjd:List Item:=gF 30 23 (.not (.t 29))::fI 31 (.pick (.t 23) (.k (.c (.bool true))) (.t 30))::[]
def Qq1:List Item:=gF 21 17 (.not (.t 20))::fI 22 (.pick (.t 17) (.k (.c (.bool true))) (.t 21))::mJ 23 22::gFf 24 23 3 2::gFl 25 23 24::gF 26 23 (.len (.t 25))::gFm 27 23 5::gFm 28 23 6::.e (some 29) (some (23,false)) (.call Qbd [.t 26,.t 27,.t 28])::Qjd
def s_l2Form_3:SC:=(.cond (.t 31) (.seq (.reg ( fI 4 (.mv (.k (.c (.bool false))))::[]) [4]) .ret) .skip)
def Qq2:List Item:=gF 58 54 (.not (.t 57))::fI 59 (.pick (.t 54) (.k (.c (.bool true))) (.t 58))::mJ 60 59::gFf 61 60 0 2::gFl 62 60 61::gF 63 60 (.bin 0 .neq (.t 62) (kI 1))::gFm 64 60 63::gTf 65 64 1 2::gTl 66 64 65::gT 67 64 (.bin 0 .neq (.t 66) (kI 0))::gF 68 60 (.pick (.t 64) (.t 67) (.k (.c (.bool false))))::fI 69 (.pick (.t 60) (.k (.c (.bool true))) (.t 68))::[]
def Q48:List Item:=fI 44 (.bin 1 .neq (.t 40) (.t 43))::mJ 45 44::gFm 46 45 7::gF 47 45 (.not (.t 46))::gFm 48 45 47::gTf 49 48 2 2::gTl 50 48 49::gT 51 48 (.bin 0 .neq (.t 50) (.k (.c (.str []))))::gF 52 45 (.pick (.t 48) (.t 51) (.k (.c (.bool false))))::fI 53 (.pick (.t 45) (.k (.c (.bool true))) (.t 52))::mJ 54 53::gFf 55 54 1 2::gFl 56 54 55::.e (some 57) (some (54,false)) (.call Qbd [.t 56,kI 0,kI 255])::Qq2
def s_l2Form_6:SC:=(.cond (.t 69) (.seq (.reg ( fI 4 (.mv (.k (.c (.bool false))))::[]) [4]) .ret) .skip)
def Q49:List Item:=oJ 85 84::[]
def Qa09:SC:=(.cond (.t 85) (.seq (.reg ( fI 4 (.mv (.k (.c (.bool false))))::[]) [4]) .ret) .skip)
def Qa1a:SC:=(.reg ( mJ 75 8::cJ 76 .add 75 1::mJ 8 76::[]) [1,2,8])
def Qauh:SC:=(.seq (.block 1 (.seq (.reg ( fJ 77 3 2::lJ 78 77::mJ 79 8::iJ 80 4 78 79::tJ 81 4 80::mJ 82 1::cJ 83 .sub 82 1::aJ 84 Qrl [.t 81,.t 83]::Q49) [1,2,8,85]) Qa09)) Qa1a)
def Qaon:SC:=(.seq (.seq (.reg ( mJ 70 8::fJ 71 3 2::lJ 72 71::nJ 73 72::bJ 74 .lss 70 73::[]) [1,2,8,74]) (.cond (.t 74) .skip (.exit 0))) Qauh)
def Qaui:SC:=(.seq (.reg ( fI 4 (.mv (.k (.c (.bool true))))::[]) [4]) .ret)
def Q45:SC:=(.seq (.seq (.reg ( fI 8 (.mv (kI 0))::[]) [1,2,8]) (.block 0 (.loop Qaon))) Qaui)
def Qauj:SC:=(.seq (.seq (.reg ( mJ 40 7::fJ 41 2 2::lJ 42 41::aJ 43 Qc3 [.t 42]::Q48) [1,2,69]) s_l2Form_6) Q45)
def Q46:SC:=(.seq (.reg ( fJ 32 0 2::lJ 33 32::cJ 34 .eql 33 2::mJ 35 34::gFf 36 35 0 2::gFl 37 35 36::gF 38 35 (.bin 0 .eql (.t 37) (kI 13))::fI 39 (.pick (.t 35) (.k (.c (.bool true))) (.t 38))::mJ 7 39::[]) [1,2,7]) Qauj)
def Qauk:SC:=(.seq (.seq (.reg ( mJ 15 1::cJ 16 .lss 15 1::mJ 17 16::gFf 18 17 0 2::gFl 19 17 18::.e (some 20) (some (17,false)) (.call Qbd [.t 19,kI 1,kI 13])::Qq1) [1,2,31]) s_l2Form_3) Q46)
def Qaul:SC:=(.seq (.reg ( fJ 10 0 2::lJ 11 10::aJ 12 Q2u [.t 11]::Q47) [1,2,5,6]) Qauk)
def Qbac:SC:=(.seq (.reg ( fI 2 (.box (.t 0))::fI 4 (.mv (.k (.c (.bool false))))::[]) [1,2]) Qaul)
def Qr5:List RS:=[.tmp 4]
theorem Qa9i:mFn prog Qrl 2 86 Qbac Qr5=true:=by kernel_rfl
def Qyv:List Item:=bJ 19 .add 12 18::mJ 3 19::[]
def Qaum:SC:=(.reg ( mJ 10 4::cJ 11 .add 10 1::mJ 4 11::[]) [1,3,4])
def Qaun:SC:=(.seq (.block 1 (.reg ( mJ 12 3::fJ 13 3 1::lJ 14 13::mJ 15 4::iJ 16 4 14 15::tJ 17 4 16::aJ 18 Qnr [.t 17]::Qyv) [1,3,4])) Qaum)
def Qaoo:SC:=(.seq (.seq (.reg ( mJ 5 4::fJ 6 3 1::lJ 7 6::nJ 8 7::bJ 9 .lss 5 8::[]) [1,3,4,9]) (.cond (.t 9) .skip (.exit 0))) Qaun)
def Qauo:SC:=(.seq (.reg ( mJ 20 3::mJ 2 20::[]) [2]) .ret)
def Qaup:SC:=(.seq (.seq (.reg ( fI 4 (.mv (kI 0))::[]) [1,3,4]) (.block 0 (.loop Qaoo))) Qauo)
def Qauq:SC:=(.seq (.reg ( fI 3 (.mv (kI 1))::[]) [1,3]) Qaup)
def Qa6v:SC:=(.seq (.reg ( fI 1 (.box (.t 0))::fI 2 (.mv (kI 0))::[]) [1]) Qauq)
def Qaj7:List RS:=[.tmp 2]
theorem Qa46:mFn prog Qnr 1 21 Qa6v Qaj7=true:=by kernel_rfl
def Qa1b:SC:=(.cond (.t 5) .skip (.reg ( cJ 7 .eql 4 2::mJ 5 7::[]) [4,5]))
def Qa1c:SC:=(.cond (.t 8) .skip (.reg ( cJ 10 .eql 4 12::mJ 8 10::[]) [4,8]))
def Qa1d:SC:=(.cond (.t 11) (.seq (.reg ( fI 2 (.mv (kI 0))::fI 3 (.mv (kI 3))::[]) [2,3]) .ret) .skip)
def Qadt:SC:=(.cond (.t 8) (.seq (.reg ( fI 2 (.mv (kI 1))::fI 3 (.mv (kI 1))::[]) [2,3]) .ret) (.seq (.reg ( cJ 12 .eql 4 13::mJ 11 12::[]) [11]) Qa1d))
def Qadu:SC:=(.cond (.t 5) (.seq (.reg ( fI 2 (.mv (kI 0))::fI 3 (.mv (kI 0))::[]) [2,3]) .ret) (.seq (.seq (.reg ( cJ 9 .eql 4 11::mJ 8 9::[]) [4,8]) Qa1c) Qadt))
def Qa1e:SC:=(.block 0 (.seq (.seq (.reg ( cJ 6 .eql 4 1::mJ 5 6::[]) [4,5]) Qa1b) Qadu))
def Qvx:SC:=(.seq (.reg ( fI 2 (.mv (kI 2))::fI 3 (.mv (kI 2))::[]) [2,3]) .ret)
def Qa1f:SC:=(.seq (.seq (.reg ( mJ 4 0::[]) [4]) Qa1e) Qvx)
def Qbad:SC:=(.seq (.reg ( fI 2 (.mv (kI 0))::fI 3 (.mv (kI 0))::[]) [0]) Qa1f)
def Qr6:List RS:=[.tmp 2,.tmp 3]
theorem Qa9j:mFn prog Q2u 1 13 Qbad Qr6=true:=by kernel_rfl
end Go.AE.Y

namespace Go.AE.Y
open Go.Proofs.Tryz
def Qah6:SC:=(.cond (.t 22) (.seq (.reg ( fI 4 (.mv (.k (.c (.bool false))))::[]) [4]) .ret) .skip)
def Qah7:SC:=(.seq (.dreg 9 [0,1,2,3,4,5,6,7,8] ( mJ 14 0::mJ 15 5::iJ 16 1 14 15::lJ 17 16::mJ 18 1::mJ 19 5::iJ 20 1 18 19::lJ 21 20::bJ 22 .neq 17 21::[]) [0,1,10,11,22]) Qah6)
def Qah8:SC:=(.reg ( cJ 23 .add 11 1::mJ 11 23::[]) [0,1,10,11])
def Qah9:SC:=(.seq (.block 1 (.seq (.reg ( mJ 13 11::mJ 5 13::[]) [0,1,5,10,11]) Qah7)) Qah8)
def Qacm:SC:=(.seq (.reg ( bJ 12 .lss 11 10::[]) [0,1,10,11,12]) (.seq (.cond (.t 12) .skip (.exit 0)) Qah9))
def Qaia:SC:=(.seq (.reg ( mJ 24 0::nJ 25 24::mJ 26 1::nJ 27 26::bJ 28 .eql 25 27::mJ 4 28::[]) [4]) .ret)
def Qaib:SC:=(.seq (.seq (.reg ( mJ 6 0::nJ 7 6::mJ 8 1::nJ 9 8::fI 10 (.mn (.t 7) (.t 9))::fI 11 (.mv (kI 0))::[]) [0,1,10,11]) (.block 0 (.loop Qacm))) Qaia)
def Qaxw:SC:=(.seq (.reg ( fI 4 (.mv (.k (.c (.bool false))))::[]) [0,1]) Qaib)
def Qp9:List RS:=[.tmp 4]
theorem Qars:mFn prog Qld 2 29 Qaxw Qp9=true:=by kernel_rfl
def Qkt:List Item:=cJ 8 .geq 7 0::mJ 4 8::[]
def Q83:SC:=(.seq (.reg ( mJ 5 0::mJ 6 1::aJ 7 Qp3 [.t 5,.t 6]::Qkt) [4]) .ret)
def Qaic:SC:=(.seq (.reg ( fI 4 (.mv (.k (.c (.bool false))))::[]) [0,1]) Q83)
def Qsb:List RS:=[.tmp 4]
theorem Qae8:mFn prog Qgy 2 9 Qaic Qsb=true:=by kernel_rfl
def Qa5y:SC:=(.cond (.t 17) (.seq (.reg ( mJ 18 5::mJ 4 18::[]) [4]) .ret) .skip)
def Qa5z:SC:=(.reg ( mJ 10 5::cJ 11 .add 10 1::mJ 5 11::[]) [0,1,5])
def Qa50:SC:=(.seq (.block 1 (.seq (.reg ( mJ 12 0::mJ 13 5::iJ 14 1 12 13::lJ 15 14::mJ 16 1::bJ 17 .eql 15 16::[]) [0,1,5,17]) Qa5y)) Qa5z)
def Qa0z:SC:=(.seq (.seq (.reg ( mJ 6 5::mJ 7 0::nJ 8 7::bJ 9 .lss 6 8::[]) [0,1,5,9]) (.cond (.t 9) .skip (.exit 0))) Qa50)
def Qa51:SC:=(.seq (.reg ( fI 4 (.mv (kI (-1)))::[]) [4]) .ret)
def Qa52:SC:=(.seq (.seq (.reg ( fI 5 (.mv (kI 0))::[]) [0,1,5]) (.block 0 (.loop Qa0z))) Qa51)
def Qbdn:SC:=(.seq (.reg ( fI 4 (.mv (kI 0))::[]) [0,1]) Qa52)
def Qar4:List RS:=[.tmp 4]
theorem Qbc8:mFn prog Qnl 2 19 Qbdn Qar4=true:=by kernel_rfl
def Qxw:List Item:=mJ 5 15::[]
def Qxx:List Item:=mJ 7 26::[]
def Qas2:SC:=(.reg ( mJ 36 7::mJ 37 6::iJ 38 1 36 37::.e none none (.sto 1 (.t 38) (.k (.c (.bool false))))::[]) [1,3,4,5,6,7])
def Qas3:SC:=(.cond (.t 31) (.seq (.reg ( tJ 32 3 1::mJ 33 7::fI 34 (.bsl 1 [])::aJ 35 Qdo [.t 32,kI 0,.t 33,.t 34]::[]) [1,3,4,5,6,7]) Qas2) (.reg ( mJ 39 7::mJ 40 6::iJ 41 1 39 40::.e none none (.sto 1 (.t 41) (.k (.c (.bool false))))::[]) [1,3,4,5,6,7]))
def Qxy:List Item:=mJ 8 43::[]
def Qas4:SC:=(.reg ( mJ 47 9::cJ 48 .add 47 1::mJ 9 48::[]) [1,3,4,5,6,7,8,9])
def Qas5:SC:=(.seq (.block 3 (.reg ( mJ 49 8::mJ 50 9::mJ 51 5::mJ 52 6::iJ 53 1 51 52::lJ 54 53::mJ 55 54::gTm 56 55 5::gTm 57 55 9::gT 58 55 (.iad 1 (.t 56) (.t 57))::gTl 59 55 58::fI 60 (.pick (.t 55) (.t 59) (.k (.c (.bool false))))::mJ 61 60::gTm 62 61 7::gTm 63 61 9::gT 64 61 (.iad 1 (.t 62) (.t 63))::gTl 65 61 64::gT 66 61 (.not (.t 65))::fI 67 (.pick (.t 61) (.t 66) (.k (.c (.bool false))))::iJ 68 1 49 50::.e none none (.sto 1 (.t 68) (.t 67))::[]) [1,3,4,5,6,7,8,9])) Qas4)
def Qamp:SC:=(.seq (.seq (.reg ( mJ 44 9::mJ 45 3::bJ 46 .lss 44 45::[]) [1,3,4,5,6,7,8,9,46]) (.cond (.t 46) .skip (.exit 2))) Qas5)
def Qxz:List Item:=mJ 4 72::[]
def Qas6:SC:=(.reg ( mJ 69 4::mJ 70 8::fI 71 (.bsl 1 [.t 70])::eI 72 (.app 1 (.t 69) (.t 71))::Qxz) [1,3,4,5,6])
def Qame:SC:=(.seq (.seq (.reg ( fI 9 (.mv (kI 0))::[]) [1,3,4,5,6,7,8,9]) (.block 2 (.loop Qamp))) Qas6)
def Qxv:SC:=(.seq (.reg ( mJ 42 3::eI 43 (.mks 1 [.bool false] (.t 42))::Qxy) [1,3,4,5,6,7,8]) Qame)
def Qamf:SC:=(.seq (.seq (.reg ( mJ 30 6::cJ 31 .neq 30 0::[]) [1,3,4,5,6,7,31]) Qas3) Qxv)
def Qamg:SC:=(.seq (.reg ( mJ 27 7::mJ 28 6::iJ 29 1 27 28::.e none none (.sto 1 (.t 29) (.k (.c (.bool true))))::[]) [1,3,4,5,6,7]) Qamf)
def Qamh:SC:=(.reg ( mJ 23 6::cJ 24 .add 23 1::mJ 6 24::[]) [1,3,4,5,6])
def Qami:SC:=(.seq (.block 1 (.seq (.reg ( mJ 25 3::eI 26 (.mks 1 [.bool false] (.t 25))::Qxx) [1,3,4,5,6,7]) Qamg)) Qamh)
def Qage:SC:=(.seq (.seq (.reg ( mJ 20 6::mJ 21 3::bJ 22 .lss 20 21::[]) [1,3,4,5,6,22]) (.cond (.t 22) .skip (.exit 0))) Qami)
def Qamj:SC:=(.seq (.reg ( mJ 73 4::mJ 2 73::[]) [2]) .ret)
def Qamk:SC:=(.seq (.seq (.reg ( fI 6 (.mv (kI 0))::[]) [1,3,4,5,6]) (.block 0 (.loop Qage))) Qamj)
def Qaml:SC:=(.seq (.reg ( tJ 16 3 1::mJ 17 5::fI 18 (.bsl 1 [])::aJ 19 Qdo [.t 16,kI 0,.t 17,.t 18]::[]) [1,3,4,5]) Qamk)
def Qamm:SC:=(.seq (.reg ( mJ 14 3::eI 15 (.mks 1 [.bool false] (.t 14))::Qxw) [1,3,4,5]) Qaml)
def Qamn:SC:=(.seq (.reg ( fI 13 (.bsl 1 [])::mJ 4 13::[]) [1,3,4]) Qamm)
def Qamo:SC:=(.seq (.reg ( fJ 10 2 1::lJ 11 10::nJ 12 11::mJ 3 12::[]) [1,3]) Qamn)
def Qa6a:SC:=(.seq (.reg ( fI 1 (.box (.t 0))::fI 2 (.mv (.k (.c (.sl true 1 []))))::[]) [1]) Qamo)
def Qaj1:List RS:=[.tmp 2]
theorem Qa4w:mFn prog Qnp 1 74 Qa6a Qaj1=true:=by kernel_rfl
def Qauw:SC:=(.cond (.t 5) (.reg ( mJ 6 0::fI 7 (.sli 1 (.t 6) none (some (kI 2000)))::mJ 0 7::[]) [0]) .skip)
def Qyw:List Item:=mJ 2 10::[]
def Q5c:SC:=(.seq (.reg ( mJ 8 0::fI 9 (.bld [.sl true 1 [],.int .i64 0] [(0,1,.t 8)])::eI 10 (.boxm (.t 9))::Qyw) [2]) .ret)
def Qaux:SC:=(.seq (.seq (.reg ( mJ 3 0::nJ 4 3::cJ 5 .gtr 4 2000::[]) [0,5]) Qauw) Q5c)
def Qa6x:SC:=(.seq (.reg ( fI 2 (.mv (.k (.c .pnil)))::[]) [0]) Qaux)
def Q31:List RS:=[.tmp 2]
theorem Qa48:mFn prog Quw 1 11 Qa6x Q31=true:=by kernel_rfl
def Qap8:SC:=(.cond (.t 16) (.seq (.reg ( mJ 17 5::mJ 4 17::[]) [4]) .ret) .skip)
def Qap9:SC:=(.seq (.reg ( mJ 11 1::mJ 12 0::mJ 13 5::iJ 14 1 12 13::lJ 15 14::bJ 16 .eql 11 15::[]) [0,1,5,7,8,16]) Qap8)
def Qaqa:SC:=(.reg ( cJ 18 .add 8 1::mJ 8 18::[]) [0,1,7,8])
def Qaqb:SC:=(.seq (.block 1 (.seq (.reg ( mJ 10 8::mJ 5 10::[]) [0,1,5,7,8]) Qap9)) Qaqa)
def Qaid:SC:=(.seq (.reg ( bJ 9 .lss 8 7::[]) [0,1,7,8,9]) (.seq (.cond (.t 9) .skip (.exit 0)) Qaqb))
def Qaqc:SC:=(.seq (.reg ( fI 4 (.mv (kI (-1)))::[]) [4]) .ret)
def Qaqd:SC:=(.seq (.seq (.reg ( mJ 6 0::nJ 7 6::fI 8 (.mv (kI 0))::[]) [0,1,7,8]) (.block 0 (.loop Qaid))) Qaqc)
def Qa2x:SC:=(.seq (.reg ( fI 4 (.mv (kI 0))::[]) [0,1]) Qaqd)
def Qva:List RS:=[.tmp 4]
theorem Qa0l:mFn prog Qp3 2 19 Qa2x Qva=true:=by kernel_rfl
def Qlr:List Item:=oJ 14 13::[]
def Q90:SC:=(.cond (.t 14) (.seq (.reg ( fI 4 (.mv (.k (.c (.sl true 1 []))))::[]) [4]) .ret) .skip)
def Qls:List Item:=mJ 6 20::.e none none (.sto 5 (.t 7) (.t 22))::[]
def Qlt:List Item:=mJ 5 30::[]
def Q91:SC:=(.cond (.t 26) (.reg ( mJ 27 5::mJ 28 6::fI 29 (.bsl 1 [.t 28])::eI 30 (.app 1 (.t 27) (.t 29))::Qlt) [1,5,16,17,18]) .skip)
def Q92:SC:=(.seq (.reg ( fJ 23 4 7::lJ 24 23::mJ 25 1::aJ 26 Qgy [.t 24,.t 25]::[]) [1,5,6,16,17,18,26]) Q91)
def Q93:SC:=(.reg ( cJ 31 .add 18 1::mJ 18 31::[]) [1,5,16,17,18])
def Q94:SC:=(.seq (.block 1 (.seq (.reg ( mJ 20 18::iJ 21 5 16 18::tJ 22 5 21::eI 7 (.alloc [.sl true 2 [],.sl true 4 [],.int .i64 0,.int .i64 0,.sl true 1 []])::Qls) [1,5,6,7,16,17,18]) Q92)) Q93)
def Q4h:SC:=(.seq (.reg ( bJ 19 .lss 18 17::[]) [1,5,16,17,18,19]) (.seq (.cond (.t 19) .skip (.exit 0)) Q94))
def Q95:SC:=(.seq (.reg ( mJ 32 5::mJ 4 32::[]) [4]) .ret)
def Q4e:SC:=(.seq (.seq (.reg ( fJ 15 2 2::lJ 16 15::nJ 17 16::fI 18 (.mv (kI 0))::[]) [1,5,16,17,18]) (.block 0 (.loop Q4h))) Q95)
def Q4f:SC:=(.seq (.seq (.reg ( mJ 8 1::fJ 9 2 2::lJ 10 9::nJ 11 10::cJ 12 .sub 11 1::aJ 13 Qav [.t 8,kI 0,.t 12]::Qlr) [1,2,5,14]) Q90) Q4e)
def Q4g:SC:=(.seq (.reg ( fI 5 (.mv (.k (.c (.sl true 1 []))))::[]) [1,2,5]) Q4f)
def Qakf:SC:=(.seq (.reg ( fI 2 (.box (.t 0))::fI 4 (.mv (.k (.c (.sl true 1 []))))::[]) [1,2]) Q4g)
def Qll:List RS:=[.tmp 4]
theorem Qaje:mFn prog Qiv 2 33 Qakf Qll=true:=by kernel_rfl
def Qeo:List Item:=cJ 8 .geq 7 0::mJ 4 8::[]
def Qq7:SC:=(.seq (.reg ( mJ 5 0::mJ 6 1::aJ 7 Qff [.t 5,.t 6]::Qeo) [4]) .ret)
def Qv9:SC:=(.seq (.reg ( fI 4 (.mv (.k (.c (.bool false))))::[]) [0,1]) Qq7)
def Qht:List RS:=[.tmp 4]
theorem Qu3:mFn prog Qbr 2 9 Qv9 Qht=true:=by kernel_rfl
def Qxi:List Item:=oJ 37 36::[]
def Qasm:SC:=(.cond (.t 37) (.seq (.reg ( fI 2 (.mv (.k (.c (.bool false))))::[]) [2]) .ret) .skip)
def Qasn:SC:=(.reg ( mJ 21 4::cJ 22 .add 21 1::mJ 4 22::[]) [1,3,4])
def Qaso:SC:=(.seq (.block 3 (.seq (.dreg 15 [0,1,2,3,4,5,6,7,8,9,10,11,12,13,14] ( fJ 23 2 1::lJ 24 23::mJ 25 3::iJ 26 5 24 25::fJ 27 4 26::lJ 28 27::mJ 29 4::iJ 30 1 28 29::lJ 31 30::fJ 32 2 1::lJ 33 32::nJ 34 33::cJ 35 .sub 34 1::aJ 36 Qbd [.t 31,kI 0,.t 35]::Qxi) [1,3,4,37]) Qasm)) Qasn)
def Qakp:SC:=(.seq (.seq (.reg ( mJ 12 4::fJ 13 2 1::lJ 14 13::mJ 15 3::iJ 16 5 14 15::fJ 17 4 16::lJ 18 17::nJ 19 18::bJ 20 .lss 12 19::[]) [1,3,4,20]) (.cond (.t 20) .skip (.exit 2))) Qaso)
def Qasp:SC:=(.reg ( mJ 10 3::cJ 11 .add 10 1::mJ 3 11::[]) [1,3])
def Qasq:SC:=(.seq (.block 1 (.seq (.reg ( fI 4 (.mv (kI 0))::[]) [1,3,4]) (.block 2 (.loop Qakp)))) Qasp)
def Qakq:SC:=(.seq (.seq (.reg ( mJ 5 3::fJ 6 2 1::lJ 7 6::nJ 8 7::bJ 9 .lss 5 8::[]) [1,3,9]) (.cond (.t 9) .skip (.exit 0))) Qasq)
def Qasr:SC:=(.seq (.reg ( fJ 38 2 1::lJ 39 38::nJ 40 39::cJ 41 .gtr 40 0::mJ 2 41::[]) [2]) .ret)
def Qass:SC:=(.seq (.seq (.reg ( fI 3 (.mv (kI 0))::[]) [1,3]) (.block 0 (.loop Qakq))) Qasr)
def Qa56:SC:=(.seq (.reg ( fI 1 (.box (.t 0))::fI 2 (.mv (.k (.c (.bool false))))::[]) [1]) Qass)
def Q3t:List RS:=[.tmp 2]
theorem Qa4s:mFn prog Qul 1 42 Qa56 Q3t=true:=by kernel_rfl
def Qapk:SC:=(.block 1 (.reg ( mJ 19 5::cJ 20 .add 19 1::mJ 5 20::[]) [0,1,5]))
def Qahs:SC:=(.seq (.seq (.reg ( mJ 7 5::mJ 8 0::nJ 9 8::bJ 10 .lss 7 9::mJ 11 10::gTm 12 11 0::gTm 13 11 5::gT 14 11 (.iad 1 (.t 12) (.t 13))::gTl 15 11 14::gTm 16 11 1::gT 17 11 (.bin 0 .lss (.t 15) (.t 16))::fI 18 (.pick (.t 11) (.t 17) (.k (.c (.bool false))))::[]) [0,1,5,18]) (.cond (.t 18) .skip (.exit 0))) Qapk)
def Qapl:SC:=(.cond (.t 32) (.seq (.reg ( mJ 33 0::mJ 4 33::[]) [4]) .ret) .skip)
def Qtz:List Item:=mJ 6 38::[]
def Qt0:List Item:=mJ 4 46::[]
def Qt1:List Item:=.chk 45 none (.sli 1 (.t 43) (some (.t 44)) none)::eI 46 (.app 1 (.t 42) (.t 45))::Qt0
def Qapm:SC:=(.seq (.dreg 9 [0,1,2,4,5,6,3,6,7,8] ( mJ 39 6::mJ 40 1::fI 41 (.bsl 1 [.t 40])::mJ 43 0::mJ 44 5::fI 45 (.sli 1 (.t 43) (some (.t 44)) none)::eI 42 (.app 1 (.t 39) (.t 41))::Qt1) [4]) .ret)
def Qzp:SC:=(.seq (.reg ( fI 34 (.bsl 1 [])::mJ 35 0::mJ 36 5::fI 37 (.sli 1 (.t 35) none (some (.t 36)))::eI 38 (.app 1 (.t 34) (.t 37))::Qtz) [0,1,5,6]) Qapm)
def Qzq:SC:=(.seq (.seq (.reg ( mJ 21 5::mJ 22 0::nJ 23 22::bJ 24 .lss 21 23::mJ 25 24::gTm 26 25 0::gTm 27 25 5::gT 28 25 (.iad 1 (.t 26) (.t 27))::gTl 29 25 28::gTm 30 25 1::gT 31 25 (.bin 0 .eql (.t 29) (.t 30))::fI 32 (.pick (.t 25) (.t 31) (.k (.c (.bool false))))::[]) [0,1,5,32]) Qapl) Qzp)
def Qapn:SC:=(.seq (.reg ( fI 5 (.mv (kI 0))::[]) [0,1,5]) (.seq (.block 0 (.loop Qahs)) Qzq))
def Qa2b:SC:=(.seq (.reg ( fI 4 (.mv (.k (.c (.sl true 1 []))))::[]) [0,1]) Qapn)
def Qhs:List RS:=[.tmp 4]
theorem Qa0k:mFn prog Qdp 2 47 Qa2b Qhs=true:=by kernel_rfl
def Qs2:List Item:=mJ 3 49::[]
def Qal8:SC:=(.cond (.t 36) (.dreg 14 [0,1,2,3,4,5,6,7,8,9,10,11,12,13] ( tJ 37 3 4::fJ 38 2 4::lJ 39 38::mJ 40 1::iJ 41 5 39 40::fJ 42 4 41::lJ 43 42::mJ 44 9::iJ 45 1 43 44::lJ 46 45::mJ 47 2::mJ 48 3::aJ 49 Qdo [.t 37,.t 46,.t 47,.t 48]::Qs2) [1,2,3,4,9]) .skip)
def Qal9:SC:=(.reg ( mJ 22 9::cJ 23 .add 22 1::mJ 9 23::[]) [1,2,3,4,9])
def Qama:SC:=(.seq (.block 1 (.seq (.reg ( mJ 24 2::fJ 25 2 4::lJ 26 25::mJ 27 1::iJ 28 5 26 27::fJ 29 4 28::lJ 30 29::mJ 31 9::iJ 32 1 30 31::lJ 33 32::iJ 34 1 24 33::lJ 35 34::oJ 36 35::[]) [1,2,3,4,9,36]) Qal8)) Qal9)
def Qagd:SC:=(.seq (.seq (.reg ( mJ 13 9::fJ 14 2 4::lJ 15 14::mJ 16 1::iJ 17 5 15 16::fJ 18 4 17::lJ 19 18::nJ 20 19::bJ 21 .lss 13 20::[]) [1,2,3,4,9,21]) (.cond (.t 21) .skip (.exit 0))) Qama)
def Qs3:List Item:=mJ 8 53::[]
def Qamb:SC:=(.seq (.reg ( mJ 50 3::mJ 51 1::fI 52 (.bsl 1 [.t 51])::eI 53 (.app 1 (.t 50) (.t 52))::Qs3) [8]) .ret)
def Qamc:SC:=(.seq (.seq (.reg ( fI 9 (.mv (kI 0))::[]) [1,2,3,4,9]) (.block 0 (.loop Qagd))) Qamb)
def Qamd:SC:=(.seq (.reg ( mJ 10 2::mJ 11 1::iJ 12 1 10 11::.e none none (.sto 1 (.t 12) (.k (.c (.bool true))))::[]) [1,2,3,4]) Qamc)
def Qa02:SC:=(.seq (.reg ( fI 4 (.box (.t 0))::fI 8 (.mv (.k (.c (.sl true 1 []))))::[]) [1,2,3,4]) Qamd)
def Qadm:List RS:=[.tmp 8]
theorem Qa0f:mFn prog Qdo 4 54 Qa02 Qadm=true:=by kernel_rfl
def Qafw:SC:=(.seq (.reg ( mJ 7 1::mJ 8 0::bJ 9 .leq 7 8::mJ 10 9::gTm 11 10 0::gTm 12 10 2::gT 13 10 (.bin 0 .leq (.t 11) (.t 12))::fI 14 (.pick (.t 10) (.t 13) (.k (.c (.bool false))))::mJ 6 14::[]) [6]) .ret)
def Qase:SC:=(.seq (.reg ( fI 6 (.mv (.k (.c (.bool false))))::[]) [0,1,2]) Qafw)
def Q3r:List RS:=[.tmp 6]
theorem Qari:mFn prog Qav 3 15 Qase Q3r=true:=by kernel_rfl
def Q1o:SC:=(.cond (.t 16) (.seq (.reg ( mJ 17 5::mJ 4 17::[]) [4]) .ret) .skip)
def Q1p:SC:=(.seq (.reg ( mJ 11 1::mJ 12 0::mJ 13 5::iJ 14 1 12 13::lJ 15 14::eI 16 (.callv (.t 11) [.t 15])::[]) [0,1,5,7,8,16]) Q1o)
def Q1q:SC:=(.reg ( cJ 18 .add 8 1::mJ 8 18::[]) [0,1,7,8])
def Q1r:SC:=(.seq (.block 1 (.seq (.reg ( mJ 10 8::mJ 5 10::[]) [0,1,5,7,8]) Q1p)) Q1q)
def Qwa:SC:=(.seq (.reg ( bJ 9 .lss 8 7::[]) [0,1,7,8,9]) (.seq (.cond (.t 9) .skip (.exit 0)) Q1r))
def Q1s:SC:=(.seq (.reg ( fI 4 (.mv (kI (-1)))::[]) [4]) .ret)
def Q1t:SC:=(.seq (.seq (.reg ( mJ 6 0::nJ 7 6::fI 8 (.mv (kI 0))::[]) [0,1,7,8]) (.block 0 (.loop Qwa))) Q1s)
def Qact:SC:=(.seq (.reg ( fI 4 (.mv (kI 0))::[]) [0,1]) Q1t)
def Qg5:List RS:=[.tmp 4]
theorem Q9v:mFn prog Qff 2 19 Qact Qg5=true:=by kernel_rfl
end Go.AE.Y

