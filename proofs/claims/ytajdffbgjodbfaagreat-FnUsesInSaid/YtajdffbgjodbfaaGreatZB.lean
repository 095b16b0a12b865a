/- Part 2 of the proof: the engine, codes, walks and plain laws, each named where it stands. -/
import Derived.Test.YtajdffbgjodbfaaGreatZA
import Derived.Test.YtajdffbgjodbfaaGreatProg
open Nat (reduceEqDiff reduceAdd reduceLeDiff reduceLT)
set_option linter.unusedVariables false
set_option linter.unusedSimpArgs false
set_option maxRecDepth 4000
namespace Go.AE
variable {P:Program}{H:Heap}{g:G}{w:World}{e:Env}{a:Act}
theorem Qex {d:Option Nat}{v:V}{e:Env}{t:Nat}(h:d≠some t):lk t (Q19 d v e)=lk t e:=by
 cases d with
 |none=>rfl
 |some s=>
  simp only[Q19,lk]
  rw[if_neg]
  intro k;subst k;exact h rfl
theorem Qadi {d:Option Nat}{v:V}{e:Env}{t:Nat}(h:d=some t):lk t (Q19 d v e)=v:=by
 subst h;simp[Q19,lk]
theorem Qwe {a:Act}{d:Option Nat}{u:Value}{t:Nat}(h:d≠some t):(a.put d u).tmps.getD t undef=a.tmps.getD t undef:=by
 cases d with
 |none=>rfl
 |some s=>
  have:s≠t:=fun k=>by subst k;exact h rfl
  simp only[Act.put]
  rw[Array.getD_eq_getD_getElem?,Array.getElem?_setIfInBounds_ne this,←Array.getD_eq_getD_getElem?]
theorem Qa6u {a:Act}{d:Option Nat}{u:Value}{t:Nat}(h:d=some t)(ht:t<a.tmps.size):(a.put d u).tmps.getD t undef=u:=by
 subst h
 simp only[Act.put]
 rw[Array.getD_eq_getD_getElem?,Array.getElem?_setIfInBounds_self_of_lt ht];rfl
theorem Qb6 {listed:Array Bool}{i j:Nat}(hi:i<listed.size):dn (listed.setIfInBounds i true) j↔j=i∨dn listed j:=by
 by_cases h:j=i
 ·subst h;simp[dn,hi]
 ·simp only[dn,getD_set_ne false (Ne.symm h),h,false_or]
theorem Q3f {n:Nat}{ops:Array Oper}{o:Oper}{x:Item}(h:Qgm P n ops o x=true):∀t,x.dst=some t→t<n:=by
 intro t ht
 cases x <;> simp only[Qgm,Bool.and_eq_true]at h
 case f d gd op=>obtain⟨h1,h2⟩:=Qcr h.1.1;simp only[Item.dst]at ht;exact h2 t (h1.trans ht)
 case p d gd f xs=>obtain⟨h1,h2⟩:=Qcr h.1.1;simp only[Item.dst]at ht;exact h2 t (h1.trans ht)
 case e d gd op=>obtain⟨h1,h2⟩:=Qcr h.1.1;simp only[Item.dst]at ht;exact h2 t (h1.trans ht)
 case chk=>simp at h
theorem DInv.passE {F:Fix}(hF:FixOk F){listed:Array Bool}{pre r:List Row}{y:Row}(hI:DInv F listed a w pre (y::r) e H g)(hy:y.2.isE=true)(hyn:¬dn listed y.1)(hyf:y.1≠F.fa)
  (hanc:∀j,F.anc y.1 j→dn listed j) {v:V} {u:Value} {w':World} {H':Heap} {g':G}
  (hrest:Qkn F.P (r.map Prod.snd) (Q19 y.2.dst v e) H' F.K) (hst:Stp H g w H' g' w') (hv:RepV w' g' v u) :
  DInv F (listed.setIfInBounds y.1 true) (a.put y.2.dst u) w' (pre++[y]) r (Q19 y.2.dst v e) H' g':=by
 obtain⟨hyc,hyl⟩:=Qajq hy
 obtain⟨o,ho⟩:=hF.row hI.split hyc
 have hlt:y.1<listed.size:=by rw[hI.lsz];exact (Array.getElem?_eq_some_iff.1 ho.op).1
 have hpre:∀z∈pre,z∈F.L:=fun z hz=>by rw[hI.split];simp[hz]
 have hbz:∀z∈pre,Q2i F z y:=fun z hz=>Qbz hI.split hz (by simp)
 refine⟨by rw[hI.split];simp,hrest,hI.stp.trans hst,by rw[(Qbq _ _ _).1];exact hI.size,by rw[(Qbq _ _ _).2];exact hI.defers,by simp[hI.lsz],?_,?_,?_,?_,?_⟩
 ·intro i hi j hj
  rw[Qb6 hlt]at hi⊢
  rcases hi with rfl|hi
  ·exact .inr (hanc j hj)
  ·exact .inr (hI.closed i hi j hj)
 ·intro z hz hzE
  rw[Qb6 hlt]
  rcases List.mem_append.1 hz with k|k
  ·exact .inr (hI.eDone z k hzE)
  ·simp at k;subst k;exact .inl rfl
 ·intro z hz hzc hzd
  have hzy:=hF.pair (Qc1 hI.split hz) hyc hzc
  rw[Qb6 hlt]at hzd
  obtain⟨k1,k2⟩:=hI.postDone z (by simp[hz]) hzc (hzd.resolve_left (Ne.symm hzy.ne))
  exact⟨k1,k2.mono hst fun d hd=>Qwe fun h=>hzy.dst d h hd⟩
 ·intro z hz hzf hzn
  obtain⟨hzc,hze⟩:=Qfz hzf
  rw[Qb6 hlt]at hzn
  have hzn':¬dn listed z.1:=fun h=>hzn (.inr h)
  have k:z∈pre:=by
   rcases List.mem_append.1 hz with k|k
   ·exact k
   ·simp at k;subst k;rw[hyl]at hzf;simp at hzf
  have hp:=hF.pair (hbz z k) hzc hyc
  by_cases hh:z.2.hf=true
  ·right
   rcases hI.pend z k hzf hzn' with h|h
   ·have:=(Qg4 h).1
    rw[hyc]at this;simp at this
   ·obtain⟨o',x,ei,u',p1,p2,p3,p4,p5,p6,p7,p8⟩:=h
    refine⟨o',x,ei,u',p1,p2,p3,p4,p5,p6.hcongr (p5 hh),?_,?_⟩
    ·intro d hd
     rw[Qex fun h=>hp.dst d hd h];exact p7 d hd
    ·intro t ht
     obtain⟨q1,q2⟩:=p8 t ht
     have hyt:y.2.dst≠some t:=fun h=>by
      have:=hp.war t h ht
      exact hzn' (hanc _ this)
     have hb:∀z',Qeb F (listed.setIfInBounds y.1 true) (pre++[y]) z t z'↔Qeb F listed pre z t z':=by
      intro z'
      constructor
      ·rintro⟨b1,b2,b3,b4,b5⟩
       rw[Qb6 hlt]at b3
       refine⟨?_,b2,fun h=>b3 (.inr h),b4,b5⟩
       rcases List.mem_append.1 b1 with b|b
       ·exact b
       ·simp at b;subst b;exact absurd b4 hyt
      ·rintro⟨b1,b2,b3,b4,b5⟩
       refine⟨by simp[b1],b2,?_,b4,b5⟩
       rw[Qb6 hlt]
       rintro (h|h)
       ·exact (hF.pair (hbz z' b1) b2 hyc).ne h
       ·exact b3 h
     simp only[hb,Qex hyt,Qwe hyt]
     exact⟨q1,fun h=>(q2 h).mono hst.le⟩
  ·left
   have:=ho.cover hy z k hzc (by simpa using hh)
   refine this ?_
   cases hx:(F.ms.getD y.1 0).testBit z.1 with
   |false=>rfl
   |true=>exact absurd (hanc _ hx) hzn'
 ·intro t
  by_cases ht:y.2.dst=some t
  ·right;right
   rw[Qadi ht,Qa6u ht (by rw[hI.size];exact Q3f ho.item t ht)]
   exact hv
  ·rw[Qex ht,Qwe ht]
   rcases hI.temps t with ⟨y',k1,k2,k3,k4⟩|⟨y',k1,k2,k3,k4,k5⟩|k
   ·refine .inl ⟨y',by simp[k1],k2,?_,k4⟩
    rw[Qb6 hlt]
    rintro (h|h)
    ·exact (hF.pair (hbz y' k1) k2 hyc).ne h
    ·exact k3 h
   ·rcases List.mem_cons.1 k1 with h|h
    ·subst h;exact absurd k3 hyf
    ·exact .inr (.inl ⟨y',h,k2,k3,(Qb6 hlt).2 (.inr k4),k5⟩)
   ·exact .inr (.inr (k.mono hst.le))
theorem DInv.passFa {F:Fix}(hF:FixOk F){listed:Array Bool}{pre r:List Row}{y:Row}(hI:DInv F listed a w pre (y::r) e H g)(hyc:y.2.isChk=false)(hyn:dn listed y.1) :
  ∃e' H',DInv F listed a w (pre++[y]) r e' H' g:=by
 obtain⟨hyf,hea⟩:=hI.postDone y (by simp) hyc hyn
 obtain⟨d,cells,l,h1,h2,h3,h4⟩:=Qa4n hI.stp hea
 obtain⟨o,ho⟩:=hF.row hI.split hyc
 have hy:y.2.isE=true:=by rw[h1];rfl
 have hyl:=(Qajq hy).2
 have hyd:y.2.dst=some d:=by rw[h1];rfl
 have hbz:∀z∈pre,Q2i F z y:=fun z hz=>Qbz hI.split hz (by simp)
 have hrest:=hI.rest
 simp only[List.map_cons,h1,Qkn,gdO,gdB,true_and,EOp.eff]at hrest
 have hrest':=hrest.1 trivial l h2
 refine⟨Q19 (some d) (.c (.ptr l 0)) e,H.set l (.st cells),?_⟩
 refine⟨by rw[hI.split];simp,hrest',h3,hI.size,hI.defers,hI.lsz,hI.closed,?_,?_,?_,?_⟩
 ·intro z hz hzE
  rcases List.mem_append.1 hz with k|k
  ·exact hI.eDone z k hzE
  ·simp at k;subst k;exact hyn
 ·intro z hz hzc hzd
  obtain⟨k1,k2⟩:=hI.postDone z (by simp[hz]) hzc hzd
  exact absurd (hyf.trans k1.symm) (hF.pair (Qc1 hI.split hz) hyc hzc).ne
 ·intro z hz hzf hzn
  obtain⟨hzc,hze⟩:=Qfz hzf
  have k:z∈pre:=by
   rcases List.mem_append.1 hz with k|k
   ·exact k
   ·simp at k;subst k;rw[hyl]at hzf;simp at hzf
  have hp:=hF.pair (hbz z k) hzc hyc
  by_cases hh:z.2.hf=true
  ·right
   rcases hI.pend z k hzf hzn with h|h
   ·have:=(Qg4 h).1
    rw[hyc]at this;simp at this
   ·obtain⟨o',x,ei,u',p1,p2,p3,p4,p5,p6,p7,p8⟩:=h
    refine⟨o',x,ei,u',p1,p2,p3,p4,p5,p6.hcongr (p5 hh),?_,?_⟩
    ·intro d' hd'
     rw[Qex fun h=>hp.dst d' hd' (by rw[hyd];exact h)];exact p7 d' hd'
    ·intro t ht
     obtain⟨q1,q2⟩:=p8 t ht
     have hyt:some d≠some t:=fun h=>by
      have:=hp.war t (by rw[hyd];exact h) ht
      exact hzn (hI.closed _ hyn _ this)
     have hb:∀z',Qeb F listed (pre++[y]) z t z'↔Qeb F listed pre z t z':=by
      intro z'
      constructor
      ·rintro⟨b1,b2,b3,b4,b5⟩
       refine⟨?_,b2,b3,b4,b5⟩
       rcases List.mem_append.1 b1 with b|b
       ·exact b
       ·simp at b;subst b;rw[hyd]at b4;exact absurd b4 hyt
      ·rintro⟨b1,b2⟩
       exact⟨by simp[b1],b2⟩
     simp only[hb,Qex hyt]
     exact⟨q1,q2⟩
  ·left
   refine ho.cover hy z k hzc (by simpa using hh) ?_
   cases hx:(F.ms.getD y.1 0).testBit z.1 with
   |false=>rfl
   |true=>exact absurd (hI.closed _ hyn _ hx) hzn
 ·intro t
  by_cases ht:some d=some t
  ·right;right
   rw[Qadi ht]
   simp at ht;subst ht
   exact h4
  ·rw[Qex ht]
   rcases hI.temps t with ⟨y',k1,k2,k3,k4⟩|⟨y',k1,k2,k3,k4,k5⟩|k
   ·exact .inl ⟨y',by simp[k1],k2,k3,k4⟩
   ·rcases List.mem_cons.1 k1 with h|h
    ·subst h;rw[hyd]at k5;exact absurd k5 ht
    ·exact .inr (.inl ⟨y',h,k2,k3,k4,k5⟩)
   ·exact .inr (.inr k)
theorem DInv.doneFl {F:Fix}(hF:FixOk F){listed:Array Bool}{pre post:List Row}{y:Row}(hI:DInv F listed a w pre post e H g)(hyp:y∈pre)(hy:y.2.isFl=true)(hyn:¬dn listed y.1)
  (hanc:∀j,F.anc y.1 j→dn listed j) {v:V} {u:Value} {w':World} {g':G} (hvd:∀d,y.2.dst=some d→lk d e=v)
  (hst:Stp H g w H g' w') (hv:RepV w' g' v u) :
  DInv F (listed.setIfInBounds y.1 true) (a.put y.2.dst u) w' pre post e H g':=by
 obtain⟨hyc,hye⟩:=Qfz hy
 have hyL:y∈F.L:=by rw[hI.split];simp[hyp]
 obtain⟨A,B,hAB⟩:=List.append_of_mem hyL
 obtain⟨o,ho⟩:=hF.row hAB hyc
 have hlt:y.1<listed.size:=by rw[hI.lsz];exact (Array.getElem?_eq_some_iff.1 ho.op).1
 have hpre:∀z∈pre,z∈F.L:=fun z hz=>by rw[hI.split];simp[hz]
 refine⟨hI.split,hI.rest,hI.stp.trans hst,by rw[(Qbq _ _ _).1];exact hI.size,by rw[(Qbq _ _ _).2];exact hI.defers,by simp[hI.lsz],?_,?_,?_,?_,?_⟩
 ·intro i hi j hj
  rw[Qb6 hlt]at hi⊢
  rcases hi with rfl|hi
  ·exact .inr (hanc j hj)
  ·exact .inr (hI.closed i hi j hj)
 ·intro z hz hzE
  rw[Qb6 hlt]
  exact .inr (hI.eDone z hz hzE)
 ·intro z hz hzc hzd
  have hzy:=hF.pair (Qbz hI.split hyp hz) hyc hzc
  rw[Qb6 hlt]at hzd
  obtain⟨k1,k2⟩:=hI.postDone z hz hzc (hzd.resolve_left (Ne.symm hzy.ne))
  exact⟨k1,k2.mono hst fun d hd=>Qwe fun h=>hzy.dst d h hd⟩
 ·intro z hz hzf hzn
  obtain⟨hzc,hze⟩:=Qfz hzf
  rw[Qb6 hlt]at hzn
  have hzn':¬dn listed z.1:=fun h=>hzn (.inr h)
  have hzy:z≠y:=fun h=>hzn (.inl (by rw[h]))
  rcases hI.pend z hz hzf hzn' with h|h
  ·exact .inl h
  ·right
   obtain⟨o',x,ei,u',p1,p2,p3,p4,p5,p6,p7,p8⟩:=h
   refine⟨o',x,ei,u',p1,p2,p3,p4,p5,p6,p7,?_⟩
   intro t ht
   obtain⟨q1,q2⟩:=p8 t ht
   have hb:∀z',Qeb F (listed.setIfInBounds y.1 true) pre z t z'→Qeb F listed pre z t z':=by
    rintro z' ⟨b1,b2,b3,b4,b5⟩
    rw[Qb6 hlt]at b3
    exact⟨b1,b2,fun h=>b3 (.inr h),b4,b5⟩
   refine⟨fun z' hz'=>q1 z' (hb z' hz'),fun hno=>?_⟩
   by_cases hyt:y.2.dst=some t
   ·have hbe:Qeb F listed pre z t y:=by
     refine⟨hyp,hyc,hyn,hyt,?_⟩
     rcases Qac6 hyL (hpre z hz)with k|k|k
     ·exact absurd k.symm hzy
     ·exact (hF.pair k hyc hzc).raw t hyt ht
     ·exact absurd (hanc _ ((hF.pair k hzc hyc).war t hyt ht)) hzn'
    rw[q1 y hbe,hvd t hyt,Qa6u hyt (by rw[hI.size];exact Q3f ho.item t hyt)]
    exact hv
   ·rw[Qwe hyt]
    refine (q2 fun ⟨z',b⟩=>hno ⟨z',?_⟩).mono hst.le
    obtain⟨b1,b2,b3,b4,b5⟩:=b
    refine⟨b1,b2,?_,b4,b5⟩
    rw[Qb6 hlt]
    rintro (h|h)
    ·have:=hF.inj (hpre _ b1) hyL b2 hyc h
     subst this;exact hyt b4
    ·exact b3 h
 ·intro t
  by_cases ht:y.2.dst=some t
  ·right;right
   rw[hvd t ht,Qa6u ht (by rw[hI.size];exact Q3f ho.item t ht)]
   exact hv
  ·rw[Qwe ht]
   rcases hI.temps t with ⟨y',k1,k2,k3,k4⟩|⟨y',k1,k2,k3,k4,k5⟩|k
   ·refine .inl ⟨y',k1,k2,?_,k4⟩
    rw[Qb6 hlt]
    rintro (h|h)
    ·have:=hF.inj (hpre _ k1) hyL k2 hyc h
     subst this;exact ht k4
    ·exact k3 h
   ·exact .inr (.inl ⟨y',k1,k2,k3,(Qb6 hlt).2 (.inr k4),k5⟩)
   ·exact .inr (.inr (k.mono hst.le))
theorem DInv.doneFa {F:Fix}(hF:FixOk F){listed:Array Bool}{pre post:List Row}{y:Row}(hI:DInv F listed a w pre post e H g)(hyp:y∈post)(hyc:y.2.isChk=false)(hyf:y.1=F.fa)(hyn:¬dn listed y.1)
  (hanc:∀j,F.anc y.1 j→dn listed j) {u:Value} {w':World} {g':G}
  (hst:Stp H g w H g' w') (hv:Early F.g0 H g' w' (a.put y.2.dst u) y.2) :
  DInv F (listed.setIfInBounds y.1 true) (a.put y.2.dst u) w' pre post e H g':=by
 have hyL:y∈F.L:=by rw[hI.split];simp[hyp]
 obtain⟨A,B,hAB⟩:=List.append_of_mem hyL
 obtain⟨o,ho⟩:=hF.row hAB hyc
 have hlt:y.1<listed.size:=by rw[hI.lsz];exact (Array.getElem?_eq_some_iff.1 ho.op).1
 have hpre:∀z∈pre,z∈F.L:=fun z hz=>by rw[hI.split];simp[hz]
 have hpost:∀z∈post,z∈F.L:=fun z hz=>by rw[hI.split];simp[hz]
 refine⟨hI.split,hI.rest,hI.stp.trans hst,by rw[(Qbq _ _ _).1];exact hI.size,by rw[(Qbq _ _ _).2];exact hI.defers,by simp[hI.lsz],?_,?_,?_,?_,?_⟩
 ·intro i hi j hj
  rw[Qb6 hlt]at hi⊢
  rcases hi with rfl|hi
  ·exact .inr (hanc j hj)
  ·exact .inr (hI.closed i hi j hj)
 ·intro z hz hzE
  rw[Qb6 hlt]
  exact .inr (hI.eDone z hz hzE)
 ·intro z hz hzc hzd
  rw[Qb6 hlt]at hzd
  rcases hzd with h|h
  ·have:=hF.inj (hpost _ hz) hyL hzc hyc h
   subst this
   exact⟨hyf,hv⟩
  ·obtain⟨k1,k2⟩:=hI.postDone z hz hzc h
   have:=hF.inj (hpost _ hz) hyL hzc hyc (k1.trans hyf.symm)
   subst this
   exact absurd h hyn
 ·intro z hz hzf hzn
  obtain⟨hzc,hze⟩:=Qfz hzf
  rw[Qb6 hlt]at hzn
  have hzn':¬dn listed z.1:=fun h=>hzn (.inr h)
  rcases hI.pend z hz hzf hzn' with h|h
  ·exact .inl h
  ·right
   obtain⟨o',x,ei,u',p1,p2,p3,p4,p5,p6,p7,p8⟩:=h
   refine⟨o',x,ei,u',p1,p2,p3,p4,p5,p6,p7,?_⟩
   intro t ht
   obtain⟨q1,q2⟩:=p8 t ht
   have hyt:y.2.dst≠some t:=fun h=>by
    have:=(hF.pair (Qbz hI.split hz hyp) hzc hyc).war t h ht
    exact hzn' (hanc _ this)
   have hb:∀z',Qeb F (listed.setIfInBounds y.1 true) pre z t z'↔Qeb F listed pre z t z':=by
    intro z'
    constructor
    ·rintro⟨b1,b2,b3,b4,b5⟩
     rw[Qb6 hlt]at b3
     exact⟨b1,b2,fun h=>b3 (.inr h),b4,b5⟩
    ·rintro⟨b1,b2,b3,b4,b5⟩
     refine⟨b1,b2,?_,b4,b5⟩
     rw[Qb6 hlt]
     rintro (h|h)
     ·exact (hF.pair (Qbz hI.split b1 hyp) b2 hyc).ne h
     ·exact b3 h
   simp only[hb,Qwe hyt]
   exact⟨q1,fun h=>(q2 h).mono hst.le⟩
 ·intro t
  by_cases ht:y.2.dst=some t
  ·exact .inr (.inl ⟨y,hyp,hyc,hyf,(Qb6 hlt).2 (.inl hyf.symm),ht⟩)
  ·rw[Qwe ht]
   rcases hI.temps t with ⟨y',k1,k2,k3,k4⟩|⟨y',k1,k2,k3,k4,k5⟩|k
   ·refine .inl ⟨y',k1,k2,?_,k4⟩
    rw[Qb6 hlt]
    rintro (h|h)
    ·exact (hF.pair (Qbz hI.split k1 hyp) k2 hyc).ne h
    ·exact k3 h
   ·exact .inr (.inl ⟨y',k1,k2,k3,(Qb6 hlt).2 (.inr k4),k5⟩)
   ·exact .inr (.inr (k.mono hst.le))
end Go.AE

namespace Go.AE
variable {P:Program}{H:Heap}{g:G}{w:World}{e:Env}{a:Act}
def Qbc6 (listed:Array Bool)(post:List Row):Prop:=post=[]∨∃y r,post=y::r∧y.2.isE=true∧¬dn listed y.1
theorem Que {F:Fix}(hF:FixOk F){listed:Array Bool}:∀(post pre:List Row) (e:Env) (H:Heap),DInv F listed a w pre post e H g→
  ∃pre' post' e' H',DInv F listed a w pre' post' e' H' g∧Qbc6 listed post'
 |[],pre,e,H,hI=>⟨pre,[],e,H,hI,.inl rfl⟩
 |(i,x)::r,pre,e,H,hI=>by
  have hnE:x.isE=false→x.isChk=false→¬dn listed i:=by
   intro hx hc hd
   obtain⟨_,hea⟩:=hI.postDone (i,x) (by simp) hc hd
   obtain⟨d,cells,l,b,sz,T,cs,h1,_⟩:=hea.ok
   simp only at h1
   rw[h1]at hx;simp[Item.isE]at hx
  have hrest:=hI.rest
  cases x with
  |chk d gd op=>exact Que hF r _ e H (hI.passChk hF)
  |f d gd op=>
   simp only[List.map_cons,Qkn]at hrest
   exact Que hF r _ _ H (hI.passFl hF rfl _ ⟨hrest.1,hrest.2.1,rfl⟩ hrest.2.2 (hnE rfl rfl))
  |p d gd f xs=>
   simp only[List.map_cons,Qkn]at hrest
   obtain⟨r1,v,r2,r3⟩:=hrest
   exact Que hF r _ _ H (hI.passFl hF rfl _ ⟨r1,v,r2,rfl⟩ r3 (hnE rfl rfl))
  |e d gd op=>
   by_cases hd:dn listed i
   ·obtain⟨e',H',hI'⟩:=hI.passFa hF rfl hd
    exact Que hF r _ e' H' hI'
   ·exact⟨pre,_,e,H,hI,.inr ⟨_,r,rfl,rfl,hd⟩⟩
theorem Qajk {α:Type}{p q:α→Bool}:∀(l:List α),(∀x∈l,q x=true→p x=true)→(∃x∈l,p x=true∧q x=false)→l.countP q<l.countP p
 |[],_,h=>by simp at h
 |x::r,h1,h2=>by
  have hle:r.countP q≤r.countP p:=List.countP_mono_left fun y hy=>h1 y (by simp[hy])
  obtain⟨y,hy,k1,k2⟩:=h2
  rcases List.mem_cons.1 hy with rfl|hy
  ·simp only[List.countP_cons,k1,k2];simp;omega
  ·have:=Qajk r (fun y hy=>h1 y (by simp[hy])) ⟨y,hy,k1,k2⟩
   have hx:=h1 x (by simp)
   simp only[List.countP_cons]
   cases hq:q x with
   |true=>rw[hx hq];simp;omega
   |false=>simp;split <;> omega
def unl (F:Fix)(listed:Array Bool):Nat:=(List.range F.ops.size).countP fun i=>!listed.getD i false
theorem Qazd {F:Fix}(hF:FixOk F){listed:Array Bool}(hsz:listed.size=F.ops.size)(hr:Region.ready .any F.ops listed=[]):∀(B A:List Row),F.L=A++B→
  (∀y∈A,y.2.isChk=false→dn listed y.1)→∀y∈B,y.2.isChk=false→dn listed y.1
 |[],A,h,hA,y,hy,hc=>by simp at hy
 |x::r,A,h,hA,y,hy,hc=>by
  have hx:x.2.isChk=false→dn listed x.1:=by
   intro hxc
   obtain⟨o,ho⟩:=hF.row h hxc
   have hlt:x.1<listed.size:=by rw[hsz];exact (Array.getElem?_eq_some_iff.1 ho.op).1
   by_cases hd:dn listed x.1
   ·exact hd
   ·exfalso
    have:x.1∈Region.ready .any F.ops listed:=by
     rw[mem_ready]
     refine⟨?_,o,ho.op,fun ed hed hb=>?_⟩
     ·simp only[dn]at hd
      rw[Array.getD_eq_getD_getElem?,Array.getElem?_eq_getElem hlt]at hd⊢
      simpa using hd
     ·obtain⟨z,hz,h1,h2⟩:=ho.aft ed hed hb
      rw[←h2];exact hA z hz h1
    rw[hr]at this;simp at this
  rcases List.mem_cons.1 hy with rfl|hy
  ·exact hx hc
  ·refine Qazd hF hsz hr r (A++[x]) (by rw[h];simp) ?_ y hy hc
   intro z hz hzc
   rcases List.mem_append.1 hz with k|k
   ·exact hA z k hzc
   ·simp at k;subst k;exact hx hzc
theorem Qazk {F:Fix}(hF:FixOk F){listed:Array Bool}{pre post:List Row}(hI:DInv F listed a w pre post e H g)(hst:Qbc6 listed post)(hr:Region.ready .any F.ops listed=[]) :
  Post F.n F.H0 F.g0 F.w0 F.K a w:=by
 have hall:=Qazd hF hI.lsz hr F.L [] rfl (by simp)
 rcases hst with rfl|⟨y,r,rfl,hy,hd⟩
 ·refine⟨e,H,g,hI.rest,hI.stp,fun t=>?_,hI.defers,hI.size⟩
  rcases hI.temps t with ⟨y',k1,k2,k3,k4⟩|⟨y',k1,_⟩|k
  ·exact absurd (hall y' (by rw[hI.split];simp[k1]) k2) k3
  ·simp at k1
  ·exact k
 ·exact absurd (hall y (by rw[hI.split];simp) (Qajq hy).1) hd
theorem Qa4m {F:Fix}(hF:FixOk F){Q:Exit→Act→World→Prop}(hQ:∀a' w',Post F.n F.H0 F.g0 F.w0 F.K a' w'→Q .normal a' w') :
  ∀(fuel:Nat) (listed:Array Bool) (a:Act) (w:World) (pre post:List Row) (e:Env) (H:Heap) (g:G),DInv F listed a w pre post e H g→Qbc6 listed post→unl F listed≤fuel→
   wpAny F.P .any F.ops Q fuel listed a w:=by
 intro fuel
 induction fuel with
 |zero=>
  intro listed a w pre post e H g hI hst hu
  have hr:Region.ready .any F.ops listed=[]:=by
   rw[List.eq_nil_iff_forall_not_mem]
   intro i hi
   rw[mem_ready]at hi
   obtain⟨h1,o,h2,h3⟩:=hi
   have hlt:i<F.ops.size:=(Array.getElem?_eq_some_iff.1 h2).1
   have:0<unl F listed:=by
    unfold unl
    rw[List.countP_pos_iff]
    refine⟨i,by simp[hlt],?_⟩
    have hlt':i<listed.size:=by rw[hI.lsz];exact hlt
    rw[Array.getD_eq_getD_getElem?,Array.getElem?_eq_getElem hlt']at h1⊢
    simpa using h1
   omega
  exact⟨hr,hQ _ _ (Qazk hF hI hst hr)⟩
 |succ fuel ih=>
  intro listed a w pre post e H g hI hst hu
  refine⟨fun hr=>hQ _ _ (Qazk hF hI hst hr),?_⟩
  intro i hi
  rw[mem_ready]at hi
  obtain⟨h1,o,h2,h3⟩:=hi
  have hlt:i<F.ops.size:=(Array.getElem?_eq_some_iff.1 h2).1
  have hlt':i<listed.size:=by rw[hI.lsz];exact hlt
  have hnd:¬dn listed i:=by
   simp only[dn]
   rw[Array.getD_eq_getD_getElem?,Array.getElem?_eq_getElem hlt']at h1⊢
   simpa using h1
  have hu':unl F (listed.setIfInBounds i true)≤fuel:=by
   have:unl F (listed.setIfInBounds i true)<unl F listed:=by
    refine Qajk _ ?_ ⟨i,by simp[hlt],?_,?_⟩
    ·intro j hj hq
     by_cases hij:i=j
     ·subst hij;simp[hlt']at hq
     ·rw[getD_set_ne false hij]at hq;exact hq
    ·simpa[dn]using hnd
    ·simp[hlt']
   omega
  obtain⟨y,hyL,hyc,hyi⟩:=hF.all i hlt
  subst hyi
  obtain⟨A,B,hAB⟩:=List.append_of_mem hyL
  obtain⟨o',ho⟩:=hF.row hAB hyc
  have hoo:o'=o:=by have:=ho.op;rw[h2]at this;simpa using this.symm
  subst hoo
  have hanc:∀j,F.anc y.1 j→dn listed j:=by
   intro j hj
   obtain⟨ed,k1,k2,k3⟩:=ho.anc j hj
   rcases k3 with k3|k3
   ·rw[←k3];exact h3 ed k1 k2
   ·exact hI.closed _ (h3 ed k1 k2) j k3
  have hgo:∀a' w' pre' post' e' H' g',DInv F (listed.setIfInBounds y.1 true) a' w' pre' post' e' H' g'→wpAny F.P .any F.ops Q fuel (listed.setIfInBounds y.1 true) a' w':=by
   intro a' w' pre' post' e' H' g' hI'
   obtain⟨p2,q2,e2,H2,hI2,hs2⟩:=Que hF post' pre' e' H' hI'
   exact ih _ a' w' p2 q2 e2 H2 g' hI2 hs2 hu'
  have hmem:y∈pre∨y∈post:=by
   have:y∈pre++post:=hI.split▸hyL
   exact List.mem_append.1 this
  have hearly:y.1=F.fa→y∈post→wpOp F.P F.ops Q y.1 (wpAny F.P .any F.ops Q fuel (listed.setIfInBounds y.1 true)) a w:=by
   intro hfa hyp
   refine Qa0t h2 ho.item (ho.isFa hfa) hI.stp.sat (fun l z hz=>hI.stp.le.io l z hz) hI.size (g0:=F.g0) fun u w' g' k1 k2=>?_
   exact hgo _ _ _ _ _ _ _ (hI.doneFa hF hyp hyc hfa hnd hanc k1 k2)
  rcases hmem with hyp|hyp
  ·
   have hfl:y.2.isFl=true:=by
    have hE:=hI.eDone y hyp
    revert hE hyc
    cases y.2 <;> simp_all[Item.isFl,Item.isChk,Item.isE]
   rcases hI.pend y hyp hfl hnd with h|h
   ·exfalso
    rcases hst with rfl|⟨z,r,rfl,hz,_⟩
    ·simp[Qaeq]at h
    ·have:=(Qg4 h).1
     rw[(Qajq hz).1]at this;simp at this
   ·obtain⟨o2,x,ei,v,p1,p2,p3,p4,p5,p6,p7,p8⟩:=h
    rw[h2]at p1
    simp only[Option.some.injEq]at p1
    subst p1
    have hno:∀t,¬∃z,Qeb F listed pre y t z:=by
     rintro t ⟨z,b1,b2,b3,b4,b5⟩
     exact b3 (hanc _ b5)
    refine Qbdv (n:=F.n) h2 p2 p6 hI.stp.sat ?_ fun u w' g' k1 k2=>?_
    ·intro t
     rw[Qae3]
     split
     ·rename_i ht
      rw[p4]at ht
      exact (p8 t ht).2 (hno t)
     ·exact .unk _
    ·rw[p3]
     exact hgo _ _ _ _ _ _ _ (hI.doneFl hF hyp hfl hnd hanc p7 k1 k2)
  ·by_cases hfa:y.1=F.fa
   ·exact hearly hfa hyp
   ·rcases hst with rfl|⟨z,r,rfl,hz,hzd⟩
    ·simp at hyp
    ·have hyz:y=z:=by
      rcases List.mem_cons.1 hyp with k|k
      ·exact k
      ·exfalso
       have:=(hF.pair (Qc1 hI.split k) (Qajq hz).1 hyc).ord hz hfa
       exact hzd (hanc _ this)
     subst hyz
     have hrest:=hI.rest
     have him:=ho.item
     have hpass:=@DInv.passE
     obtain⟨yi,yx⟩:=y
     cases yx with
     |e d gd op=>
      simp only[List.map_cons,Qkn]at hrest
      obtain⟨r1,r2,r3⟩:=hrest
      refine Qbc7 (n:=F.n) h2 him hI.stp.sat ?_ r1 r2 r3 fun x u w' H' g' k1 k2 k3=>?_
      ·intro t
       rw[Qae3]
       split
       ·rename_i ht
        rcases hI.temps t with ⟨y',b1,b2,b3,b4⟩|⟨y',b1,b2,b3,b4,b5⟩|k
        ·exfalso
         exact b3 (hanc _ ((hF.pair (Qbz hI.split b1 (by simp)) b2 hyc).raw t b4 ht))
        ·exfalso
         rcases List.mem_cons.1 b1 with h|h
         ·subst h;exact hnd (by rw[b3];exact b4)
         ·have:=(hF.pair (Qc1 hI.split h) hyc b2).war t b5 ht
          rw[b3]at this
          exact hnd (hI.closed _ b4 _ this)
        ·exact k
       ·exact .unk _
      ·exact hgo _ _ _ _ _ _ _ (hI.passE hF hz hnd hfa hanc k1 k2 k3)
     |f=>simp[Item.isE]at hz
     |p=>simp[Item.isE]at hz
     |chk=>simp[Item.isE]at hz
theorem Qa8y (hs:Sat H g w)(k:Nat):Stp H g w H g { w with drawn:=k }:=by
 have hle:Le g w g { w with drawn:=k }:=⟨fun _ h=>⟨h,rfl⟩,fun _ _ h=>h,Nat.le_refl _,fun _ _ _ h=>h,rfl,rfl,rfl⟩
 have hk:∀l,Qud g w g { w with drawn:=k } l:=fun l b q hb=>⟨hb,rfl⟩
 exact⟨hle,fun l _ hn=>⟨hn,fun b p hb=>⟨hb,rfl⟩⟩,hs.fresh,hs.names,hs.excl,hs.named,fun l=>SatObj.keep_all hs hle hk l⟩
theorem Qa0s {n id fa:Nat}{ord:List Nat}{ops:Array Oper}{its:List Item}{K:Env→Heap→Prop}{Q:Exit→Act→World→Prop}(Qax:P.follows .mixedOrders=true)(hm:Qbeh P n ops fa ord its=true)(hs:Sat H g w)(he:EnvOk w g e a)(hn:a.tmps.size=n)(hd:a.defers=[])
  (hr:Qkn P its e H K) (hQ:∀a' w',Post n H g w K a' w'→Q .normal a' w'):(Code.region id ops true).wp P Q a w:=by
 simp only[Qbeh,Bool.and_eq_true,beq_iff_eq,List.all_eq_true,List.mem_range,List.any_eq_true,Bool.not_eq_true']at hm
 obtain⟨⟨⟨m1,m2⟩,m3⟩,m4⟩:=hm
 let F:Fix:={ P,n,ops,ms:=Qbep ops.toList [],fa,L:=ord.zip its,H0:=H,g0:=g,w0:=w,K }
 have hF:FixOk F:=⟨m3,fun i hi=>m4 i hi⟩
 have hmap:(ord.zip its).map Prod.snd=its:=by
  rw[List.map_snd_zip];omega
 have hst:=Qa8y hs (w.drawn+1)
 have hnl:∀i,¬dn (Array.replicate ops.size false) i:=by
  intro i h
  simp only[dn,Array.getD_eq_getD_getElem?,Array.getElem?_replicate]at h
  split at h <;> simp at h
 have hI:DInv F (Array.replicate ops.size false) a { w with drawn:=w.drawn+1 } [] (ord.zip its) e H g:=by
  refine⟨rfl,by rw[hmap];exact hr,hst,hn,hd,by simp[F],fun i hi=>absurd hi (hnl i),by simp,fun y _ _ h=>absurd h (hnl _),by simp,fun t=>?_⟩
  exact .inr (.inr ((he t).mono hst.le))
 obtain⟨p2,q2,e2,H2,hI2,hs2⟩:=Que hF _ _ _ _ hI
 refine wp_region_any Qax ?_
 refine Qa4m hF hQ ops.size _ a _ p2 q2 e2 H2 g hI2 hs2 ?_
 exact Nat.le_trans List.countP_le_length (by simp[F])
end Go.AE

namespace Go.AE
variable {P:Program}{H:Heap}{g:G}{w:World}{e:Env}{a:Act}
theorem Qa36 {c:Code}{Q:Exit→Act→World→Prop}(I:Nat→Act→World→Prop)(h₀:∃n,I n a w)
  (round:∀n a w,I n a w→c.wp P (Exit.then (fun a' w'=>∃m,m<n∧I m a' w') Q) a w):(Code.loop c).wp P Q a w:=by
 intro b k cs
 have key:∀n a w,I n a w→∃e a' w',Q e a' w'∧Arrives P (lone (b.at a (.code c::.inLoop c::k)) cs w) b k cs e a' w':=by
  intro n
  induction n using Nat.strongRecOn with
  |_ n ih=>
   intro a w hI
   obtain⟨e,a₁,w₁,hq,harr⟩:=round n a w hI b (.inLoop c::k) cs
   cases e with
   |normal=>
    obtain⟨m,hlt,hI₁⟩:=hq
    obtain⟨e₂,a₂,w₂,hq₂,harr₂⟩:=ih m hlt a₁ w₁ hI₁
    exact⟨e₂,a₂,w₂,hq₂,.of_steps (Steps.trans harr (.one step_inLoop)) harr₂⟩
   |exit id=>exact⟨_,a₁,w₁,hq,.pass (x:=.inLoop c) rfl (fun _ _=>.inl (by simp)) harr⟩
   |goto l=>exact⟨_,a₁,w₁,hq,.pass (x:=.inLoop c) rfl (fun _ _=>.inl (by simp)) harr⟩
   |ret=>exact⟨_,a₁,w₁,hq,.pass (x:=.inLoop c) rfl (fun _ _=>.inl (by simp)) harr⟩
   |panic ch=>exact⟨_,a₁,w₁,hq,.pass (x:=.inLoop c) rfl (fun _ _=>.inl (by simp)) harr⟩
   |outgrown=>exact⟨_,a₁,w₁,hq,.pass (x:=.inLoop c) rfl (fun _ _=>.inl (by simp)) harr⟩
 obtain⟨n,hn⟩:=h₀
 obtain⟨e,a',w',hq,harr⟩:=key n a w hn
 exact⟨e,a',w',hq,.of_steps (.one step_loop) harr⟩
def xm:Exit→Option X
 |.normal=>some .nrm
 |.exit id=>some (.exit id)
 |.ret=>some .ret
 |_=>none
def Qbc4 (n:Nat)(H:Heap)(g:G)(w:World)(Q:X→Env→Heap→Prop)(x:Exit)(a:Act)(w':World):Prop:=
 ∃x',xm x=some x'∧Post n H g w (Q x') a w'
def mC (P:Program)(n:Nat):Code→SC→Bool
 |c,.seq .gh s=>mC P n c s
 |.skip,.skip=>true
 |.region _ ops false,.reg its _=>mIts P n ops 0 its
 |.region _ ops true,.dreg fa ord its _=>Qbeh P n ops fa ord its
 |.seq c d,.seq s t=>mC P n c s&&mC P n d t
 |.cond x c d,.cond y s t=>mO y x&&mC P n c s&&mC P n d t
 |.block i c,.block j s=>i == j&&mC P n c s
 |.loop c,.loop s=>mC P n c s
 |.exit i,.exit j=>i == j
 |.ret,.ret=>true
 |_,_=>false
theorem Qa83 {ks:List Nat}(h:EnvOk w g e a):EnvOk w g (Q9i ks e) a:=by
 intro t
 unfold Q9i
 induction ks with
 |nil=>exact .unk _
 |cons k ks ih=>
  simp only[List.map_cons,lk]
  split
  ·rename_i ht;subst ht;exact h t
  ·exact ih
theorem Post.trans {n:Nat}{H':Heap}{g':G}{w' w'':World}{K:Env→Heap→Prop}(h:Stp H g w H' g' w')(k:Post n H' g' w' K a w''):Post n H g w K a w'':=by
 obtain⟨e2,H2,g2,k1,k2,k3,k4,k5⟩:=k
 exact⟨e2,H2,g2,k1,h.trans k2,k3,k4,k5⟩
theorem Qa0q (Qax:P.follows .mixedOrders=true){n:Nat}:∀(s:SC) (c:Code) (Q:X→Env→Heap→Prop) (e:Env) (H:Heap),mC P n c s=true→Qab P s Q e H→
  ∀(g:G) (w:World) (a:Act),Sat H g w→EnvOk w g e a→a.defers=[]→a.tmps.size=n→c.wp P (Qbc4 n H g w Q) a w:=by
 intro s
 induction s with
 |skip=>
  intro c Q e H hm hc g w a hs he hd hn
  cases c <;> simp[mC]at hm
  exact wp_skip ⟨.nrm,rfl,e,H,g,hc,.refl hs,he,hd,hn⟩
 |reg its keep=>
  intro c Q e H hm hc g w a hs he hd hn
  cases c with
  |region id ops dr'=>
   cases dr' with
   |true=>simp[mC]at hm
   |false=>
    simp only[mC]at hm
    simp only[Qab]at hc
    have hQ:∀a' w',Post n H g w (fun e' H'=>Q .nrm (Q9i keep e') H') a' w'→Qbc4 n H g w Q .normal a' w':=by
     rintro a' w' ⟨e2,H2,g2,k1,k2,k3,k4,k5⟩
     exact⟨.nrm,rfl,_,H2,g2,k1,k2,Qa83 k3,k4,k5⟩
    have hl:=Qazy its 0 hm
    refine wp_region ?_
    rw[List.range_eq_range',←hl,Nat.zero_add]
    exact Qwl hQ its 0 e H g w a hm (.refl hs) he hn hd hc
  |_=>simp[mC]at hm
 |dreg fa ord its keep=>
  intro c Q e H hm hc g w a hs he hd hn
  cases c with
  |region id ops dr'=>
   cases dr' with
   |false=>simp[mC]at hm
   |true=>
    simp only[mC]at hm
    simp only[Qab]at hc
    have hQ:∀a' w',Post n H g w (fun e' H'=>Q .nrm (Q9i keep e') H') a' w'→Qbc4 n H g w Q .normal a' w':=by
     rintro a' w' ⟨e2,H2,g2,k1,k2,k3,k4,k5⟩
     exact⟨.nrm,rfl,_,H2,g2,k1,k2,Qa83 k3,k4,k5⟩
    exact Qa0s Qax hm hs he hn hd hc hQ
  |_=>simp[mC]at hm
 |seq s t ihs iht=>
  intro c Q e H hm hc g w a hs he hd hn
  by_cases hg:s=.gh
  ·subst hg
   have hm':mC P n c t=true:=by simpa[mC]using hm
   simp only[Qab]at hc
   obtain⟨e1,H1,h1,h2⟩:=hc
   obtain⟨g1,k1,k2⟩:=h1 g w (fun t=>a.tmps.getD t undef) hs he
   refine wp_mono (iht c Q e1 H1 hm' h2 g1 w a k1.sat k2 hd hn) ?_
   rintro x a' w' ⟨x',q1,q2⟩
   exact⟨x',q1,q2.trans k1⟩
  ·cases c with
   |seq c d=>
    have hm':mC P n c s=true∧mC P n d t=true:=by
     cases s <;> first|(exact absurd rfl hg)|simpa[mC]using hm
    simp only[Qab]at hc
    refine wp_seq (wp_mono (ihs c _ e H hm'.1 hc g w a hs he hd hn) ?_)
    rintro x a' w' ⟨x',q1,e2,H2,g2,k1,k2,k3,k4,k5⟩
    cases x with
    |normal=>
     simp only[xm,Option.some.injEq]at q1
     subst q1
     refine wp_mono (iht d Q e2 H2 hm'.2 k1 g2 w' a' k2.sat k3 k4 k5) ?_
     rintro x2 a2 w2 ⟨x2',r1,r2⟩
     exact⟨x2',r1,r2.trans k2⟩
    |exit id=>
     simp only[xm,Option.some.injEq]at q1
     subst q1
     exact⟨_,rfl,e2,H2,g2,k1,k2,k3,k4,k5⟩
    |ret=>
     simp only[xm,Option.some.injEq]at q1
     subst q1
     exact⟨_,rfl,e2,H2,g2,k1,k2,k3,k4,k5⟩
    |_=>simp[xm]at q1
   |_=>cases s <;> first|(exact absurd rfl hg)|simp[mC]at hm
 |cond y s t ihs iht=>
  intro c Q e H hm hc g w a hs he hd hn
  cases c <;> simp[mC]at hm
  rename_i x c d
  obtain⟨⟨h1,h2⟩,h3⟩:=hm
  simp only[Qab]at hc
  obtain⟨b,k1,k2,k3⟩:=hc
  have hr:=Qbcv he h1
  rw[k1]at hr
  have hb:=hr.c_inv.bool_inv
  exact wp_cond_split hb (fun hbt=>ihs c Q e H h2 (k2 hbt) g w a hs he hd hn) (fun hbt=>iht d Q e H h3 (k3 hbt) g w a hs he hd hn)
 |block id s ih=>
  intro c Q e H hm hc g w a hs he hd hn
  cases c <;> simp[mC]at hm
  rename_i id' c
  obtain⟨rfl,h2⟩:=hm
  simp only[Qab]at hc
  refine wp_block (wp_mono (ih c _ e H h2 hc g w a hs he hd hn) ?_)
  rintro x a' w' ⟨x',q1,e2,H2,g2,k1,k2⟩
  cases x with
  |normal=>
   simp only[xm,Option.some.injEq]at q1
   subst q1
   exact⟨.nrm,rfl,e2,H2,g2,k1,k2⟩
  |exit id2=>
   simp only[xm,Option.some.injEq]at q1
   subst q1
   simp only[X.inBlock]at k1
   simp only[Exit.inBlock]
   split
   ·rename_i h;subst h;rw[if_pos rfl]at k1;exact⟨.nrm,rfl,e2,H2,g2,k1,k2⟩
   ·rename_i h;rw[if_neg h]at k1;exact⟨.exit id2,rfl,e2,H2,g2,k1,k2⟩
  |ret=>
   simp only[xm,Option.some.injEq]at q1
   subst q1
   exact⟨.ret,rfl,e2,H2,g2,k1,k2⟩
  |_=>simp[xm]at q1
 |loop s ih=>
  intro c Q e H hm hc g w a hs he hd hn
  cases c <;> simp[mC]at hm
  rename_i c
  simp only[Qab]at hc
  obtain⟨I,⟨m0,h0⟩,hround⟩:=hc
  refine Qa36 (fun m a' w'=>Post n H g w (I m) a' w') ⟨m0,e,H,g,h0,.refl hs,he,hd,hn⟩ ?_
  rintro m a1 w1 ⟨e1,H1,g1,k1,k2,k3,k4,k5⟩
  refine wp_mono (ih c _ e1 H1 hm (hround m e1 H1 k1) g1 w1 a1 k2.sat k3 k4 k5) ?_
  rintro x a' w' ⟨x',q1,e2,H2,g2,r1,r2,r3,r4,r5⟩
  cases x with
  |normal=>
   simp only[xm,Option.some.injEq]at q1
   subst q1
   obtain⟨m',hlt,hI⟩:=r1
   exact⟨m',hlt,e2,H2,g2,hI,k2.trans r2,r3,r4,r5⟩
  |exit id=>
   simp only[xm,Option.some.injEq]at q1
   subst q1
   exact⟨_,rfl,e2,H2,g2,r1,k2.trans r2,r3,r4,r5⟩
  |ret=>
   simp only[xm,Option.some.injEq]at q1
   subst q1
   exact⟨_,rfl,e2,H2,g2,r1,k2.trans r2,r3,r4,r5⟩
  |_=>simp[xm]at q1
 |exit id=>
  intro c Q e H hm hc g w a hs he hd hn
  cases c <;> simp[mC]at hm
  subst hm
  exact wp_exit ⟨.exit _,rfl,e,H,g,hc,.refl hs,he,hd,hn⟩
 |ret=>
  intro c Q e H hm hc g w a hs he hd hn
  cases c <;> simp[mC]at hm
  exact wp_ret ⟨.ret,rfl,e,H,g,hc,.refl hs,he,hd,hn⟩
 |gh=>
  intro c Q e H hm hc g w a hs he hd hn
  cases c <;> simp[mC]at hm
def mR (P:Program):ResultVar→RS→Bool
 |.tmp t,.tmp t'=>t == t'
 |.cell t ty,.cell t' n agg=>t == t'&&Qa5u P ty n agg
 |_,_=>false
def mRs (P:Program):List ResultVar→List RS→Bool
 |[],[]=>true
 |x::r,y::s=>mR P x y&&mRs P r s
 |_,_=>false
def mFn (P:Program)(f:FuncId)(nargs n:Nat)(s:SC)(rs:List RS):Bool:=
 fnOk P f&&(match P.funcs[f]? with
  |some fn=>(match fn.body with
   |some c=>fn.ntmps == n&&decide (nargs≤n)&&mC P n c s&&mRs P fn.results.toList rs
   |none=>false)
  |none=>false)
theorem Qbf7 {n:Nat}{x:ResultVar}{y:RS}(hm:mR P x y=true)(hs:Sat H g w)(he:EnvOk w g e a)(ho:y.op.obl true e H) :
  ∃v,(match x with
   |.tmp t=>(pure (a.tmps.getD t undef):Sem Value)
   |.cell t ty=>do loadVar ty (←asAddr (a.tmps.getD t undef))).run P w=.ok v w∧RepV w g (y.op.val e H) v:=by
 cases x with
 |tmp t=>
  cases y with
  |tmp t'=>
   simp[mR]at hm;subst hm
   have hr:=Qap (x:=.t t) (y:=.tmp t) he (by simp[mO]) rfl ho
   exact⟨a.tmps.getD t undef,rfl,hr⟩
  |cell=>simp[mR]at hm
 |cell t ty=>
  cases y with
  |tmp=>simp[mR]at hm
  |cell t' n agg=>
   simp only[mR,Bool.and_eq_true,beq_iff_eq]at hm
   obtain⟨rfl,h2⟩:=hm
   obtain⟨d,i,k1,k2,k3,k4,k5⟩:=Qu0 h2
   obtain ⟨v, w', g', r1, r2, r3, _⟩ := s_ld (o := { dst := none, op := .load ty (.tmp t), type := 0, pos := "", after := #[], guard := none }) (x := .t t) (x' := .tmp t) rfl k1 k2 k3 k4 k5 (by simp [mO]) hs he rfl ho
   simp only[RS.op,FOp.obl]at ho
   obtain⟨o1,o2,o3,o4,o5⟩:=ho
   have hrr:=Qap (x:=.t t) (y:=.tmp t) he (by simp[mO]) rfl o1
   rw[Qda o2]at hrr
   obtain⟨b,q,hv,_⟩:=Qac7 hs hrr.c_inv o3
   have hv':a.tmps.getD t undef=.pointer (some ⟨b,q,none⟩):=hv
   have hcell := Qaq3 (P := P) (o := { dst := none, op := .load ty (.tmp t), type := 0, pos := "", after := #[], guard := none }) (x := .t t) (x' := .tmp t) rfl k1 k2 k3 k4 k5 (by simp [mO]) hs he rfl ⟨o1, o2, o3, o4, o5⟩
   obtain⟨v2,q1,q2⟩:=hcell
   refine⟨v2,?_,q2⟩
   simp only[execOp,Instr.loadAt,Act.eval,hv',Instr.sureAddr,Sem.run_bind,Sem.run_pure,Result.andThen_ok]at q1
   simp only[hv',asAddr,Sem.run_bind,Sem.run_pure,Result.andThen_ok]
   cases hl:(loadVar ty ⟨b,q,none⟩).run P w with
   |ok u w2=>rw[hl]at q1;simp at q1;obtain⟨rfl,rfl⟩:=q1;rfl
   |halt h w2=>rw[hl]at q1;simp at q1
def rRun (tmps:Array Value):ResultVar→Sem Value
 |.tmp t=>pure (tmps.getD t undef)
 |.cell a t=>do loadVar t (←asAddr (tmps.getD a undef))
theorem Qas5 {P:Program}{w:World}{tmps:Array Value}:∀(l:List ResultVar) (vs:List Value),l.length=vs.length→
  (∀(j:Nat) (x:ResultVar) (v:Value),l[j]? = some x→vs[j]? = some v→(rRun tmps x).run P w=.ok v w)→(l.mapM (rRun tmps)).run P w=.ok vs w:=by
 intro l
 induction l with
 |nil=>intro vs hl _;cases vs with
  |nil=>simp
  |cons=>simp at hl
 |cons x r ih=>
  intro vs hl h
  cases vs with
  |nil=>simp at hl
  |cons v vs=>
   have h0:=h 0 x v rfl rfl
   have ih':=ih vs (by simpa using hl) fun j y u h1 h2=>h (j+1) y u (by simpa using h1) (by simpa using h2)
   simp only[List.mapM_cons,Sem.run_bind,h0,Result.andThen_ok,ih',Sem.run_pure]
theorem Qbei {n:Nat}:∀(l:List ResultVar) (rs:List RS),mRs P l rs=true→Sat H g w→EnvOk w g e a→(∀r∈rs,r.op.obl true e H)→
  ∃vs:List Value,l.length=vs.length∧vs.length=rs.length∧(∀(j:Nat) (x:ResultVar) (v:Value),l[j]? = some x→vs[j]? = some v→(rRun a.tmps x).run P w=.ok v w)∧
   (∀(j:Nat) (x:V) (u:Value),(rs.map fun r=>r.op.val e H)[j]? = some x→vs[j]? = some u→RepV w g x u):=by
 intro l
 induction l with
 |nil=>
  intro rs hm hs he ho
  cases rs with
  |nil=>exact⟨[],rfl,rfl,by simp,by simp⟩
  |cons=>simp[mRs]at hm
 |cons x r ih=>
  intro rs hm hs he ho
  cases rs with
  |nil=>simp[mRs]at hm
  |cons y rs=>
   simp only[mRs,Bool.and_eq_true]at hm
   obtain⟨v,h1,h2⟩:=Qbf7 (n:=n) hm.1 hs he (ho y (by simp))
   obtain⟨vs,k1,k2,k3,k4⟩:=ih rs hm.2 hs he fun z hz=>ho z (by simp[hz])
   refine⟨v::vs,by simp[k1],by simp[k2],?_,?_⟩
   ·intro j z u hz hu
    cases j with
    |zero=>
     simp at hz hu;subst hz;subst hu
     exact h1
    |succ j=>exact k3 j z u (by simpa using hz) (by simpa using hu)
   ·intro j z u hz hu
    cases j with
    |zero=>
     simp at hz hu;subst hz;subst hu
     exact h2
    |succ j=>exact k4 j z u (by simpa using hz) (by simpa using hu)
theorem Qa1y {fn:Func}{rs:List RS}(hm:mRs P fn.results.toList rs=true)(hs:Sat H g w)(he:EnvOk w g e a){K:V→Heap→Prop}(ho:Qae rs e H K) :
  ∃v x,(results fn a.tmps).run P w=.ok v w∧K x H∧RepV w g x v:=by
 obtain⟨h1,h2⟩:=ho
 obtain⟨vs,k1,k2,k3,k4⟩:=Qbei (n:=0) _ _ hm hs he h1
 have hr:=Qas5 (P:=P) (w:=w) (tmps:=a.tmps) _ _ k1 k3
 have hrun:(results fn a.tmps).run P w=.ok (if h:vs.toArray.size=1 then vs.toArray[0]else .tuple vs.toArray) w:=by
  have:results fn a.tmps=(do let vs ←fn.results.mapM (rRun a.tmps);pure (if h:vs.size=1 then vs[0]else .tuple vs)):=by
   unfold results
   rfl
  rw[this,Array.mapM_eq_mapM_toList]
  simp only[Sem.run_bind,Sem.run_map,hr,Result.andThen_ok,Sem.run_pure]
 by_cases hl:vs.length=1
 ·obtain⟨v,rfl⟩:∃v,vs=[v]:=List.length_eq_one_iff.mp hl
  obtain⟨r,rfl⟩:∃r,rs=[r]:=List.length_eq_one_iff.mp (by omega)
  exact⟨v,_,by simpa using hrun,h2,k4 0 _ v (by simp) rfl⟩
 ·have hsz:¬vs.toArray.size=1:=by simpa using hl
  rw[dif_neg hsz]at hrun
  refine⟨_,.tup (rs.map fun r=>r.op.val e H),hrun,?_,.tup _ _ (by simp[k2]) k4⟩
  split at h2
  ·rename_i r;simp at k2;omega
  ·exact h2
def Q7 (rs:List RS)(K:V→Heap→Prop):X→Env→Heap→Prop
 |.nrm,e,H=>Qae rs e H K
 |.ret,e,H=>Qae rs e H K
 |.exit _,_,_=>False
theorem Qbfk:∀(args:List V) (i t:Nat),lk t (zipE i args)=if i≤t then args.getD (t-i) .unk else .unk:=by
 intro args
 induction args with
 |nil=>intro i t;simp[zipE,lk]
 |cons v r ih=>
  intro i t
  simp only[zipE,lk,ih]
  split
  ·rename_i h;subst h;simp
  ·rename_i h
   split
   ·rw[if_pos (by omega)]
    have:t-i=(t-(i+1))+1:=by omega
    rw[this];simp
   ·rw[if_neg (by omega)]
theorem Qe (Qax:P.follows .mixedOrders=true){f n:Nat}{s:SC}{rs:List RS}{args:List V}{H:Heap}{K:V→Heap→Prop}
  (hm:mFn P f args.length n s rs=true) (hc:Qab P s (Q7 rs K) (zipE 0 args) H):Qw P f args H K:=by
 simp only[mFn,Bool.and_eq_true]at hm
 obtain⟨hok,hm⟩:=hm
 refine⟨hok,?_⟩
 intro g w vs hs hl hv
 cases hf:P.funcs[f]? with
 |none=>rw[hf]at hm;simp at hm
 |some fn=>
  rw[hf]at hm
  simp only at hm
  cases hb:fn.body with
  |none=>rw[hb]at hm;simp at hm
  |some c=>
   rw[hb]at hm
   simp only[Bool.and_eq_true,beq_iff_eq,decide_eq_true_eq]at hm
   obtain⟨⟨⟨h1,h2⟩,h3⟩,h4⟩:=hm
   refine calls_of_wp hf hb ?_
   have he:EnvOk w g (zipE 0 args) { tmps:=vs.toArray++Array.replicate (fn.ntmps-vs.toArray.size) undef,defers:=[] }:=by
    intro t
    rw[Qbfk,if_pos (Nat.zero_le _),Nat.sub_zero]
    by_cases ht:t<args.length
    ·have ht':t<vs.length:=by omega
     have hg:(vs.toArray++Array.replicate (fn.ntmps-vs.toArray.size) undef).getD t undef=vs[t]:=by
      simp[Array.getD,ht',Array.getElem_append]
      intro h;omega
     rw[hg]
     exact hv t _ _ (by rw[List.getD_eq_getElem?_getD,List.getElem?_eq_getElem ht];rfl) (List.getElem?_eq_getElem ht')
    ·rw[List.getD_eq_getElem?_getD,List.getElem?_eq_none (by omega)]
     exact .unk _
   refine wp_mono (Qa0q Qax s c _ (zipE 0 args) H h3 hc g w _ hs he rfl (by simp;omega)) ?_
   rintro x a' w' ⟨x',q1,e2,H2,g2,k1,k2,k3,k4,k5⟩
   have key:Qae rs e2 H2 K→a'.defers=[]∧∃v,(results fn a'.tmps).run P w'=.ok v w'∧(∃v' x H' g',Ending.returned v=.returned v'∧K x H'∧Stp H g w H' g' w'∧RepV w' g' x v'):=by
    intro hret
    obtain⟨v,x,r1,r2,r3⟩:=Qa1y h4 k2.sat k3 hret
    exact⟨k4,v,r1,v,x,H2,g2,rfl,r2,k2,r3⟩
   cases x with
   |normal=>
    simp only[xm,Option.some.injEq]at q1;subst q1
    exact key k1
   |ret=>
    simp only[xm,Option.some.injEq]at q1;subst q1
    exact key k1
   |exit id=>
    simp only[xm,Option.some.injEq]at q1;subst q1
    exact k1.elim
   |_=>simp[xm]at q1
end Go.AE

namespace Go.AE
variable {P:Program}{H:Heap}{e:Env}
def X.sq (P:Program)(b:SC)(Q:X→Env→Heap→Prop):X→Env→Heap→Prop:=X.next (Qab P b Q) Q
theorem Qbgq {b:SC}{Q:X→Env→Heap→Prop}:X.sq P b Q .nrm e H=Qab P b Q e H:=rfl
theorem Qbgr {b:SC}{Q:X→Env→Heap→Prop}:X.sq P b Q .ret e H=Q .ret e H:=rfl
theorem Qbe5 {b:SC}{Q:X→Env→Heap→Prop}{i:Nat}:X.sq P b Q (.exit i) e H=Q (.exit i) e H:=rfl
theorem Qbf2 {i:Nat}{Q:X→Env→Heap→Prop}:X.inBlock i Q .nrm e H=Q .nrm e H:=rfl
theorem Qbf3 {i:Nat}{Q:X→Env→Heap→Prop}:X.inBlock i Q .ret e H=Q .ret e H:=rfl
theorem Qbdw {i:Nat}{Q:X→Env→Heap→Prop}:X.inBlock i Q (.exit i) e H=Q .nrm e H:=by simp[X.inBlock]
theorem Qa9t {i j:Nat}{Q:X→Env→Heap→Prop}(h:(j == i)=false):X.inBlock i Q (.exit j) e H=Q (.exit j) e H:=by
 have:j≠i:=by simpa using h
 simp[X.inBlock,this]
theorem Qh {a b:SC}{Q:X→Env→Heap→Prop}(h:Qab P a (X.sq P b Q) e H):Qab P (.seq a b) Q e H:=h
theorem Qa6p {K K':Env→Heap→Prop}{Q:X→Env→Heap→Prop}:X.next K (X.next K' Q)=X.next K Q:=by
 funext x e H
 cases x <;> rfl
theorem Q1 {a b c:SC}{Q:X→Env→Heap→Prop}(h:Qab P (.seq a (.seq b c)) Q e H):Qab P (.seq (.seq a b) c) Q e H:=by
 simp only[Qab]at h⊢
 rw[Qa6p];exact h
theorem Qq {its:List Item}{keep:List Nat}{Q:X→Env→Heap→Prop}(h:regT P its e H fun e' H'=>Q .nrm (Q9i keep e') H'):Qab P (.reg its keep) Q e H:=h
theorem Qba {fa:Nat}{ord:List Nat}{its:List Item}{keep:List Nat}{Q:X→Env→Heap→Prop}(h:Qkn P its e H fun e' H'=>Q .nrm (Q9i keep e') H'):Qab P (.dreg fa ord its keep) Q e H:=h
theorem Qa {its:List Item}{keep:List Nat}{b:SC}{Q:X→Env→Heap→Prop}(h:regT P its e H fun e' H'=>Qab P b Q (Q9i keep e') H'):Qab P (.seq (.reg its keep) b) Q e H:=h
theorem Qar {fa:Nat}{ord:List Nat}{its:List Item}{keep:List Nat}{b:SC}{Q:X→Env→Heap→Prop}(h:Qkn P its e H fun e' H'=>Qab P b Q (Q9i keep e') H'):Qab P (.seq (.dreg fa ord its keep) b) Q e H:=h
theorem Qf {t:Opd}{a b:SC}{Q:X→Env→Heap→Prop}{c:Bool}(hc:t.raw e=.c (.bool c))(h1:c=true→Qab P a Q e H)(h2:c=false→Qab P b Q e H):Qab P (.cond t a b) Q e H:=⟨c,hc,h1,h2⟩
theorem Qc {i:Nat}{a:SC}{Q:X→Env→Heap→Prop}(h:Qab P a (X.inBlock i Q) e H):Qab P (.block i a) Q e H:=h
theorem Qs {i:Nat}{Q:X→Env→Heap→Prop}(h:Q (.exit i) e H):Qab P (.exit i) Q e H:=h
theorem Qk {Q:X→Env→Heap→Prop}(h:Q .ret e H):Qab P .ret Q e H:=h
theorem Qi {Q:X→Env→Heap→Prop}(h:Q .nrm e H):Qab P .skip Q e H:=h
theorem Qt {a:SC}{Q:X→Env→Heap→Prop}(I:Nat→Env→Heap→Prop)(n:Nat)(h0:I n e H)
  (h:∀n e1 H1,I n e1 H1→Qab P a (X.next (fun e2 H2=>∃m,m<n∧I m e2 H2) Q) e1 H1):Qab P (.loop a) Q e H:=⟨I,⟨n,h0⟩,h⟩
theorem Qa9p {e:Env}:gdO e none=True:=rfl
theorem Qa9o {e:Env}:gdB e none=true:=rfl
theorem Qa9q {p:Bool}{v:V}:gdV none p v=v:=rfl
theorem Qa9r {p:Bool}{v:V}{x:Nat×Bool}:gdV (some x) p v=.gd p v:=rfl
theorem Qbch {e:Env}:Q9i [] e=[]:=rfl
theorem Qa82 {k:Nat}{ks:List Nat}{e:Env}:Q9i (k::ks) e=(k,lk k e)::Q9i ks e:=rfl
theorem Qbci {a:Prop}:(true=true→a)=a:=by simp
theorem Qa4s {a:Prop}:(false=true→a)=True:=by simp
theorem Qa84 {a:Prop}:(true=false→a)=True:=by simp
theorem Qa0w {a:Prop}:(false=false→a)=a:=by simp
theorem Qbgz {a:Prop}:(a∧True)=a:=by simp
theorem Qbhz {a:Prop}:(True∧a)=a:=by simp
theorem Qbh0 {a:Prop}:(True→a)=a:=by simp
theorem Qbhc {a:Prop}:(a→True)=True:=by simp
theorem b_f {b:Bool}:(b == false) = !b:=by cases b <;> rfl
theorem b_t {b:Bool}:(b == true)=b:=by cases b <;> rfl
theorem Qa9v {a:Prop}:(a→a)=True:=by simp
theorem Qa4z {a b:Prop}:(a→b→a)=True:=propext ⟨fun _=>trivial,fun _ h _=>h⟩
theorem Qa40 {a b:Prop}:(a→a∧b)=(a→b):=propext ⟨fun h x=>(h x).2,fun h x=>⟨x,h x⟩⟩
theorem Qbdx {a b:Prop}:(a→a→b)=(a→b):=by simp
theorem Qast {α:Type}{p:α→Prop}:(∀x∈([]:List α),p x)=True:=by simp
def Qarc (H:Heap)(p:C)(vs:List C)(K:V→Heap→Prop):Prop:=
 match p with
 |.ptr l k=>match H l with
  |.st cells=>k+vs.length≤cells.length∧∀H',H'=H.set l (.st (Qpt cells k vs))→K .unk H'
  |_=>False
 |.ep (.vsl l sz st n) z i k=>match H l with
  |.vec y rows=>y=sz∧z=sz∧i<n∧st+n≤rows.length∧k+vs.length≤sz∧
    ∀H',H'=H.set l (.vec sz (rows.set (st+i) (Qpt (rows.getD (st+i) []) k vs)))→K .unk H'
  |_=>False
 |_=>False
def appQ (H:Heap)(sz:Nat)(a b:C)(K:V→Heap→Prop):Prop:=
 okSl H b∧b.elemSz=sz∧match a with
 |.sl true z rows=>z=sz∧(rows=[]∨rowsOf H b≠[])∧(∀r∈rows++rowsOf H b,noOw r=true)∧rows.length+lenC b≤LIM∧
   ∀l,H l=.none→∀H',H'=H.set l (.vec sz (rows++rowsOf H b))→K (.c (.vsl l sz 0 (rows.length+lenC b))) H'
 |.vsl l z st n=>match H l with
  |.vec y rows=>z=sz∧y=sz∧st+n≤rows.length∧(∀r∈rowsOf H b,noOw r=true)∧n+lenC b≤LIM∧
    ∀l',(H.set l .none) l'=.none→∀H',H'=(H.set l .none).set l' (.vec sz ((rows.drop st).take n++rowsOf H b))→
     K (.c (.vsl l' sz 0 (n+lenC b))) H'
  |_=>False
 |_=>False
def updQ (H:Heap)(tag:Nat)(m k:C)(v:V)(K:V→Heap→Prop):Prop:=
 match m with
 |.mp l=>match H l with
  |.map n es=>Qru tag k es∧es.length+1≤LIM∧∀H',H'=H.set l (.map (n+1) (updE k v es))→K .unk H'
  |_=>False
 |_=>False
def delQ (H:Heap)(tag:Nat)(m k:C)(K:V→Heap→Prop):Prop:=
 match m with
 |.mp l=>match H l with
  |.map n es=>Qru tag k es∧∀H',H'=H.set l (.map (n+1) (delE k es))→K .unk H'
  |_=>False
 |.mnil=>Qru tag k []∧K .unk H
 |_=>False
theorem Qa9 {α:Type}{a:α}{p:α→Prop}:(∀x,x=a→p x)=p a:=propext ⟨fun h=>h a rfl,fun h x hx=>hx▸h⟩
section
variable {p:Bool}{K:V→Heap→Prop}
theorem Qa8x {a:C}{vs:List C}:Q9d H a vs K=Qarc H a vs K:=by
 cases a with
 |ptr l k=>simp only[Q9d,Qarc];cases hh:H l <;> simp only[hh,Qa9]
 |ep s z i k=>
  cases s with
  |vsl l sz st n=>simp only[Q9d,Qarc];cases hh:H l <;> simp only[hh,Qa9]
  |_=>rfl
 |_=>rfl
theorem Qbc9 {sz:Nat}{a b:C}:appT H sz a b K=appQ H sz a b K:=by
 unfold appT appQ
 refine congrArg (And _) (congrArg (And _) ?_)
 cases a with
 |sl fl z rows=>cases fl <;> simp only[Qa9]
 |vsl l z st n=>simp only[];cases hh:H l <;> simp only[hh,Qa9]
 |_=>rfl
theorem Qbfb {tag:Nat}{m k:C}{v:V}:updT H tag m k v K=updQ H tag m k v K:=by
 cases m with
 |mp l=>simp only[updT,updQ];cases hh:H l <;> simp only[hh,Qa9]
 |_=>rfl
theorem Qbdg {tag:Nat}{m k:C}:delT H tag m k K=delQ H tag m k K:=by
 cases m with
 |mp l=>simp only[delT,delQ];cases hh:H l <;> simp only[hh,Qa9]
 |_=>rfl
theorem Qa4o {cells:List C}:(EOp.alloc cells).eff P p e H K=∀l,H l=.none→∀H',H'=H.set l (.st cells)→K (.c (.ptr l 0)) H':=by simp only[EOp.eff,Qa9]
theorem Qa9f {a:Opd}:(EOp.boxm a).eff P p e H K=(a.fine p e∧(a.v e).cells≠[]∧∀l,H l=.none→∀H',H'=H.set l (.st (a.v e).cells)→K (.c (.ptr l 0)) H'):=by simp only[EOp.eff,Qa9]
theorem Qbds {n:Nat}{a v:Opd}:(EOp.sto n a v).eff P p e H K=(a.fine p e∧v.fine p e∧(a.v e).isC∧(v.v e).cells.length=n∧0<n∧Qarc H (a.v e).c1 (v.v e).cells K):=by simp only[EOp.eff,Qa8x]
theorem Qbdl {sz:Nat}{a b:Opd}:(EOp.app sz a b).eff P p e H K=(a.fine p e∧b.fine p e∧(a.v e).isC∧(b.v e).isC∧appQ H sz (a.v e).c1 (b.v e).c1 K):=by simp only[EOp.eff,Qbc9]
theorem Qbdp {sz:Nat}{zero:List C}{n:Opd}:(EOp.mks sz zero n).eff P p e H K=(n.fine p e∧Quy (n.v e)∧0≤Qaf (n.v e)∧Qaf (n.v e)≤LIM∧
   ∀l,H l=.none→∀H',H'=H.set l (.vec sz (List.replicate (Qaf (n.v e)).toNat zero))→K (.c (.vsl l sz 0 (Qaf (n.v e)).toNat)) H'):=by simp only[EOp.eff,Qa9]
theorem Qbdo:EOp.mkm.eff P p e H K=∀l,H l=.none→∀H',H'=H.set l (.map 0 [])→K (.c (.mp l)) H':=by simp only[EOp.eff,Qa9]
theorem Qbdt {tag:Nat}{m k v:Opd}:(EOp.upd tag m k v).eff P p e H K=(m.fine p e∧k.fine p e∧v.fine p e∧(m.v e).isC∧(k.v e).isC∧(v.v e).cells≠[]∧updQ H tag (m.v e).c1 (k.v e).c1 (v.v e) K):=by simp only[EOp.eff,Qbfb]
theorem Qbdm {tag:Nat}{m k:Opd}:(EOp.del tag m k).eff P p e H K=(m.fine p e∧k.fine p e∧(m.v e).isC∧(k.v e).isC∧delQ H tag (m.v e).c1 (k.v e).c1 K):=by simp only[EOp.eff,Qbdg]
theorem Qa9i {m:Opd}:(EOp.clrm m).eff P p e H K=(m.fine p e∧match m.v e with
  |.c (.mp l)=>match H l with
   |.map n _=>∀H',H'=H.set l (.map (n+1) [])→K .unk H'
   |_=>False
  |_=>False):=by
 simp only[EOp.eff]
 refine congrArg (And _) ?_
 cases m.v e with
 |c x=>cases x with
  |mp l=>simp only[];cases hh:H l <;> simp only[hh,Qa9]
  |_=>rfl
 |_=>rfl
theorem Qa9j {sz:Nat}{zero:List C}{m:Opd}:(EOp.clrs sz zero m).eff P p e H K=(m.fine p e∧match m.v e with
  |.c (.vsl l z st n)=>z=sz∧match H l with
   |.vec y rows=>y=sz∧st+n≤rows.length∧∀H',H'=H.set l (.vec sz (rows.take st++List.replicate n zero++rows.drop (st+n)))→K .unk H'
   |_=>False
  |_=>False):=by
 simp only[EOp.eff]
 refine congrArg (And _) ?_
 cases m.v e with
 |c x=>cases x with
  |vsl l z st n=>simp only[];refine congrArg (And _) ?_;cases hh:H l <;> simp only[hh,Qa9]
  |_=>rfl
 |_=>rfl
theorem Qa9h {f:Nat}{args:List Opd}:(EOp.call f args).eff P p e H K=((∀x∈args,x.fine p e)∧Qw P f (args.map fun x=>x.v e) H K):=rfl
theorem Qa4p {f:Opd}{args:List Opd}:(EOp.callv f args).eff P p e H K=(f.fine p e∧(∀x∈args,x.fine p e)∧match f.v e with
  |.c (.fn n caps)=>Qw P n ((args.map fun x=>x.v e)++caps.map .c) H K
  |_=>False):=rfl
theorem Qbdr {m:Opd}:(EOp.rng m).eff P p e H K=(m.fine p e∧match m.v e with
  |.c (.mp l)=>match H l with
   |.map n es=>es.Nodup∧∀i,H i=.none→∀H',H'=H.set i (.iter (some (l,n)) es none)→K (.c (.itr i)) H'
   |_=>False
  |.c .mnil=>∀i,H i=.none→∀H',H'=H.set i (.iter none [] none)→K (.c (.itr i)) H'
  |_=>False):=by
 simp only[EOp.eff]
 refine congrArg (And _) ?_
 cases m.v e with
 |c x=>cases x with
  |mp l=>simp only[];cases hh:H l <;> simp only[hh,Qa9]
  |mnil=>simp only[Qa9]
  |_=>rfl
 |_=>rfl
theorem Qbdq {it:Opd}:(EOp.nxt it).eff P p e H K=(it.fine p e∧match it.v e with
  |.c (.itr i)=>match H i with
   |.iter none left _=>K (.tup [.c (.bool false)]) H
   |.iter (some (l,n)) left cur=>(∃es,H l=.map n es)∧(left=[]→K (.tup [.c (.bool false)]) H)∧
     ∀x left',x∈left→(∀y,y∈left'↔y∈left∧y≠x)→left'.Nodup→left'.length+1=left.length→
      ∀H',H'=H.set i (.iter (some (l,n)) left' (some x))→K (.tup [.c (.bool true),.c x.1,x.2]) H'
   |_=>False
  |_=>False):=by
 simp only[EOp.eff]
 refine congrArg (And _) ?_
 cases it.v e with
 |c x=>cases x with
  |itr i=>
   simp only[]
   cases hh:H i with
   |iter m left cur=>cases m with
    |none=>rfl
    |some y=>simp only[Qa9]
   |_=>rfl
  |_=>rfl
 |_=>rfl
theorem Qbdn {it:Opd}:(EOp.ent it).eff P p e H K=(it.fine p e∧match it.v e with
  |.c (.itr i)=>match H i with
   |.iter (some (l,n)) left (some x)=>(∃es,H l=.map n es)∧K (.tup [.c x.1,x.2]) H
   |_=>False
  |_=>False):=rfl
theorem Qa9g {sz:Nat}{parts:List Opd}:(EOp.bslm sz parts).eff P p e H K=((∀x∈parts,x.fine p e∧(x.v e).cells.length=sz)∧∀l,H l=.none→∀H',H'=H.set l (.vec sz (parts.map fun x=>(x.v e).cells))→K (.c (.vsl l sz 0 parts.length)) H'):=by simp only[EOp.eff,Qa9]
theorem Qa9k {a:Opd}:(EOp.nilq a).eff P p e H K=(a.fine p e∧match a.v e with
  |.c (.sl _ _ rows)=>∀b:Bool,(b=true→rows=[])→K (.c (.bool b)) H
  |_=>False):=rfl
end
theorem Qa90 {k:IntKind}{n:Int}:(C.int k n).isOw=false:=rfl
theorem Qa43 {b:Bool}:(C.bool b).isOw=false:=rfl
theorem Qa93 {s:List UInt8}:(C.str s).isOw=false:=rfl
theorem Qbd5 {f:Bool}{sz:Nat}{r:List (List C)}:(C.sl f sz r).isOw=false:=rfl
theorem Qbd4 {c:List C}:(C.pp c).isOw=false:=rfl
theorem Qbd0 {c:C}{a i k:Nat}:(C.ep c a i k).isOw=false:=rfl
theorem Qa46:C.pnil.isOw=false:=rfl
theorem Qa92 {l k:Nat}:(C.ptr l k).isOw=false:=rfl
theorem Qbx {l a b c:Nat}:(C.vsl l a b c).isOw=false:=rfl
theorem Qbd2 {l:Nat}:(C.mp l).isOw=false:=rfl
theorem Qa45:C.mnil.isOw=false:=rfl
theorem Qbd1 {f:Nat}{c:List C}:(C.fn f c).isOw=false:=rfl
theorem Qa44:C.fnil.isOw=false:=rfl
theorem Qa91 {l:Nat}:(C.itr l).isOw=false:=rfl
theorem Qa94:C.unk.isOw=false:=rfl
theorem Qbd3 {sz:Nat}{r:List (List C)}:(C.ow sz r).isOw=true:=rfl
theorem Qbed {f:Bool}{sz:Nat}{r:List (List C)}:lenC (.sl f sz r)=r.length:=rfl
theorem Qbak {l a b c:Nat}:lenC (.vsl l a b c)=c:=rfl
theorem Qa4q {f:Bool}{sz:Nat}{r:List (List C)}:(C.sl f sz r).elemSz=sz:=rfl
theorem Qa0u {l a b c:Nat}:(C.vsl l a b c).elemSz=a:=rfl
theorem Qa62 {f:Bool}{sz:Nat}{r:List (List C)}:rowsOf H (.sl f sz r)=r:=rfl
theorem Qa11 {l a st n:Nat}:rowsOf H (.vsl l a st n)=match H l with
  |.vec _ rows=>(rows.drop st).take n
  |_=>[]:=rfl
theorem Qber {f:Bool}{sz:Nat}{r:List (List C)}:okSl H (.sl f sz r)=True:=rfl
theorem Qba7 {l sz st n:Nat}:okSl H (.vsl l sz st n)=match H l with
  |.vec z rows=>z=sz∧st+n≤rows.length
  |_=>False:=rfl
section
variable {K:V→Heap→Prop}
theorem Qbda {sz z:Nat}{rows:List (List C)}{b:C}:appQ H sz (.sl true z rows) b K=(okSl H b∧b.elemSz=sz∧z=sz∧(rows=[]∨rowsOf H b≠[])∧(∀r∈rows++rowsOf H b,noOw r=true)∧rows.length+lenC b≤LIM∧
   ∀l,H l=.none→∀H',H'=H.set l (.vec sz (rows++rowsOf H b))→K (.c (.vsl l sz 0 (rows.length+lenC b))) H'):=rfl
theorem Qa9a {sz l z st n:Nat}{b:C}:appQ H sz (.vsl l z st n) b K=(okSl H b∧b.elemSz=sz∧match H l with
  |.vec y rows=>z=sz∧y=sz∧st+n≤rows.length∧(∀r∈rowsOf H b,noOw r=true)∧n+lenC b≤LIM∧
    ∀l',(H.set l .none) l'=.none→∀H',H'=(H.set l .none).set l' (.vec sz ((rows.drop st).take n++rowsOf H b))→
     K (.c (.vsl l' sz 0 (n+lenC b))) H'
  |_=>False):=rfl
end
theorem Qbe4 {lo hi:Option Int}{fl:Bool}{sz:Nat}{rows:List (List C)}:sliC lo hi (.sl fl sz rows)=.sl (fl&&(hi.isNone || rows.isEmpty)) sz ((rows.take (hi.getD rows.length).toNat).drop (lo.getD 0).toNat):=rfl
theorem Qbca {lo hi:Option Int}{l sz st n:Nat}:sliC lo hi (.vsl l sz st n)=.vsl l sz (st+(lo.getD 0).toNat) ((hi.getD n).toNat-(lo.getD 0).toNat):=rfl
attribute [go_sem] b_f b_t Qa9v Qa4z Qa40 Qbdx regT Qkn Q19 lk Qa9p Qa9o Qa9q Qa9r gdO gdB Opd.v Opd.raw Opd.fine V.bare V.fine FOp.val FOp.obl FOp.fct Qa4o Qa9f Qbds Qbdl Qbdp Qbdo Qbdt Qbdm Qa9i Qa9j Qa9h Qa4p Qbdr Qbdq Qbdn Qa9k Qa9g Qbch Qa82
 V.c1 V.isC V.isAg V.cells Qfs Qa1r fadC binC binO Qa1b noOw Qarc Qbda Qa9a updQ delQ zipE Qrx Qbe4 Qbca bnds Qber Qba7 Qbed Qbak Qa62 Qa11 Qa4q Qa0u Qa90 Qa43 Qa93 Qbd5 Qbd4 Qbd0 Qa46 Qa92 Qbx Qbd2 Qa45 Qbd1 Qa44 Qa91 Qa94 Qbd3 Quy Qa9y Qaf Qbbe Qbci Qa4s Qa84 Qa0w Qbgz Qbhz Qbh0 Qbhc
 Qbgq Qbgr Qbe5 Qbf2 Qbf3 Qbdw List.map_cons List.map_nil Qpt List.take_succ_cons List.take_zero List.take_nil List.drop_succ_cons List.drop_zero List.drop_nil
 List.length_cons List.length_nil List.all_cons List.all_nil List.headD_cons Bool.not_false Bool.not_true Bool.and_true Bool.true_and Bool.and_false Bool.false_and and_self eq_self Bool.false_eq_true List.cons_append List.nil_append Nat.zero_le Nat.le_refl not_true_eq_false not_false_eq_true ite_true ite_false ne_eq Option.map_some Option.map_none Option.getD_some Option.getD_none Option.isNone_some Option.isNone_none List.isEmpty_nil List.isEmpty_cons Bool.or_true Bool.true_or Bool.or_false Bool.false_or optI optF Int.toNat_natCast Int.natCast_nonneg Int.add_sub_cancel List.forall_mem_cons Qast
end Go.AE

namespace Go.AE
abbrev fI (d : Nat) (o : FOp) : Item := .f (some d) none o
abbrev eI (d : Nat) (o : EOp) : Item := .e (some d) none o
abbrev gT (d t : Nat) (o : FOp) : Item := .f (some d) (some (t, true)) o
abbrev gF (d t : Nat) (o : FOp) : Item := .f (some d) (some (t, false)) o
abbrev kI (n : Int) : Opd := .k (.c (.int .i64 n))
abbrev mJ (d a : Nat) : Item := .f (some d) none (.mv (.t a))
abbrev fJ (d n a : Nat) : Item := .f (some d) none (.fad n (.t a))
abbrev lJ (d a : Nat) : Item := .f (some d) none (.ld 1 false (.t a))
abbrev tJ (d n a : Nat) : Item := .f (some d) none (.ld n true (.t a))
abbrev nJ (d a : Nat) : Item := .f (some d) none (.len (.t a))
abbrev kJ (d a : Nat) : Item := .f (some d) none (.nck (.t a))
abbrev oJ (d a : Nat) : Item := .f (some d) none (.not (.t a))
abbrev iJ (d n a b : Nat) : Item := .f (some d) none (.iad n (.t a) (.t b))
abbrev bJ (d : Nat) (o : BinOp) (a b : Nat) : Item := .f (some d) none (.bin 0 o (.t a) (.t b))
abbrev cJ (d : Nat) (o : BinOp) (a : Nat) (n : Int) : Item := .f (some d) none (.bin 0 o (.t a) (.k (.c (.int .i64 n))))
abbrev gTm (d g a : Nat) : Item := .f (some d) (some (g, true)) (.mv (.t a))
abbrev gFm (d g a : Nat) : Item := .f (some d) (some (g, false)) (.mv (.t a))
abbrev gTf (d g n a : Nat) : Item := .f (some d) (some (g, true)) (.fad n (.t a))
abbrev gFf (d g n a : Nat) : Item := .f (some d) (some (g, false)) (.fad n (.t a))
abbrev gTl (d g a : Nat) : Item := .f (some d) (some (g, true)) (.ld 1 false (.t a))
abbrev gFl (d g a : Nat) : Item := .f (some d) (some (g, false)) (.ld 1 false (.t a))
abbrev aJ (d f : Nat) (l : List Opd) : Item := .e (some d) none (.call f l)
theorem Qbgt : Int.toNat 0 = 0 := rfl
theorem Qbgu : Int.toNat 1 = 1 := rfl
theorem Qbe8 : Int.toNat 2000 = 2000 := rfl
attribute [go_sem] mJ fJ lJ tJ nJ kJ oJ iJ bJ cJ gTm gFm gTf gFf gTl gFl aJ fI eI gT gF kI false_implies Qbgt Qbgu Qbe8
end Go.AE

namespace Go.AE
variable {P:Program}{H:Heap}{g:G}{w:World}{e:Env}
def Obj.used:Obj→Bool
 |.none=>false
 |_=>true
def Heap.frz (H:Heap)(S:Nat→Bool):Heap:=fun l=>if S l then .none else H l
def G.frz (g:G)(H:Heap)(S:Nat→Bool):G:=
 { g with
  per:=fun b=>g.per b || (match g.own b with
   |some (l,_)=>S l&&(H l).used
   |none=>false)
  own:=fun b=>match g.own b with
   |some (l,p)=>if S l&&(H l).used then none else some (l,p)
   |none=>none }
theorem Qbcs (H:Heap)(S:Nat→Bool)(g:G)(w:World):Le g w (g.frz H S) w:=
 ⟨fun b h=>⟨by simp[G.frz,h],rfl⟩,fun _ _ h=>h,Nat.le_refl _,fun _ _ _ h=>h,rfl,rfl,rfl⟩
theorem Qk5 {S:Nat→Bool}{m:Nat}(hm:¬(S m=true∧(H m).used=true)):Qud g w (g.frz H S) w m:=by
 intro b q hb
 refine⟨?_,rfl⟩
 have:¬(S m&&(H m).used)=true:=by simpa using hm
 simp only[G.frz,hb]
 rw[if_neg this]
theorem Qa8z (hs:Sat H g w)(S:Nat→Bool):Stp H g w (H.frz S) (g.frz H S) w:=by
 have hle:=Qbcs H S g w
 refine⟨hle,fun m hm hn=>?_,⟨fun b hb=>?_,hs.names,fun b x hb=>?_,fun b m p hb=>?_,fun m=>?_⟩⟩
 ·refine⟨by simp only[Heap.frz,hn];split <;> rfl,?_⟩
  exact Qk5 (by rw[hn];simp[Obj.used])
 ·obtain⟨h1,h2⟩:=hs.fresh b hb
  simp[G.frz,h1,h2]
 ·have hb':(match g.own b with
   |some (l,p)=>if S l&&(H l).used then none else some (l,p)
   |none=>none)=some x:=hb
  show (g.per b || (match g.own b with
   |some (l,_)=>S l&&(H l).used
   |none=>false))=false
  cases ho:g.own b with
  |none=>rw[ho]at hb';simp at hb'
  |some y=>
   obtain⟨l,p⟩:=y
   rw[ho]at hb'
   simp only at hb'⊢
   have:=hs.excl b _ ho
   by_cases hx:(S l&&(H l).used)=true
   ·rw[if_pos hx]at hb';simp at hb'
   ·simp[this,hx]
 ·have hb':(match g.own b with
   |some (l,p)=>if S l&&(H l).used then none else some (l,p)
   |none=>none)=some (m,p):=hb
  cases ho:g.own b with
  |none=>rw[ho]at hb';simp at hb'
  |some y=>
   obtain⟨l,q⟩:=y
   rw[ho]at hb'
   simp only at hb'
   by_cases hx:(S l&&(H l).used)=true
   ·rw[if_pos hx]at hb';simp at hb'
   ·rw[if_neg hx]at hb'
    simp at hb';obtain⟨rfl,rfl⟩:=hb'
    exact hs.named b _ _ ho
 ·by_cases hS:S m=true
  ·simp[Heap.frz,hS,SatObj]
  ·have hH':H.frz S m=H m:=by simp[Heap.frz,hS]
   have hk:Qud g w (g.frz H S) w m:=Qk5 (by simp[hS])
   refine SatObj.keep (H':=H.frz S) hs hle hk hH' fun m' v left cur hc v' es hv=>?_
   by_cases hS':S m'=true
   ·simp[Heap.frz,hS']at hv
   ·have:H.frz S m'=H m':=by simp[Heap.frz,hS']
    rw[this]at hv
    exact .inl ⟨hv,Qk5 (by simp[hS'])⟩
inductive FrzC (H:Heap)(S:Nat→Bool):C→C→Prop
 |same (c:C) (h:c.isOw=false):FrzC H S c c
 |sl (fl:Bool) (sz:Nat) (rows rows':List (List C)) (hl:rows'.length=rows.length) (hr:∀(i:Nat) (r r':List C),rows[i]? = some r→rows'[i]? = some r'→r'.length=r.length)
   (hc:∀(i:Nat) (r r':List C) (j:Nat) (c c':C),rows[i]? = some r→rows'[i]? = some r'→r[j]? = some c→r'[j]? = some c'→FrzC H S c c'):FrzC H S (.sl fl sz rows) (.sl false sz rows')
 |pp (cells cells':List C) (hl:cells'.length=cells.length) (hc:∀(j:Nat) (c c':C),cells[j]? = some c→cells'[j]? = some c'→FrzC H S c c'):FrzC H S (.pp cells) (.pp cells')
 |vsl (l sz st n:Nat) (all rows rows':List (List C)) (hS:S l=true) (hH:H l=.vec sz all) (hb:st+n≤all.length) (hrows:rows=(all.drop st).take n)
   (hl:rows'.length=rows.length) (hr:∀(i:Nat) (r r':List C),rows[i]? = some r→rows'[i]? = some r'→r'.length=r.length)
   (hc:∀(i:Nat) (r r':List C) (j:Nat) (c c':C),rows[i]? = some r→rows'[i]? = some r'→r[j]? = some c→r'[j]? = some c'→FrzC H S c c'):FrzC H S (.vsl l sz st n) (.sl false sz rows')
 |ptr (l k:Nat) (all cells cells':List C) (hS:S l=true) (hH:H l=.st all) (hcells:cells=all.drop k) (hl:cells'.length=cells.length)
   (hc:∀(j:Nat) (c c':C),cells[j]? = some c→cells'[j]? = some c'→FrzC H S c c'):FrzC H S (.ptr l k) (.pp cells')
 |ow (sz:Nat) (rows rows':List (List C)) (hl:rows'.length=rows.length) (hr:∀(i:Nat) (r r':List C),rows[i]? = some r→rows'[i]? = some r'→r'.length=r.length)
   (hc:∀(i:Nat) (r r':List C) (j:Nat) (c c':C),rows[i]? = some r→rows'[i]? = some r'→r[j]? = some c→r'[j]? = some c'→FrzC H S c c'):FrzC H S (.ow sz rows) (.sl false sz rows')
theorem Qad {α:Type}{l l':List α}(h:l'.length=l.length){i:Nat}{x:α}(hx:l'[i]? = some x):∃y,l[i]? = some y:=by
 have:i<l'.length:=(List.getElem?_eq_some_iff.1 hx).1
 exact⟨l[i]'(by omega),List.getElem?_eq_getElem (by omega)⟩
theorem Qar2 {S:Nat→Bool}{b l:Nat}{p:List Nat}(ho:g.own b=some (l,p))(hS:S l=true)(hu:(H l).used=true):(g.frz H S).per b=true:=by
 simp[G.frz,ho,hS,hu]
theorem Qar3 (hs:Sat H g w){S:Nat→Bool}{c c':C}(h:FrzC H S c c') :
  (∀v,RepC w g c v→RepC w (g.frz H S) c' v)∧∀l p v,S l=true→(H l).used=true→RepO w g l p c v→RepC w (g.frz H S) c' v:=by
 have hle:=Qbcs H S g w
 induction h with
 |same c h=>
  refine⟨fun v hv=>hv.mono hle,fun l p v _ _ hv=>?_⟩
  exact (hv.plain_of fun sz rows hc=>by subst hc;simp[C.isOw]at h).mono hle
 |sl fl sz rows rows' hl hr hc ih=>
  have key:∀v,RepC w g (.sl fl sz rows) v→RepC w (g.frz H S) (.sl false sz rows') v:=by
   intro v hv
   cases hv with
   |slnil _ _ ad=>
    have:rows'=[]:=List.length_eq_zero_iff.1 (by simpa using hl)
    subst this;exact .slnil _ _ _
   |sl _ _ _ b off cap val h1 h2 h3 h4 h5 h6 h7=>
    rw[←hl]at h1 h2 h3⊢
    refine .sl false sz rows' b off cap val h1 (by simp) h3 (hle.per b h4).1 (fun i r' hr'=>?_) (fun i r' j c' hr' hc'=>?_) (fun i r' j c' hr' hc'=>?_)
    ·obtain⟨r,hr0⟩:=Qad hl hr'
     rw[hr i r r' hr0 hr'];exact h5 i r hr0
    ·obtain⟨r,hr0⟩:=Qad hl hr'
     obtain⟨c,hc0⟩:=Qad (hr i r r' hr0 hr') hc'
     exact h6 i r j c hr0 hc0
    ·obtain⟨r,hr0⟩:=Qad hl hr'
     obtain⟨c,hc0⟩:=Qad (hr i r r' hr0 hr') hc'
     exact (ih i r r' j c c' hr0 hr' hc0 hc').1 _ (h7 i r j c hr0 hc0)
  exact⟨key,fun l p v _ _ hv=>key v (hv.plain_of fun _ _ hc=>by simp at hc)⟩
 |pp cells cells' hl hc ih=>
  have key:∀v,RepC w g (.pp cells) v→RepC w (g.frz H S) (.pp cells') v:=by
   intro v hv
   cases hv with
   |pp _ b off val h1 h2 h3=>
    refine .pp cells' b off val (hle.per b h1).1 (fun j c' hc'=>?_) (fun j c' hc'=>?_)
    ·obtain⟨c,hc0⟩:=Qad hl hc'
     exact h2 j c hc0
    ·obtain⟨c,hc0⟩:=Qad hl hc'
     exact (ih j c c' hc0 hc').1 _ (h3 j c hc0)
  exact⟨key,fun l p v _ _ hv=>key v (hv.plain_of fun _ _ hc=>by simp at hc)⟩
 |vsl l sz st n all rows rows' hS hH hb hrows hl hr hc ih=>
  have key:∀v,RepC w g (.vsl l sz st n) v→RepC w (g.frz H S) (.sl false sz rows') v:=by
   intro v hv
   have hlen:rows.length=n:=by rw[hrows];simp;omega
   cases hv with
   |vslnil _ _ _ ad=>
    have:rows'=[]:=List.length_eq_zero_iff.1 (by omega)
    subst this;exact .slnil _ _ _
   |vsl _ _ _ _ cap b base T m h1 h2 h3 h4=>
    have hob:=hs.objs l
    rw[hH]at hob
    obtain⟨b',base',T',cs,val,r1,r2,r3,r4,r5,r6,r7,r8⟩:=SatVec.of hob h1
    rw[h1]at r1
    simp only[Option.some.injEq,Prod.mk.injEq,true_and]at r1
    obtain⟨rfl,rfl⟩:=r1
    have hper:=Qar2 (g:=g) (H:=H) r2 hS (by rw[hH];rfl)
    have hget:∀(i:Nat) (r:List C),rows[i]? = some r→all[st+i]? = some r:=by
     intro i r hi
     rw[hrows,List.getElem?_take]at hi
     split at hi
     ·rw[List.getElem?_drop]at hi;exact hi
     ·simp at hi
    have hn:n=rows'.length:=by omega
    rw[hn]at h2⊢
    refine .sl false sz rows' b (base+st * sz) cap (fun i j=>val (st+i) j) (by omega) (by simp) h2 hper (fun i r' hr'=>?_) (fun i r' j c' hr' hc'=>?_) (fun i r' j c' hr' hc'=>?_)
    ·obtain⟨r,hr0⟩:=Qad hl hr'
     rw[hr i r r' hr0 hr'];exact r6 _ r (hget i r hr0)
    ·obtain⟨r,hr0⟩:=Qad hl hr'
     obtain⟨c,hc0⟩:=Qad (hr i r r' hr0 hr') hc'
     rw[Qcv r3,show base+st * sz+i * sz+j=base+(st+i) * sz+j by rw[Nat.add_mul];omega]
     exact r7 _ r j c (hget i r hr0) hc0
    ·obtain⟨r,hr0⟩:=Qad hl hr'
     obtain⟨c,hc0⟩:=Qad (hr i r r' hr0 hr') hc'
     exact (ih i r r' j c c' hr0 hr' hc0 hc').2 l _ _ hS (by rw[hH];rfl) (r8 _ r j c (hget i r hr0) hc0)
  exact⟨key,fun l p v _ _ hv=>key v (hv.plain_of fun _ _ hc=>by simp at hc)⟩
 |ptr l k all cells cells' hS hH hcells hl hc ih=>
  have key:∀v,RepC w g (.ptr l k) v→RepC w (g.frz H S) (.pp cells') v:=by
   intro v hv
   cases hv with
   |ptr _ _ b sz base h1=>
    have hob:=hs.objs l
    rw[hH]at hob
    obtain⟨b',sz',T,cs,r1,r2,r3,r4,r5⟩:=hob
    rw[h1]at r1
    simp only[Option.some.injEq,Prod.mk.injEq]at r1
    obtain⟨rfl,rfl,rfl⟩:=r1
    have hper:=Qar2 (g:=g) (H:=H) r2 hS (by rw[hH];rfl)
    have hget:∀(j:Nat) (c:C),cells[j]? = some c→all[k+j]? = some c:=by
     intro j c hj
     rw[hcells,List.getElem?_drop]at hj;exact hj
    have hcs:∀(j:Nat) (c:C),all[j]? = some c→cs[j]? = some (cs.getD j undef):=by
     intro j c hj
     have hlt:j<cs.size:=by rw[r4];exact (List.getElem?_eq_some_iff.1 hj).1
     rw[Array.getElem?_eq_getElem hlt,Array.getD_eq_getD_getElem?,Array.getElem?_eq_getElem hlt];rfl
    refine .pp cells' b (0+k) (fun j=>cs.getD (k+j) undef) hper (fun j c' hc'=>?_) (fun j c' hc'=>?_)
    ·obtain⟨c,hc0⟩:=Qad hl hc'
     rw[Qcv r3,show 0+k+j=k+j by omega]
     exact hcs _ c (hget j c hc0)
    ·obtain⟨c,hc0⟩:=Qad hl hc'
     exact (ih j c c' hc0 hc').2 l _ _ hS (by rw[hH];rfl) (r5 _ c _ (hget j c hc0) (hcs _ c (hget j c hc0)))
  exact⟨key,fun l p v _ _ hv=>key v (hv.plain_of fun _ _ hc=>by simp at hc)⟩
 |ow sz rows rows' hl hr hc ih=>
  refine⟨fun v hv=>(by cases hv),fun l p v hS hu hv=>?_⟩
  cases hv with
  |plain _ _ _ h=>cases h
  |ownil _ _ ad=>
   have:rows'=[]:=List.length_eq_zero_iff.1 (by simpa using hl)
   subst this;exact .slnil _ _ _
  |ow _ _ _ b off cap T cs val h1 h2 h3 h4 h5 h6 h7 h8=>
   have hper:=Qar2 (g:=g) (H:=H) h3 hS hu
   rw[←hl]at h1 h2⊢
   refine .sl false sz rows' b off cap val h1 (by simp) h2 hper (fun i r' hr'=>?_) (fun i r' j c' hr' hc'=>?_) (fun i r' j c' hr' hc'=>?_)
   ·obtain⟨r,hr0⟩:=Qad hl hr'
    rw[hr i r r' hr0 hr'];exact h6 i r hr0
   ·obtain⟨r,hr0⟩:=Qad hl hr'
    obtain⟨c,hc0⟩:=Qad (hr i r r' hr0 hr') hc'
    rw[Qcv h4];exact h7 i r j c hr0 hc0
   ·obtain⟨r,hr0⟩:=Qad hl hr'
    obtain⟨c,hc0⟩:=Qad (hr i r r' hr0 hr') hc'
    exact (ih i r r' j c c' hr0 hr' hc0 hc').2 l _ _ hS hu (h8 i r j c hr0 hc0)
inductive FrzV (H:Heap)(S:Nat→Bool):V→V→Prop
 |c (a b:C) (h:FrzC H S a b):FrzV H S (.c a) (.c b)
 |ag (cs cs':List C) (hl:cs'.length=cs.length) (h:∀(j:Nat) (c c':C),cs[j]? = some c→cs'[j]? = some c'→FrzC H S c c'):FrzV H S (.ag cs) (.ag cs')
 |tup (xs xs':List V) (hl:xs'.length=xs.length) (h:∀(j:Nat) (x x':V),xs[j]? = some x→xs'[j]? = some x'→FrzV H S x x'):FrzV H S (.tup xs) (.tup xs')
 |unk (x:V):FrzV H S x .unk
theorem Qaer (hs:Sat H g w){S:Nat→Bool}{x x':V}(h:FrzV H S x x'):∀v,RepV w g x v→RepV w (g.frz H S) x' v:=by
 induction h with
 |c a b h=>
  intro v hv
  exact .c _ _ ((Qar3 hs h).1 v hv.c_inv)
 |ag cs cs' hl h=>
  intro v hv
  cases hv with
  |ag _ vs h1 h2=>
   refine .ag cs' vs (by omega) fun j c' u hc' hu=>?_
   obtain⟨c,hc⟩:=Qad hl hc'
   exact (Qar3 hs (h j c c' hc hc')).1 u (h2 j c u hc hu)
 |tup xs xs' hl h ih=>
  intro v hv
  cases hv with
  |tup _ vs h1 h2=>
   refine .tup xs' vs (by omega) fun j x' u hx' hu=>?_
   obtain⟨x,hx⟩:=Qad hl hx'
   exact ih j x x' hx hx' u (h2 j x u hx hu)
 |unk x=>exact fun v _=>.unk v
theorem Qa4a {f:Nat}{args:List V}{K:V→Heap→Prop}(h:Qw P f args H fun x H'=>∃S x',FrzV H' S x x'∧K x' (H'.frz S)):Qw P f args H K:=by
 refine⟨h.1,fun g w vs hs hl hv=>?_⟩
 refine Calls.mono (h.2 g w vs hs hl hv) ?_
 rintro e w' ⟨v,x,H',g',he,⟨S,x',hf,hk⟩,hst,hr⟩
 exact⟨v,x',H'.frz S,g'.frz H' S,he,hk,hst.trans (Qa8z hst.sat S),Qaer hst.sat hf v hr⟩
theorem Qa0m {f:Nat}{args:List V}{K K':V→Heap→Prop}(h:Qw P f args H K)(hk:∀x H',K x H'→K' x H'):Qw P f args H K':=by
 refine⟨h.1,fun g w vs hs hl hv=>?_⟩
 refine Calls.mono (h.2 g w vs hs hl hv) ?_
 rintro e w' ⟨v,x,H',g',he,hx,hst,hr⟩
 exact⟨v,x,H',g',he,hk x H' hx,hst,hr⟩
end Go.AE

namespace Go.AE
variable {P:Program}{H:Heap}{g:G}{w:World}{e:Env}
def FrzK (H:Heap)(S:Nat→Bool)(c c':C):Prop:=c'=c∨(c.isOw=false∧FrzC H S c c')
inductive FrzO (H:Heap)(S:Nat→Bool):Obj→Obj→Prop
 |same (o:Obj):FrzO H S o o
 |st (cells cells':List C) (hl:cells'.length=cells.length) (h:∀(j:Nat) (c c':C),cells[j]? = some c→cells'[j]? = some c'→FrzK H S c c'):FrzO H S (.st cells) (.st cells')
 |vec (sz:Nat) (rows rows':List (List C)) (hl:rows'.length=rows.length) (hr:∀(i:Nat) (r r':List C),rows[i]? = some r→rows'[i]? = some r'→r'.length=r.length)
   (h:∀(i:Nat) (r r':List C) (j:Nat) (c c':C),rows[i]? = some r→rows'[i]? = some r'→r[j]? = some c→r'[j]? = some c'→FrzK H S c c'):FrzO H S (.vec sz rows) (.vec sz rows')
def FrzH (H:Heap)(S:Nat→Bool)(H':Heap):Prop:=∀m,(S m=true∧H' m=.none)∨(S m=false∧FrzO H S (H m) (H' m))
theorem Qep (H:Heap)(S:Nat→Bool):FrzH H S (H.frz S):=fun m=>by
 cases h:S m with
 |true=>exact .inl ⟨rfl,by simp[Heap.frz,h]⟩
 |false=>exact .inr ⟨rfl,by simp[Heap.frz,h];exact .same _⟩
theorem FrzH.set {S:Nat→Bool}{H':Heap}(h:FrzH H S H'){l:Nat}{o:Obj}(hl:S l=false)(ho:FrzO H S (H l) o):FrzH H S (H'.set l o):=fun m=>by
 by_cases hm:m=l
 ·subst hm;rw[Heap.set_same];exact .inr ⟨hl,ho⟩
 ·rw[Heap.set_other _ _ hm];exact h m
theorem Qa0f (hs:Sat H g w){S:Nat→Bool}{H':Heap}(h:FrzH H S H'):Stp H g w H' (g.frz H S) w:=by
 have h0:=Qa8z hs S
 have hle:=h0.le
 have hkk:∀m,S m=false→Qud g w (g.frz H S) w m:=fun m hm=>Qk5 (by simp[hm])
 have hmv:∀(l:Nat) (p:List Nat) (c c':C) (v:Value),S l=false→FrzK H S c c'→RepO w g l p c v→RepO w (g.frz H S) l p c' v:=by
  intro l p c c' v hl hk hr
  rcases hk with rfl|⟨h1,h2⟩
  ·exact hr.move hle fun q b hb=>⟨(hkk l hl b _ hb).1,rfl⟩
  ·exact .plain _ _ _ _ ((Qar3 hs h2).1 v (hr.plain_of fun sz rows hc=>by subst hc;simp[C.isOw]at h1))
 refine⟨hle,fun m hm hn=>?_,⟨h0.sat.fresh,h0.sat.names,h0.sat.excl,h0.sat.named,fun m=>?_⟩⟩
 ·refine⟨?_,Qk5 (by rw[hn];simp[Obj.used])⟩
  rcases h m with ⟨_,h1⟩|⟨_,h1⟩
  ·exact h1
  ·rw[hn]at h1
   generalize H' m=o at h1
   cases h1;rfl
 ·rcases h m with ⟨_,h1⟩|⟨hS,h1⟩
  ·rw[h1];exact trivial
  ·have ho:=hs.objs m
   generalize hA:H m=A at h1 ho
   generalize hB:H' m=B at h1
   cases h1 with
   |same=>
    have:=SatObj.keep (H':=H') hs hle (hkk m hS) (hB.trans hA.symm) fun m' v left cur hc v' es hv=>?_
    ·rw[hB]at this;exact this
    ·rcases h m' with ⟨_,h2⟩|⟨hS',h2⟩
     ·rw[h2]at hv;simp at hv
     ·rw[hv]at h2
      generalize hA':H m'=A' at h2
      cases h2
      exact .inl ⟨rfl,hkk m' hS'⟩
   |st cells cells' hl hc=>
    obtain⟨b,sz,T,cs,r1,r2,r3,r4,r5⟩:=ho
    refine⟨b,sz,T,cs,r1,(hkk m hS b _ r2).1,r3,by rw[hl];exact r4,fun k c' v hc' hv=>?_⟩
    obtain⟨c,hc0⟩:=Qad hl hc'
    exact hmv _ _ c c' v hS (hc k c c' hc0 hc') (r5 k c v hc0 hv)
   |vec sz rows rows' hl hr hc=>
    rcases ho with ⟨r1,r2⟩|⟨b,base,T,cs,val,r1,r2,r3,r4,r5,r6,r7,r8⟩
    ·refine .inl ⟨?_,r2⟩
     subst r1;exact List.length_eq_zero_iff.1 hl
    ·refine .inr ⟨b,base,T,cs,val,r1,(hkk m hS b _ r2).1,r3,by rw[hl];exact r4,by rw[hl];exact r5,fun i r' hr'=>?_,fun i r' j c' hr' hc'=>?_,fun i r' j c' hr' hc'=>?_⟩
     ·obtain⟨r,hr0⟩:=Qad hl hr'
      rw[hr i r r' hr0 hr'];exact r6 i r hr0
     ·obtain⟨r,hr0⟩:=Qad hl hr'
      obtain⟨c,hc0⟩:=Qad (hr i r r' hr0 hr') hc'
      exact r7 i r j c hr0 hc0
     ·obtain⟨r,hr0⟩:=Qad hl hr'
      obtain⟨c,hc0⟩:=Qad (hr i r r' hr0 hr') hc'
      exact hmv _ _ c c' _ hS (hc i r r' j c c' hr0 hr' hc0 hc') (r8 i r j c hr0 hc0)
theorem Qdz {f:Nat}{args:List V}{K:V→Heap→Prop}(h:Qw P f args H fun x H'=>∃S x' H2,FrzV H' S x x'∧FrzH H' S H2∧K x' H2):Qw P f args H K:=by
 refine⟨h.1,fun g w vs hs hl hv=>?_⟩
 refine Calls.mono (h.2 g w vs hs hl hv) ?_
 rintro e w' ⟨v,x,H',g',he,⟨S,x',H2,hf,hh,hk⟩,hst,hr⟩
 exact⟨v,x',H2,g'.frz H' S,he,hk,hst.trans (Qa0f hst.sat hh),Qaer hst.sat hf v hr⟩
theorem Qew {e e':Env}(S:Nat→Bool){H2:Heap}(h:∀t,FrzV H S (lk t e) (lk t e'))(hh:FrzH H S H2):Qbc0 e H e' H2:=by
 intro g w tmps hs hr
 exact⟨g.frz H S,Qa0f hs hh,fun t=>Qaer hs (h t) _ (hr t)⟩
def un (H:Heap)(m:Nat):Bool:=!(H m).used
theorem Qaza {m:Nat}(h:H m≠.none):un H m=false:=by
 unfold un;cases hm:H m <;> first|rfl|exact absurd hm h
theorem Qdr {m:Nat}(h:H m=.none):un H m=true:=by simp[un,h,Obj.used]
theorem Qa4w {H':Heap}{m:Nat}(h:H m≠.none):H'.frz (un H) m=H' m:=by simp[Heap.frz,Qaza h]
def C.plain:C→Bool
 |.int _ _|.bool _|.str _|.sl _ _ _|.pp _|.pnil|.mnil|.fnil|.unk=>true
 |_=>false
theorem Qg {S:Nat→Bool}{c:C}(h:c.plain=true):FrzC H S c c:=.same c (by cases c <;> simp_all[C.plain,C.isOw])
theorem Qaeu {S:Nat→Bool}{l sz n:Nat}{rows:List (List C)}(hS:S l=true)(hH:H l=.vec sz rows)(hn:n=rows.length)(hr:∀r∈rows,∀c∈r,c.isOw=false):FrzC H S (.vsl l sz 0 n) (.sl false sz rows):=by
 subst hn
 refine .vsl l sz 0 rows.length rows rows rows hS hH (by omega) (by simp) rfl (fun i r r' h1 h2=>by rw[h1]at h2;simp at h2;rw[h2]) (fun i r r' j c c' h1 h2 h3 h4=>?_)
 rw[h1]at h2;simp at h2;subst h2
 rw[h3]at h4;simp at h4;subst h4
 exact .same _ (hr r (List.mem_of_getElem? h1) c (List.mem_of_getElem? h3))
theorem Qaet {S:Nat→Bool}{fl:Bool}{sz:Nat}{rows:List (List C)}(hr:∀r∈rows,∀c∈r,c.isOw=false):FrzC H S (.sl fl sz rows) (.sl false sz rows):=by
 refine .sl fl sz rows rows rfl (fun i r r' h1 h2=>by rw[h1]at h2;simp at h2;rw[h2]) (fun i r r' j c c' h1 h2 h3 h4=>?_)
 rw[h1]at h2;simp at h2;subst h2
 rw[h3]at h4;simp at h4;subst h4
 exact .same _ (hr r (List.mem_of_getElem? h1) c (List.mem_of_getElem? h3))
inductive FrzL (H:Heap)(S:Nat→Bool):List C→List C→Prop
 |nil:FrzL H S [] []
 |cons {c c':C} {l l':List C} (h:FrzC H S c c') (t:FrzL H S l l'):FrzL H S (c::l) (c'::l')
theorem FrzL.spec {S:Nat→Bool}{l l':List C}(h:FrzL H S l l'):l'.length=l.length∧∀(j:Nat) (c c':C),l[j]? = some c→l'[j]? = some c'→FrzC H S c c':=by
 induction h with
 |nil=>exact⟨rfl,fun j c c' h=>by simp at h⟩
 |cons h t ih=>
  refine⟨by simp[ih.1],fun j c c' h1 h2=>?_⟩
  cases j with
  |zero=>simp at h1 h2;subst h1;subst h2;exact h
  |succ j=>simp at h1 h2;exact ih.2 j c c' h1 h2
theorem FrzL.ag {S:Nat→Bool}{l l':List C}(h:FrzL H S l l'):FrzV H S (.ag l) (.ag l'):=.ag _ _ h.spec.1 h.spec.2
inductive FrzKL (H:Heap)(S:Nat→Bool):List C→List C→Prop
 |nil:FrzKL H S [] []
 |same {c:C} {l l':List C} (t:FrzKL H S l l'):FrzKL H S (c::l) (c::l')
 |cons {c c':C} {l l':List C} (h:c.isOw=false) (h':FrzC H S c c') (t:FrzKL H S l l'):FrzKL H S (c::l) (c'::l')
theorem FrzKL.st {S:Nat→Bool}{l l':List C}(h:FrzKL H S l l'):FrzO H S (.st l) (.st l'):=by
 have:l'.length=l.length∧∀(j:Nat) (c c':C),l[j]? = some c→l'[j]? = some c'→FrzK H S c c':=by
  induction h with
  |nil=>exact⟨rfl,fun j c c' h=>by simp at h⟩
  |same t ih=>
   refine⟨by simp[ih.1],fun j c c' h1 h2=>?_⟩
   cases j with
   |zero=>simp at h1 h2;subst h1;subst h2;exact .inl rfl
   |succ j=>simp at h1 h2;exact ih.2 j c c' h1 h2
  |cons h h' t ih=>
   refine⟨by simp[ih.1],fun j c c' h1 h2=>?_⟩
   cases j with
   |zero=>simp at h1 h2;subst h1;subst h2;exact .inr ⟨h,h'⟩
   |succ j=>simp at h1 h2;exact ih.2 j c c' h1 h2
 exact .st _ _ this.1 this.2
end Go.AE

namespace Go.AE
variable {P:Program}{H0 H H':Heap}{E L:List (Nat×Obj)}
structure Kn (H0 H:Heap)(E L:List (Nat×Obj)):Prop where
 get:∀p∈E++L,H p.1=p.2∧p.2≠.none
 ext:∀p∈E,H0 p.1≠.none
 loc:∀p∈L,H0 p.1=.none
 dE:(E.map Prod.fst).Nodup
 dL:(L.map Prod.fst).Nodup
 chg:∀m,H0 m≠.none→m∉E.map Prod.fst→H m=H0 m
def Upd (H H':Heap)(U:List (Nat×Obj)):Prop:=(∀p∈U,H' p.1=p.2)∧∀m,H m≠.none→m∉U.map Prod.fst→H' m=H m
theorem Kn.start0 (H:Heap):Kn H H [] []:=⟨by simp,by simp,by simp,by simp,by simp,fun _ _ _=>rfl⟩
theorem Kn.start1 {l:Nat}{o:Obj}(h:H l=o)(ho:o≠.none):Kn H H [(l,o)] []:=
 ⟨by simp[h,ho],by simp[h,ho],by simp,by simp,by simp,fun _ _ _=>rfl⟩
theorem Kn.start2 {l m:Nat}{o q:Obj}(h:H l=o)(ho:o≠.none)(h2:H m=q)(hq:q≠.none)(hn:l≠m):Kn H H [(l,o),(m,q)] []:=
 ⟨by simp[h,ho,h2,hq],by simp[h,ho,h2,hq],by simp,by simp[hn],by simp,fun _ _ _=>rfl⟩
theorem Kn.e (hk:Kn H0 H E L)(i:Nat){l:Nat}{o:Obj}(h:E[i]? = some (l,o)):H l=o:=
 (hk.get (l,o) (List.mem_append_left _ (List.mem_of_getElem? h))).1
theorem Kn.l (hk:Kn H0 H E L)(i:Nat){l:Nat}{o:Obj}(h:L[i]? = some (l,o)):H l=o:=
 (hk.get (l,o) (List.mem_append_right _ (List.mem_of_getElem? h))).1
theorem Kn.free (hk:Kn H0 H E L)(i:Nat){l:Nat}{o:Obj}(h:L[i]? = some (l,o)):H0 l=.none:=hk.loc (l,o) (List.mem_of_getElem? h)
theorem Kn.un (hk:Kn H0 H E L)(i:Nat){l:Nat}{o:Obj}(h:L[i]? = some (l,o)):un H0 l=true:=Qdr (hk.free i h)
theorem Kn.usedE (hk:Kn H0 H E L)(i:Nat){l:Nat}{o:Obj}(h:E[i]? = some (l,o)):H0 l≠.none:=hk.ext (l,o) (List.mem_of_getElem? h)
theorem Kn.ne (hk:Kn H0 H E L)(i j:Nat){l m:Nat}{o q:Obj}(h:E[i]? = some (l,o))(h2:L[j]? = some (m,q)):l≠m:=fun hh=>by
 subst hh;exact hk.usedE i h (hk.free j h2)
theorem Qal {L:List (Nat×Obj)}{p:Nat×Obj}(h:p∈L):p.1∈L.map Prod.fst:=List.mem_map_of_mem h
theorem Qcc {L:List (Nat×Obj)}(hd:(L.map Prod.fst).Nodup){i j:Nat}{p q:Nat×Obj}(hi:L[i]? = some p)(hj:L[j]? = some q)(h:p.1=q.1):i=j:=by
 have h1:(L.map Prod.fst)[i]? = some p.1:=by simp[hi]
 have h2:(L.map Prod.fst)[j]? = some q.1:=by simp[hj]
 have hlt:i<(L.map Prod.fst).length:=(List.getElem?_eq_some_iff.1 h1).1
 exact (List.getElem?_inj hlt hd).1 (by rw[h1,h2,h])
theorem Kn.neL (hk:Kn H0 H E L)(i j:Nat){l m:Nat}{o q:Obj}(h:L[i]? = some (l,o))(h2:L[j]? = some (m,q))(hij:i≠j):l≠m:=fun hh=>
 hij (Qcc hk.dL h h2 hh)
theorem Kn.newFree (hk:Kn H0 H E L){x:Nat}(hx:H x=.none):H0 x=.none∧x∉E.map Prod.fst∧x∉L.map Prod.fst:=by
 have hno:∀p∈E++L,p.1≠x:=fun p hp hh=>by
  obtain⟨h1,h2⟩:=hk.get p hp
  rw[hh,hx]at h1;exact h2 h1.symm
 have hE:x∉E.map Prod.fst:=fun h=>by
  obtain⟨p,hp,hh⟩:=List.mem_map.1 h
  exact hno p (List.mem_append_left _ hp) hh
 refine⟨?_,hE,fun h=>?_⟩
 ·cases h0:H0 x with
  |none=>rfl
  |_=>have:=hk.chg x (by rw[h0];simp) hE;rw[hx,h0]at this;simp at this
 ·obtain⟨p,hp,hh⟩:=List.mem_map.1 h
  exact hno p (List.mem_append_right _ hp) hh
theorem Kn.alloc (hk:Kn H0 H E L){x:Nat}{o:Obj}(hx:H x=.none)(ho:o≠.none):Kn H0 (H.set x o) E (L++[(x,o)]):=by
 obtain⟨h1,h2,h3⟩:=hk.newFree hx
 refine⟨fun p hp=>?_,hk.ext,fun p hp=>?_,hk.dE,?_,fun m hm hn=>?_⟩
 ·rw[←List.append_assoc]at hp
  rcases List.mem_append.1 hp with hp|hp
  ·have:p.1≠x:=fun hh=>by
    rcases List.mem_append.1 hp with hp|hp
    ·exact h2 (hh▸Qal hp)
    ·exact h3 (hh▸Qal hp)
   rw[Heap.set_other _ _ this];exact hk.get p hp
  ·simp at hp;subst hp;exact⟨Heap.set_same _ _ _,ho⟩
 ·rcases List.mem_append.1 hp with hp|hp
  ·exact hk.loc p hp
  ·simp at hp;subst hp;exact h1
 ·rw[List.map_append]
  refine List.nodup_append.2 ⟨hk.dL,by simp,fun a ha b hb=>?_⟩
  simp at hb;subst hb;exact fun hh=>h3 (hh▸ha)
 ·have:m≠x:=fun hh=>by subst hh;exact hm h1
  rw[Heap.set_other _ _ this];exact hk.chg m hm hn
theorem Qbu {L:List (Nat×Obj)}{i:Nat}{x:Nat}{o o':Obj}(h:L[i]? = some (x,o)):(L.set i (x,o')).map Prod.fst=L.map Prod.fst:=by
 rw[List.map_set]
 refine List.ext_getElem? fun j=>?_
 rw[List.getElem?_set]
 split
 ·rename_i hij
  subst hij
  have hlt:=(List.getElem?_eq_some_iff.1 h).1
  rw[if_pos (by simpa using hlt)]
  simp[h]
 ·rfl
theorem Qbg {α:Type}{L:List α}{i:Nat}{x p:α}(h:p∈L.set i x):p=x∨∃j,j≠i∧L[j]? = some p:=by
 obtain⟨j,hj⟩:=List.getElem?_of_mem h
 rw[List.getElem?_set]at hj
 split at hj
 ·split at hj
  ·simp at hj;exact .inl hj.symm
  ·simp at hj
 ·rename_i hn;exact .inr ⟨j,fun h=>hn h.symm,hj⟩
theorem Kn.setL (hk:Kn H0 H E L)(i:Nat){x:Nat}{o o':Obj}(h:L[i]? = some (x,o))(ho:o'≠.none):Kn H0 (H.set x o') E (L.set i (x,o')):=by
 have hf:=hk.free i h
 refine⟨fun p hp=>?_,hk.ext,fun p hp=>?_,hk.dE,by rw[Qbu h];exact hk.dL,fun m hm hn=>?_⟩
 ·rcases List.mem_append.1 hp with hp|hp
  ·have:p.1≠x:=fun hh=>hk.ext p hp (hh▸hf)
   rw[Heap.set_other _ _ this];exact hk.get p (List.mem_append_left _ hp)
  ·rcases Qbg hp with rfl|⟨j,hj,hp⟩
   ·exact⟨Heap.set_same _ _ _,ho⟩
   ·have:p.1≠x:=fun hh=>hj (Qcc hk.dL hp h hh)
    rw[Heap.set_other _ _ this];exact hk.get p (List.mem_append_right _ (List.mem_of_getElem? hp))
 ·rcases Qbg hp with rfl|⟨j,hj,hp⟩
  ·exact hf
  ·exact hk.loc p (List.mem_of_getElem? hp)
 ·have:m≠x:=fun hh=>by subst hh;exact hm hf
  rw[Heap.set_other _ _ this];exact hk.chg m hm hn
theorem Kn.setE (hk:Kn H0 H E L)(i:Nat){x:Nat}{o o':Obj}(h:E[i]? = some (x,o))(ho:o'≠.none):Kn H0 (H.set x o') (E.set i (x,o')) L:=by
 have hf:=hk.usedE i h
 refine⟨fun p hp=>?_,fun p hp=>?_,hk.loc,by rw[Qbu h];exact hk.dE,hk.dL,fun m hm hn=>?_⟩
 ·rcases List.mem_append.1 hp with hp|hp
  ·rcases Qbg hp with rfl|⟨j,hj,hp⟩
   ·exact⟨Heap.set_same _ _ _,ho⟩
   ·have:p.1≠x:=fun hh=>hj (Qcc hk.dE hp h hh)
    rw[Heap.set_other _ _ this];exact hk.get p (List.mem_append_left _ (List.mem_of_getElem? hp))
  ·have:p.1≠x:=fun hh=>hf (hh▸hk.loc p hp)
   rw[Heap.set_other _ _ this];exact hk.get p (List.mem_append_right _ hp)
 ·rcases Qbg hp with rfl|⟨j,hj,hp⟩
  ·exact hf
  ·exact hk.ext p (List.mem_of_getElem? hp)
 ·rw[Qbu h]at hn
  have:m≠x:=fun hh=>by subst hh;exact hn (Qal (p:=(m,o)) (List.mem_of_getElem? h))
  rw[Heap.set_other _ _ this];exact hk.chg m hm hn
theorem Kn.app (hk:Kn H0 H E L)(i:Nat){y y':Nat}{o o':Obj}(h:L[i]? = some (y,o))(hy:(H.set y .none) y'=.none)(ho:o'≠.none) :
  Kn H0 ((H.set y .none).set y' o') E (L.set i (y',o')):=by
 have hf:=hk.free i h
 have hyf:H0 y'=.none∧y'∉E.map Prod.fst∧∀(j:Nat) (p:Nat×Obj),j≠i→L[j]? = some p→p.1≠y':=by
  by_cases hyy:y'=y
  ·subst hyy
   refine⟨hf,fun hh=>?_,fun j p hj hp hh=>hj (Qcc hk.dL hp h hh)⟩
   obtain⟨p,hp,hh⟩:=List.mem_map.1 hh
   exact hk.ext p hp (hh▸hf)
  ·rw[Heap.set_other _ _ hyy]at hy
   obtain⟨h1,h2,h3⟩:=hk.newFree hy
   exact⟨h1,h2,fun j p hj hp hh=>h3 (hh▸Qal (List.mem_of_getElem? hp))⟩
 obtain⟨h1,h2,h3⟩:=hyf
 refine⟨fun p hp=>?_,hk.ext,fun p hp=>?_,hk.dE,?_,fun m hm hn=>?_⟩
 ·rcases List.mem_append.1 hp with hp|hp
  ·have a1:p.1≠y:=fun hh=>hk.ext p hp (hh▸hf)
   have a2:p.1≠y':=fun hh=>hk.ext p hp (hh▸h1)
   rw[Heap.set_other _ _ a2,Heap.set_other _ _ a1];exact hk.get p (List.mem_append_left _ hp)
  ·rcases Qbg hp with rfl|⟨j,hj,hp⟩
   ·exact⟨Heap.set_same _ _ _,ho⟩
   ·have a1:p.1≠y:=fun hh=>hj (Qcc hk.dL hp h hh)
    rw[Heap.set_other _ _ (h3 j p hj hp),Heap.set_other _ _ a1];exact hk.get p (List.mem_append_right _ (List.mem_of_getElem? hp))
 ·rcases Qbg hp with rfl|⟨j,hj,hp⟩
  ·exact h1
  ·exact hk.loc p (List.mem_of_getElem? hp)
 ·rw[List.map_set]
  refine List.pairwise_iff_getElem.2 fun a b ha hb hab=>?_
  rw[List.length_set,List.length_map]at ha hb
  have gl:∀(j:Nat) (hj:j<L.length),j≠i→L[j].1≠y':=fun j hj hji=>h3 j L[j] hji (List.getElem?_eq_getElem hj)
  have hd:=List.pairwise_iff_getElem.1 hk.dL a b (by simpa using ha) (by simpa using hb) hab
  simp only[List.getElem_set,List.getElem_map]at hd⊢
  by_cases e1:i=a
  ·subst e1
   rw[if_pos rfl,if_neg (by omega)]
   exact fun hh=>gl b hb (by omega) hh.symm
  ·rw[if_neg e1]
   by_cases e2:i=b
   ·subst e2;rw[if_pos rfl];exact gl a ha (by omega)
   ·rw[if_neg e2];exact hd
 ·have a1:m≠y:=fun hh=>by subst hh;exact hm hf
  have a2:m≠y':=fun hh=>by subst hh;exact hm h1
  rw[Heap.set_other _ _ a2,Heap.set_other _ _ a1];exact hk.chg m hm hn
theorem Kn.callg (hk:Kn H0 H E L){U E2 L2:List (Nat×Obj)}(hu:Upd H H' U)(hE:E2.map Prod.fst=E.map Prod.fst)(hL:L2.map Prod.fst=L.map Prod.fst)
  (h:∀p∈E2++L2,p.2≠.none∧(p∈U∨(p∈E++L∧p.1∉U.map Prod.fst))) (hU:∀u∈U,u.1∈E.map Prod.fst∨u.1∈L.map Prod.fst):Kn H0 H' E2 L2:=by
 have hin:∀{A B:List (Nat×Obj)} {p:Nat×Obj},B.map Prod.fst=A.map Prod.fst→p∈B→∃q∈A,q.1=p.1:=fun hAB hp=>by
  have:=Qal hp;rw[hAB]at this;obtain⟨q,h1,h2⟩:=List.mem_map.1 this;exact⟨q,h1,h2⟩
 refine⟨fun p hp=>?_,fun p hp=>?_,fun p hp=>?_,by rw[hE];exact hk.dE,by rw[hL];exact hk.dL,fun m hm hn=>?_⟩
 ·obtain⟨h1,h2⟩:=h p hp
  refine⟨?_,h1⟩
  rcases h2 with h2|⟨h2,h3⟩
  ·exact hu.1 p h2
  ·obtain⟨a1,a2⟩:=hk.get p h2
   rw[hu.2 p.1 (by rw[a1];exact a2) h3,a1]
 ·obtain⟨q,hq,hh⟩:=hin hE hp;rw[←hh];exact hk.ext q hq
 ·obtain⟨q,hq,hh⟩:=hin hL hp;rw[←hh];exact hk.loc q hq
 ·rw[hE]at hn
  have h0:=hk.chg m hm hn
  rw[hu.2 m (by rw[h0];exact hm) (fun hh=>?_),h0]
  obtain⟨u,hu1,hu2⟩:=List.mem_map.1 hh
  rcases hU u hu1 with a|a
  ·exact hn (hu2▸a)
  ·obtain⟨q,hq,hh⟩:=List.mem_map.1 a
   exact hm (by rw[←hu2,←hh];exact hk.loc q hq)
theorem Kn.call0 (hk:Kn H0 H E L)(hu:Upd H H' []):Kn H0 H' E L:=hk.callg hu rfl rfl (fun p hp=>⟨(hk.get p hp).2,.inr ⟨hp,by simp⟩⟩) (by simp)
theorem Kn.callE (hk:Kn H0 H E L)(i:Nat){l:Nat}{o o':Obj}(h:E[i]? = some (l,o))(hu:Upd H H' [(l,o')])(ho:o'≠.none):Kn H0 H' (E.set i (l,o')) L:=by
 refine hk.callg hu (Qbu h) rfl (fun p hp=>?_) (fun u hu=>by simp at hu;subst hu;exact .inl (Qal (p:=(l,o)) (List.mem_of_getElem? h)))
 rcases List.mem_append.1 hp with hp|hp
 ·rcases Qbg hp with rfl|⟨j,hj,hp⟩
  ·exact⟨ho,.inl (by simp)⟩
  ·have hm:=List.mem_append_left L (List.mem_of_getElem? hp)
   exact⟨(hk.get p hm).2,.inr ⟨hm,by simp;exact fun hh=>hj (Qcc hk.dE hp h hh)⟩⟩
 ·have hm:=List.mem_append_right E hp
  exact⟨(hk.get p hm).2,.inr ⟨hm,by simp;exact fun hh=>hk.usedE i h (hh▸hk.loc p hp)⟩⟩
theorem Kn.callL (hk:Kn H0 H E L)(i:Nat){l:Nat}{o o':Obj}(h:L[i]? = some (l,o))(hu:Upd H H' [(l,o')])(ho:o'≠.none):Kn H0 H' E (L.set i (l,o')):=by
 refine hk.callg hu rfl (Qbu h) (fun p hp=>?_) (fun u hu=>by simp at hu;subst hu;exact .inr (Qal (p:=(l,o)) (List.mem_of_getElem? h)))
 rcases List.mem_append.1 hp with hp|hp
 ·have hm:=List.mem_append_left L hp
  exact⟨(hk.get p hm).2,.inr ⟨hm,by simp;exact fun hh=>hk.ext p hp (hh▸hk.free i h)⟩⟩
 ·rcases Qbg hp with rfl|⟨j,hj,hp⟩
  ·exact⟨ho,.inl (by simp)⟩
  ·have hm:=List.mem_append_right E (List.mem_of_getElem? hp)
   exact⟨(hk.get p hm).2,.inr ⟨hm,by simp;exact fun hh=>hj (Qcc hk.dL hp h hh)⟩⟩
theorem Kn.callEE (hk:Kn H0 H E L)(i j:Nat){l m:Nat}{o o' q q':Obj}(h:E[i]? = some (l,o))(h2:E[j]? = some (m,q))(hij:i≠j)(hu:Upd H H' [(l,o'),(m,q')])(ho:o'≠.none)(hq:q'≠.none) :
  Kn H0 H' ((E.set i (l,o')).set j (m,q')) L:=by
 have h2':(E.set i (l,o'))[j]? = some (m,q):=by rw[List.getElem?_set];rw[if_neg hij];exact h2
 refine hk.callg hu ((Qbu h2').trans (Qbu h)) rfl (fun p hp=>?_) (fun u hu=>?_)
 ·rcases List.mem_append.1 hp with hp|hp
  ·rcases Qbg hp with rfl|⟨b,hb,hp⟩
   ·exact⟨hq,.inl (by simp)⟩
   ·rcases Qbg (List.mem_of_getElem? hp)with rfl|⟨c,hc,hp'⟩
    ·exact⟨ho,.inl (by simp)⟩
    ·have hm:=List.mem_append_left L (List.mem_of_getElem? hp')
     rw[List.getElem?_set]at hp
     split at hp
     ·rename_i hib
      split at hp
      ·simp at hp;subst hp;exact⟨ho,.inl (by simp)⟩
      ·simp at hp
     ·rename_i hib
      refine⟨(hk.get p hm).2,.inr ⟨hm,?_⟩⟩
      simp only[List.map_cons,List.map_nil,List.mem_cons,List.not_mem_nil,or_false,not_or]
      exact⟨fun hh=>hib (Qcc hk.dE hp h hh).symm,fun hh=>hb (Qcc hk.dE hp h2 hh)⟩
  ·have hm:=List.mem_append_right E hp
   refine⟨(hk.get p hm).2,.inr ⟨hm,?_⟩⟩
   simp only[List.map_cons,List.map_nil,List.mem_cons,List.not_mem_nil,or_false,not_or]
   exact⟨fun hh=>hk.usedE i h (hh▸hk.loc p hp),fun hh=>hk.usedE j h2 (hh▸hk.loc p hp)⟩
 ·simp at hu
  rcases hu with rfl|rfl
  ·exact .inl (Qal (p:=(l,o)) (List.mem_of_getElem? h))
  ·exact .inl (Qal (p:=(m,q)) (List.mem_of_getElem? h2))
theorem Kn.fin (hk:Kn H0 H E L):Upd H0 (H.frz (Go.AE.un H0)) E:=by
 refine⟨fun p hp=>?_,fun m hm hn=>?_⟩
 ·rw[Qa4w (hk.ext p hp)];exact (hk.get p (List.mem_append_left _ hp)).1
 ·rw[Qa4w hm];exact hk.chg m hm hn
theorem Qz {f:Nat}{args:List V}{K:V→Heap→Prop}(h:Qw P f args H fun x H'=>∃x',FrzV H' (un H) x x'∧K x' (H'.frz (un H))):Qw P f args H K:=
 Qa4a (Qa0m h fun x H' ⟨x',h1,h2⟩=>⟨un H,x',h1,h2⟩)
theorem Kn.al (hk:Kn H0 H E L){x:Nat}{o:Obj}(hx:H x=.none)(h1:H'=H.set x o)(ho:o≠.none:=by nofun):Kn H0 H' E (L++[(x,o)]):=h1▸hk.alloc hx ho
theorem Kn.stL (hk:Kn H0 H E L)(i:Nat){x:Nat}{o o':Obj}(h:L[i]? = some (x,o))(h1:H'=H.set x o')(ho:o'≠.none:=by nofun):Kn H0 H' E (L.set i (x,o')):=h1▸hk.setL i h ho
theorem Kn.stE (hk:Kn H0 H E L)(i:Nat){x:Nat}{o o':Obj}(h:E[i]? = some (x,o))(h1:H'=H.set x o')(ho:o'≠.none:=by nofun):Kn H0 H' (E.set i (x,o')) L:=h1▸hk.setE i h ho
theorem Kn.ap (hk:Kn H0 H E L)(i:Nat){y y':Nat}{o o':Obj}(h:L[i]? = some (y,o))(hy:(H.set y .none) y'=.none)(h1:H'=(H.set y .none).set y' o')(ho:o'≠.none:=by nofun):Kn H0 H' E (L.set i (y',o')):=h1▸hk.app i h hy ho
end Go.AE

namespace Go.AE.Y
theorem Qp {x:Int}(h1:-(2^63)≤x)(h2:x<2^63):inR .i64 x:=by
 unfold inR
 have a1:IntKind.min .i64=-(2^63):=by decide
 have a2:IntKind.max .i64=2^63-1:=by decide
 rw[a1,a2];omega
theorem Qem (b:UInt8):inR .i64 (b.toNat:Int):=Qp (by omega) (by have:=b.toNat_lt;omega)
def Qbt (bs:List UInt8):List (List C):=bs.map fun b=>[.int .u8 b.toNat]
theorem Qay (bs:List UInt8):(Qbt bs).length=bs.length:=by simp[Qbt]
theorem Qwa (bs:List UInt8)(i:Nat)(h:i<bs.length):(Qbt bs).getD i []=[.int .u8 (bs.getD i 0).toNat]:=by
 simp[Qbt,List.getD_eq_getElem?_getD,h]
theorem Qbfh {a b:Int}(ha:0≤a)(hb:0≤b)(ha':a<2^62)(hb':b<2^62):0≤Qa0o .xor .i64 a b:=by
 obtain⟨m,rfl⟩:=Int.eq_ofNat_of_zero_le ha
 obtain⟨n,rfl⟩:=Int.eq_ofNat_of_zero_le hb
 have hm:m<2^62:=by omega
 have hn:n<2^62:=by omega
 have hx:m ^^^ n<2^62:=Nat.xor_lt_two_pow hm hn
 have h1:(BitVec.ofInt (IntKind.bits .i64) (m:Int) ^^^ BitVec.ofInt (IntKind.bits .i64) (n:Int)).toNat=m ^^^ n:=by
  have hb:IntKind.bits .i64=64:=rfl
  rw[hb,BitVec.toNat_xor]
  have e1:(BitVec.ofInt 64 (m:Int)).toNat=m:=by simp;omega
  have e2:(BitVec.ofInt 64 (n:Int)).toNat=n:=by simp;omega
  rw[e1,e2]
 simp only[Qa0o]
 rw[h1]
 simp only[IntKind.wrap]
 have hb:IntKind.bits .i64=64:=rfl
 have hm:((m ^^^ n:Nat):Int) % 2 ^ 64=(m ^^^ n:Nat):=Int.emod_eq_of_lt (by omega) (by omega)
 rw[hb,hm]
 rw[if_neg]
 ·omega
 ·simp only[Bool.and_eq_true,decide_eq_true_eq,not_and]
  intro _;omega
structure Rdr where
 l:Nat
 fl:Bool
 bs:List UInt8
def Rdr.o (R:Rdr)(k:Nat):Obj:=.st [.sl R.fl 1 (Qbt R.bs),.int .i64 k]
theorem Rdr.o_ne (R:Rdr)(k:Nat):R.o k≠.none:=by simp[Rdr.o]
def Qb (ns:List Int):List (List C):=ns.map fun n=>[.int .i64 n]
theorem Qd (ns:List Int):(Qb ns).length=ns.length:=by simp[Qb]
theorem Qn (ns:List Int)(i:Nat)(h:i<ns.length):(Qb ns).getD i []=[.int .i64 (ns.getD i 0)]:=by
 simp[Qb,List.getD_eq_getElem?_getD,h]
theorem Qca (a b:List Int):Qb (a++b)=Qb a++Qb b:=by simp[Qb]
theorem Qu (ns:List Int):∀r∈Qb ns,noOw r=true:=by
 intro r hr;simp[Qb]at hr;obtain⟨n,_,rfl⟩:=hr;rfl
def Qbk (ss:List (List UInt8)):List (List C):=ss.map fun s=>[.str s]
theorem Qas (ss:List (List UInt8)):(Qbk ss).length=ss.length:=by simp[Qbk]
theorem Qfn (ss:List (List UInt8))(i:Nat)(h:i<ss.length):(Qbk ss).getD i []=[.str (ss.getD i [])]:=by
 simp[Qbk,List.getD_eq_getElem?_getD,h]
theorem Qaeg:Qbk []=[]:=rfl
theorem Qay8 (a:List (List UInt8))(n:List UInt8):Qbk a++[[.str n]]=Qbk (a++[n]):=by simp[Qbk]
theorem Qi3 (ns:List (List UInt8)):∀r∈Qbk ns,noOw r=true:=by
 intro r hr;simp[Qbk]at hr;obtain⟨n,_,rfl⟩:=hr;rfl
theorem noOw_mem {rows:List (List C)}(h:∀r∈rows,noOw r=true):∀r∈rows,∀c∈r,c.isOw=false:=fun r hr c hc=>by
 have:=h r hr
 simp only[noOw,List.all_eq_true]at this
 simpa using this c hc
theorem Qba6 {a b:List (List C)}(ha:∀r∈a,noOw r=true)(hb:∀r∈b,noOw r=true):∀r∈a++b,noOw r=true:=fun r hr=>by
 rcases List.mem_append.1 hr with h|h
 ·exact ha r h
 ·exact hb r h
inductive Ex where
 |mk (op n:Int) (name:List UInt8) (kids:List Ex)
def Ex.op:Ex→Int|.mk op _ _ _=>op
def Ex.n:Ex→Int|.mk _ n _ _=>n
def Ex.name:Ex→List UInt8|.mk _ _ s _=>s
def Ex.kids:Ex→List Ex|.mk _ _ _ k=>k
mutual
def Ex.cells:Ex→List C
 |.mk op n name kids=>[.int .i64 op,.int .i64 n,.str name,.sl false 4 (Qbr kids)]
def Qbr:List Ex→List (List C)
 |[]=>[]
 |x::r=>x.cells::Qbr r
end
theorem Ex.cells_eq (x:Ex):x.cells=[.int .i64 x.op,.int .i64 x.n,.str x.name,.sl false 4 (Qbr x.kids)]:=by
 cases x;simp[Ex.cells,Ex.op,Ex.n,Ex.name,Ex.kids]
theorem Qrh (l:List Ex):Qbr l=l.map Ex.cells:=by
 induction l with
 |nil=>simp[Qbr]
 |cons x r ih=>simp[Qbr,ih]
theorem Qa6 (l:List Ex):(Qbr l).length=l.length:=by simp[Qrh]
theorem Qde (l:List Ex)(i:Nat)(h:i<l.length):(Qbr l).getD i []=(l[i]'h).cells:=by
 simp[Qrh,List.getD_eq_getElem?_getD,h]
theorem Qa0v (a:List Ex)(x:Ex):Qbr a++[x.cells]=Qbr (a++[x]):=by simp[Qrh]
theorem Ex.noOw (x:Ex):Go.AE.noOw x.cells=true:=by rw[x.cells_eq];rfl
theorem Qg0 (l:List Ex):∀r∈Qbr l,Go.AE.noOw r=true:=by
 intro r hr;rw[Qrh]at hr;obtain⟨x,_,rfl⟩:=List.mem_map.1 hr;exact x.noOw
theorem Ex.cells_len (x:Ex):x.cells.length=4:=by rw[x.cells_eq];rfl
mutual
def Ex.size:Ex→Nat
 |.mk _ _ _ kids=>1+Qag kids
def Qag:List Ex→Nat
 |[]=>0
 |x::r=>x.size+Qag r
end
mutual
def Ex.ok:Ex→Prop
 |.mk op _ _ kids=>(op=10→kids.length=2)∧Qc8 kids
def Qc8:List Ex→Prop
 |[]=>True
 |x::r=>x.ok∧Qc8 r
end
theorem Q2t {l:List Ex}(h:Qc8 l):∀x∈l,x.ok:=by
 induction l with
 |nil=>simp
 |cons y r ih=>
  simp only[Qc8]at h
  intro x hx
  rcases List.mem_cons.1 hx with rfl|hx
  ·exact h.1
  ·exact ih h.2 x hx
theorem Qa4r {a b:List Ex}(ha:Qc8 a)(hb:Qc8 b):Qc8 (a++b):=by
 induction a with
 |nil=>exact hb
 |cons x r ih=>simp only[Qc8]at ha;exact⟨ha.1,ih ha.2⟩
theorem Qpw (a b:List Ex):Qag (a++b)=Qag a+Qag b:=by
 induction a with
 |nil=>simp[Qag]
 |cons x r ih=>simp[Qag,ih];omega
theorem Ex.size_pos (x:Ex):1≤x.size:=by cases x;simp[Ex.size]
theorem Qdf {l:List Ex}{x:Ex}(h:x∈l):x.size≤Qag l:=by
 induction l with
 |nil=>simp at h
 |cons y r ih=>
  simp only[Qag]
  rcases List.mem_cons.1 h with rfl|h
  ·omega
  ·have:=ih h;omega
theorem Ex.size_kids (x:Ex):x.size=1+Qag x.kids:=by cases x;simp[Ex.size,Ex.kids]
theorem Ex.ok_kids {x:Ex}(h:x.ok):Qc8 x.kids:=by cases x;simp only[Ex.ok]at h;exact h.2
theorem Ex.ok_and {x:Ex}(h:x.ok)(h1:x.op=10):x.kids.length=2:=by cases x;simp only[Ex.ok]at h;exact h.1 h1
theorem Ex.frz {H:Heap}{S:Nat→Bool}{fl:Bool}(x:Ex):FrzV H S (.ag [.int .i64 x.op,.int .i64 x.n,.str x.name,.sl fl 4 (Qbr x.kids)]) (.ag x.cells):=by
 rw[x.cells_eq]
 exact (FrzL.cons (Qg rfl) (FrzL.cons (Qg rfl) (FrzL.cons (Qg rfl) (FrzL.cons (Qaet (noOw_mem (Qg0 _))) FrzL.nil)))).ag
end Go.AE.Y

namespace Go.AE.Y
variable {H:Heap}{S:Nat→Bool}
inductive FrzR (H:Heap)(S:Nat→Bool):List (List C)→List (List C)→Prop
 |nil:FrzR H S [] []
 |cons {r r':List C} {l l':List (List C)} (h:FrzL H S r r') (t:FrzR H S l l'):FrzR H S (r::l) (r'::l')
theorem FrzR.spec {l l':List (List C)}(h:FrzR H S l l'):l'.length=l.length∧∀(i:Nat) (r r':List C),l[i]? = some r→l'[i]? = some r'→FrzL H S r r':=by
 induction h with
 |nil=>exact⟨rfl,fun j c c' h=>by simp at h⟩
 |cons h t ih=>
  refine⟨by simp[ih.1],fun j c c' h1 h2=>?_⟩
  cases j with
  |zero=>simp at h1 h2;subst h1;subst h2;exact h
  |succ j=>simp at h1 h2;exact ih.2 j c c' h1 h2
theorem FrzR.sl {fl:Bool}{sz:Nat}{l l':List (List C)}(h:FrzR H S l l'):FrzC H S (.sl fl sz l) (.sl false sz l'):=
 .sl fl sz l l' h.spec.1 (fun i r r' h1 h2=>(h.spec.2 i r r' h1 h2).spec.1) fun i r r' j c c' h1 h2 h3 h4=>(h.spec.2 i r r' h1 h2).spec.2 j c c' h3 h4
theorem FrzR.vsl {l sz n:Nat}{rows rows':List (List C)}(hS:S l=true)(hH:H l=.vec sz rows)(hn:n=rows.length)(h:FrzR H S rows rows'):FrzC H S (.vsl l sz 0 n) (.sl false sz rows'):=by
 subst hn
 exact .vsl l sz 0 rows.length rows rows rows' hS hH (by omega) (by simp) h.spec.1 (fun i r r' h1 h2=>(h.spec.2 i r r' h1 h2).spec.1) fun i r r' j c c' h1 h2 h3 h4=>(h.spec.2 i r r' h1 h2).spec.2 j c c' h3 h4
end Go.AE.Y
namespace Go.AE
open Go.AE.Y
variable {H:Heap}{S:Nat→Bool}
theorem FrzL.same {l:List C}(h:noOw l=true):FrzL H S l l:=by
 induction l with
 |nil=>exact .nil
 |cons c r ih=>
  simp only[noOw,List.all_cons,Bool.and_eq_true,Bool.not_eq_true']at h ih
  exact .cons (.same _ h.1) (ih (by simpa using h.2))
end Go.AE
namespace Go.AE.Y
variable {H:Heap}{S:Nat→Bool}
theorem FrzR.same {l:List (List C)}(h:∀r∈l,noOw r=true):FrzR H S l l:=by
 induction l with
 |nil=>exact .nil
 |cons c r ih=>exact .cons (.same (h _ List.mem_cons_self)) (ih fun x hx=>h x (List.mem_cons_of_mem _ hx))
theorem FrzR.app {a a' b b':List (List C)}(h:FrzR H S a a')(k:FrzR H S b b'):FrzR H S (a++b) (a'++b'):=by
 induction h with
 |nil=>exact k
 |cons h t ih=>exact .cons h ih
inductive Sl (H:Heap)(S:Nat→Bool)(sz:Nat)(rows:List (List C)):C→Prop
 |sl (fl:Bool):Sl H S sz rows (.sl fl sz rows)
 |vsl (l n:Nat) (hS:S l=true) (hH:H l=.vec sz rows) (hn:n=rows.length):Sl H S sz rows (.vsl l sz 0 n)
theorem Sl.frz {sz:Nat}{rows:List (List C)}{c:C}(h:Sl H S sz rows c)(hr:∀r∈rows,noOw r=true):FrzC H S c (.sl false sz rows):=by
 cases h with
 |sl fl=>exact (FrzR.same hr).sl
 |vsl l n h1 h2 h3=>exact (FrzR.same hr).vsl h1 h2 h3
end Go.AE.Y
namespace Go.AE
open Go.AE.Y
variable {H:Heap}{S:Nat→Bool}
theorem Upd.set2 {H H':Heap}{a b:Nat}{oa ob o:Obj}(h:Upd H H' [(a,oa),(b,ob)])(hn:a≠b):Upd H (H'.set b o) [(a,oa),(b,o)]:=by
 refine⟨fun p hp=>?_,fun m hm hx=>?_⟩
 ·simp at hp
  rcases hp with rfl|rfl
  ·show (H'.set b o) a=oa
   rw[Heap.set_other _ _ hn];exact h.1 (a,oa) (by simp)
  ·exact Heap.set_same _ _ _
 ·have:m≠b:=by simp at hx;exact hx.2
  rw[Heap.set_other _ _ this];exact h.2 m hm (by simpa using hx)
end Go.AE
namespace Go.AE.Y
variable {H:Heap}{S:Nat→Bool}
inductive St where
 |mk (op:Int) (name:List UInt8) (args:List Ex) (body els:List St)
def St.op:St→Int|.mk op _ _ _ _=>op
def St.name:St→List UInt8|.mk _ s _ _ _=>s
def St.args:St→List Ex|.mk _ _ a _ _=>a
def St.body:St→List St|.mk _ _ _ b _=>b
def St.els:St→List St|.mk _ _ _ _ e=>e
mutual
def St.cells:St→List C
 |.mk op name args body els=>[.int .i64 op,.str name,.sl false 4 (Qbr args),.sl false 5 (Qa3 body),.sl false 5 (Qa3 els)]
def Qa3:List St→List (List C)
 |[]=>[]
 |x::r=>x.cells::Qa3 r
end
theorem St.cells_eq (x:St):x.cells=[.int .i64 x.op,.str x.name,.sl false 4 (Qbr x.args),.sl false 5 (Qa3 x.body),.sl false 5 (Qa3 x.els)]:=by
 cases x;simp[St.cells,St.op,St.name,St.args,St.body,St.els]
theorem Qua (l:List St):Qa3 l=l.map St.cells:=by
 induction l with
 |nil=>simp[Qa3]
 |cons x r ih=>simp[Qa3,ih]
theorem Qbb (l:List St):(Qa3 l).length=l.length:=by simp[Qua]
theorem Qdq (l:List St)(i:Nat)(h:i<l.length):(Qa3 l).getD i []=(l[i]'h).cells:=by
 simp[Qua,List.getD_eq_getElem?_getD,h]
theorem Q9f (a b:List St):Qa3 a++Qa3 b=Qa3 (a++b):=by simp[Qua]
theorem St.noOw (x:St):Go.AE.noOw x.cells=true:=by rw[x.cells_eq];rfl
theorem Qey (l:List St):∀r∈Qa3 l,Go.AE.noOw r=true:=by
 intro r hr;rw[Qua]at hr;obtain⟨x,_,rfl⟩:=List.mem_map.1 hr;exact x.noOw
theorem St.cells_len (x:St):x.cells.length=5:=by rw[x.cells_eq];rfl
mutual
def St.size:St→Nat
 |.mk _ _ args body els=>1+Qag args+Qy body+Qy els
def Qy:List St→Nat
 |[]=>0
 |x::r=>x.size+Qy r
end
mutual
def St.ok:St→Prop
 |.mk _ _ args body els=>0<args.length∧Qc8 args∧Qcn body∧Qcn els
def Qcn:List St→Prop
 |[]=>True
 |x::r=>x.ok∧Qcn r
end
theorem Qa80 {l:List St}(h:Qcn l):∀x∈l,x.ok:=by
 induction l with
 |nil=>simp
 |cons y r ih=>
  simp only[Qcn]at h
  intro x hx
  rcases List.mem_cons.1 hx with rfl|hx
  ·exact h.1
  ·exact ih h.2 x hx
theorem Q9g {a b:List St}(ha:Qcn a)(hb:Qcn b):Qcn (a++b):=by
 induction a with
 |nil=>exact hb
 |cons x r ih=>simp only[Qcn]at ha;exact⟨ha.1,ih ha.2⟩
theorem Qfo (a b:List St):Qy (a++b)=Qy a+Qy b:=by
 induction a with
 |nil=>simp[Qy]
 |cons x r ih=>simp[Qy,ih];omega
theorem St.size_eq (x:St):x.size=1+Qag x.args+Qy x.body+Qy x.els:=by cases x;simp[St.size,St.args,St.body,St.els]
theorem St.ok_eq (x:St):x.ok=(0<x.args.length∧Qc8 x.args∧Qcn x.body∧Qcn x.els):=by cases x;simp[St.ok,St.args,St.body,St.els]
theorem Qi4 {l:List St}{x:St}(h:x∈l):x.size≤Qy l:=by
 induction l with
 |nil=>simp at h
 |cons y r ih=>
  simp only[Qy]
  rcases List.mem_cons.1 h with rfl|h
  ·omega
  ·have:=ih h;omega
structure Fn where
 name:List UInt8
 params:List (List UInt8)
 body:List St
def Fn.cells (f:Fn):List C:=[.str f.name,.sl false 1 (Qbk f.params),.sl false 5 (Qa3 f.body)]
def Qb5 (l:List Fn):List (List C):=l.map Fn.cells
theorem Qbj (l:List Fn):(Qb5 l).length=l.length:=by simp[Qb5]
theorem Qev (l:List Fn)(i:Nat)(h:i<l.length):(Qb5 l).getD i []=(l[i]'h).cells:=by
 simp[Qb5,List.getD_eq_getElem?_getD,h]
theorem Qadd (a:List Fn)(x:Fn):Qb5 a++[x.cells]=Qb5 (a++[x]):=by simp[Qb5]
theorem Fn.noOw (x:Fn):Go.AE.noOw x.cells=true:=rfl
theorem Fn.cells_len (x:Fn):x.cells.length=3:=rfl
theorem Qadc (l:List Fn):∀r∈Qb5 l,Go.AE.noOw r=true:=by
 intro r hr;obtain⟨x,_,rfl⟩:=List.mem_map.1 hr;exact x.noOw
structure GS where
 fns:List Fn
 ffl:C×List (Nat×Obj)
 vars:List (List UInt8)
 vfl:Bool
 next:Int
 left:Int
def GS.o (s:GS)(R:Rdr):Obj:=.st [.ptr R.l 0,s.ffl.1,.sl s.vfl 1 (Qbk s.vars),.int .i64 s.next,.int .i64 s.left]
theorem GS.o_ne (s:GS)(R:Rdr):s.o R≠.none:=by simp[GS.o]
structure GS.ok (s:GS)(k:Nat):Prop where
 n0:-1≤s.next
 n1:s.next≤k+10
 l0:-(4 * (k:Int)+10)≤s.left
 l1:s.left≤100
 v:s.vars.length≤k+10
 f:∀f∈s.fns,f.params.length≤3
 fn:s.fns.length≤3
theorem GS.ok.mono {s:GS}{k k':Nat}(h:s.ok k)(hk:k≤k'):s.ok k':=
 ⟨h.n0,by have:=h.n1;omega,by have:=h.l0;omega,h.l1,by have:=h.v;omega,h.f,h.fn⟩
end Go.AE.Y

namespace Go.AE
variable {H0 H H':Heap}{E L B:List (Nat×Obj)}
theorem Upd.drop2 {H H':Heap}{a b:Nat}{oa ob:Obj}(h:Upd H H' [(a,oa),(b,ob)])(hb:H b=ob):Upd H H' [(a,oa)]:=by
 refine⟨fun p hp=>h.1 p (by simp at hp;subst hp;simp),fun m hm hx=>?_⟩
 by_cases hmb:m=b
 ·subst hmb;rw[hb];exact h.1 (m,ob) (by simp)
 ·exact h.2 m hm (by simp at hx⊢;exact⟨hx,hmb⟩)
theorem Kn.perm {L':List (Nat×Obj)}(h:Kn H0 H E L)(hp:L.Perm L'):Kn H0 H E L':=
 ⟨fun p hp'=>h.get p (by
   rcases List.mem_append.1 hp' with a|a
   ·exact List.mem_append_left _ a
   ·exact List.mem_append_right _ (hp.mem_iff.2 a)),h.ext,fun p hp'=>h.loc p (hp.mem_iff.2 hp'),h.dE,(hp.map Prod.fst).nodup_iff.1 h.dL,h.chg⟩
def Gr (Lg:List (Nat×Obj))(sz:Nat)(rows:List (List C))(c:C):Prop:=
 (c=.sl true sz []∧rows=[]∧Lg=[])∨∃y,c=.vsl y sz 0 rows.length∧Lg=[(y,.vec sz rows)]
theorem Gr.nil (sz:Nat):Gr [] sz [] (.sl true sz []):=.inl ⟨rfl,rfl,rfl⟩
theorem Gr.mk (y sz:Nat)(rows:List (List C)){n:Nat}(hn:n=rows.length):Gr [(y,.vec sz rows)] sz rows (.vsl y sz 0 n):=.inr ⟨y,by rw[hn],rfl⟩
variable {sz:Nat}{rows:List (List C)}{c:C}{Lg:List (Nat×Obj)}
theorem Gr.isOw (h:Gr Lg sz rows c):c.isOw=false:=by rcases h with ⟨rfl,_⟩|⟨y,rfl,_⟩ <;> rfl
theorem Gr.elemSz (h:Gr Lg sz rows c):c.elemSz=sz:=by rcases h with ⟨rfl,_⟩|⟨y,rfl,_⟩ <;> rfl
theorem Gr.lenC (h:Gr Lg sz rows c):lenC c=rows.length:=by
 rcases h with ⟨rfl,rfl,_⟩|⟨y,rfl,_⟩ <;> rfl
theorem Gr.get (h:Gr Lg sz rows c)(kn:Kn H0 H E (B++Lg)):okSl H c∧rowsOf H c=rows:=by
 rcases h with ⟨rfl,rfl,_⟩|⟨y,rfl,rfl⟩
 ·exact⟨trivial,rfl⟩
 ·have hy:H y=.vec sz rows:=(kn.get (y,.vec sz rows) (by simp)).1
  refine⟨?_,?_⟩
  ·simp[okSl,hy]
  ·simp[rowsOf,hy]
theorem Gr.okSl (h:Gr Lg sz rows c)(kn:Kn H0 H E (B++Lg)):Go.AE.okSl H c:=(h.get kn).1
theorem Gr.rowsOf (h:Gr Lg sz rows c)(kn:Kn H0 H E (B++Lg)):Go.AE.rowsOf H c=rows:=(h.get kn).2
theorem Gr.frz (h:Gr Lg sz rows c)(kn:Kn H0 H E (B++Lg))(hr:∀r∈rows,noOw r=true):FrzC H (un H0) c (.sl false sz rows):=by
 rcases h with ⟨rfl,rfl,_⟩|⟨y,rfl,rfl⟩
 ·exact Y.FrzR.nil.sl
 ·exact (Y.FrzR.same hr).vsl (Qdr (kn.loc (y,.vec sz rows) (by simp))) (kn.get (y,.vec sz rows) (by simp)).1 rfl
theorem Gr.frzR {rows':List (List C)}(h:Gr Lg sz rows c)(kn:Kn H0 H E (B++Lg))(hr:Y.FrzR H (un H0) rows rows'):FrzC H (un H0) c (.sl false sz rows'):=by
 rcases h with ⟨rfl,rfl,_⟩|⟨y,rfl,rfl⟩
 ·cases hr;exact Y.FrzR.nil.sl
 ·exact hr.vsl (Qdr (kn.loc (y,.vec sz rows) (by simp))) (kn.get (y,.vec sz rows) (by simp)).1 rfl
structure Slc (H:Heap)(sz:Nat)(rws:List (List C))(b:C):Prop where
 ok:okSl H b
 sz:b.elemSz=sz
 rows:rowsOf H b=rws
 len:Go.AE.lenC b=rws.length
theorem Slc.mk' (H:Heap)(fl:Bool)(sz:Nat)(rows:List (List C)):Slc H sz rows (.sl fl sz rows):=⟨trivial,rfl,rfl,rfl⟩
theorem Kn.grow {K:V→Heap→Prop}{new:List (List C)}{b:C}(kn:Kn H0 H E (B++Lg))(hc:Gr Lg sz rows c)(hb:Slc H sz new b)
  (h1:∀r∈new,noOw r=true) (h2:rows.length+new.length≤LIM)
  (h:∀y' H',Kn H0 H' E (B++[(y',.vec sz (rows++new))])→K (.c (.vsl y' sz 0 (rows.length+new.length))) H'):appQ H sz c b K:=by
 refine⟨hb.ok,hb.sz,?_⟩
 rcases hc with ⟨rfl,rfl,rfl⟩|⟨y,rfl,rfl⟩
 ·simp only[hb.rows,hb.len,List.nil_append,List.length_nil,Nat.zero_add]
  refine⟨trivial,.inl trivial,h1,by simpa using h2,fun l hl H' hH'=>?_⟩
  rw[List.append_nil]at kn
  have:=h l H' (by simpa using kn.al hl hH')
  simpa using this
 ·have hy:H y=.vec sz rows:=(kn.get (y,.vec sz rows) (by simp)).1
  simp only[hy,hb.rows,hb.len,List.drop_zero,List.take_length]
  refine⟨trivial,trivial,by omega,h1,h2,fun l' hl' H' hH'=>?_⟩
  refine h l' H' ?_
  have:=kn.ap B.length (y:=y) (o:=.vec sz rows) (by simp) hl' hH'
  simpa using this
end Go.AE
namespace Go.AE.Y
variable {H H':Heap}{R:Rdr}{gl:Nat}{s s':GS}{L:List (Nat×Obj)}{o q:Obj}
def FnsOk (H:Heap)(R:Rdr)(gl:Nat)(s:GS):Prop:=Gr s.ffl.2 3 (Qb5 s.fns) s.ffl.1∧∀p∈s.ffl.2,H p.1=p.2∧p.1≠R.l∧p.1≠gl
theorem FnsOk.keep (h:FnsOk H R gl s)(kn:Kn H H' [(R.l,o),(gl,q)] L)(h1:s'.fns=s.fns)(h2:s'.ffl=s.ffl):FnsOk H' R gl s':=by
 refine⟨by rw[h1,h2];exact h.1,fun p hp=>?_⟩
 rw[h2]at hp
 obtain⟨a1,a2,a3⟩:=h.2 p hp
 refine⟨?_,a2,a3⟩
 have hn:p.2≠.none:=by
  rcases h.1 with ⟨_,_,hx⟩|⟨y,_,hx⟩
  ·rw[hx]at hp;simp at hp
  ·rw[hx]at hp;simp at hp;subst hp;simp
 rw[kn.chg p.1 (by rw[a1];exact hn) (by simp[a2,a3]),a1]
theorem FnsOk.rd (h:FnsOk H R gl s):okSl H s.ffl.1=True∧rowsOf H s.ffl.1=Qb5 s.fns:=by
 rcases h.1 with ⟨h1,h2,h3⟩|⟨y,h1,h3⟩
 ·rw[h1,h2];exact⟨rfl,rfl⟩
 ·have hy:H y=.vec 3 (Qb5 s.fns):=(h.2 (y,.vec 3 (Qb5 s.fns)) (by rw[h3];simp)).1
  rw[h1];exact⟨by simp[okSl,hy],by simp[rowsOf,hy]⟩
theorem FnsOk.ok (h:FnsOk H R gl s)(kn:Kn H H' [(R.l,o),(gl,q)] L):okSl H' s.ffl.1=True:=(h.keep kn rfl rfl).rd.1
theorem FnsOk.rows (h:FnsOk H R gl s)(kn:Kn H H' [(R.l,o),(gl,q)] L):rowsOf H' s.ffl.1=Qb5 s.fns:=(h.keep kn rfl rfl).rd.2
theorem FnsOk.len (h:FnsOk H R gl s):lenC s.ffl.1=s.fns.length:=by rw[h.1.lenC,Qbj]
theorem FnsOk.esz (h:FnsOk H R gl s):s.ffl.1.elemSz=3:=h.1.elemSz
theorem FnsOk.ow (h:FnsOk H R gl s):s.ffl.1.isOw=false:=h.1.isOw
end Go.AE.Y

namespace Go.AE
variable {H0 H H':Heap}{E L B E0 L0 Lg:List (Nat×Obj)}
def New (H H':Heap)(N:List (Nat×Obj)):Prop:=∀p∈N,H p.1=.none∧H' p.1=p.2
theorem Kn.add1 (kn0:Kn H0 H E0 L0)(kn:Kn H0 H' E L)(hE:E.map Prod.fst=E0.map Prod.fst)(hL:L.map Prod.fst=L0.map Prod.fst){x:Nat}{o:Obj}(hx:H x=.none)(hx':H' x=o)(ho:o≠.none):Kn H0 H' E (L++[(x,o)]):=by
 obtain⟨h1,h2,h3⟩:=kn0.newFree hx
 refine⟨fun p hp=>?_,kn.ext,fun p hp=>?_,kn.dE,?_,kn.chg⟩
 ·rw[←List.append_assoc]at hp
  rcases List.mem_append.1 hp with hp|hp
  ·exact kn.get p hp
  ·simp at hp;subst hp;exact⟨hx',ho⟩
 ·rcases List.mem_append.1 hp with hp|hp
  ·exact kn.loc p hp
  ·simp at hp;subst hp;exact h1
 ·rw[List.map_append]
  refine List.nodup_append.2 ⟨kn.dL,by simp,fun a ha b hb=>?_⟩
  simp at hb;subst hb;rw[hL]at ha;exact fun hh=>h3 (hh▸ha)
theorem Kn.addGr {sz:Nat}{rows:List (List C)}{c:C}(kn0:Kn H0 H E0 L0)(kn:Kn H0 H' E L)(hE:E.map Prod.fst=E0.map Prod.fst)(hL:L.map Prod.fst=L0.map Prod.fst)(hg:Gr Lg sz rows c)(hn:New H H' Lg):Kn H0 H' E (L++Lg):=by
 rcases hg with ⟨_,_,rfl⟩|⟨y,_,rfl⟩
 ·simpa using kn
 ·obtain⟨h1,h2⟩:=hn (y,.vec sz rows) (by simp)
  exact kn0.add1 kn hE hL h1 h2 (by simp)
def unx (H:Heap)(Lg:List (Nat×Obj))(m:Nat):Bool:=un H m&&!(Lg.map Prod.fst).contains m
theorem Qa0i {m:Nat}(h:H m≠.none):unx H Lg m=false:=by simp[unx,Qaza h]
theorem Qbfa {p:Nat×Obj}(h:p∈Lg):unx H Lg p.1=false:=by
 have:p.1∈Lg.map Prod.fst:=Qal h
 simp only[unx,Bool.and_eq_false_iff,Bool.not_eq_false']
 exact .inr (List.contains_iff_mem.2 this)
theorem Kn.unx (hk:Kn H0 H E (B++Lg)){p:Nat×Obj}(h:p∈B):Go.AE.unx H0 Lg p.1=true:=by
 have h1:=hk.loc p (List.mem_append_left _ h)
 have h2:p.1∉Lg.map Prod.fst:=fun hh=>by
  have:=hk.dL
  rw[List.map_append]at this
  exact (List.nodup_append.1 this).2.2 _ (Qal h) _ hh rfl
 simp only[Go.AE.unx,Qdr h1,Bool.true_and,Bool.not_eq_true',Bool.eq_false_iff]
 intro hh
 exact h2 (List.contains_iff_mem.1 hh)
theorem Kn.finx (hk:Kn H0 H E (B++Lg)):Upd H0 (H.frz (Go.AE.unx H0 Lg)) E∧New H0 (H.frz (Go.AE.unx H0 Lg)) Lg:=by
 refine⟨⟨fun p hp=>?_,fun m hm hn=>?_⟩,fun p hp=>⟨hk.loc p (List.mem_append_right _ hp),?_⟩⟩
 ·have:H.frz (Go.AE.unx H0 Lg) p.1=H p.1:=by simp[Heap.frz,Qa0i (hk.ext p hp)]
  rw[this];exact (hk.get p (List.mem_append_left _ hp)).1
 ·have:H.frz (Go.AE.unx H0 Lg) m=H m:=by simp[Heap.frz,Qa0i hm]
  rw[this];exact hk.chg m hm hn
 ·have:H.frz (Go.AE.unx H0 Lg) p.1=H p.1:=by simp only[Heap.frz];rw[Qbfa hp];rfl
  rw[this];exact (hk.get p (List.mem_append_right _ (List.mem_append_right _ hp))).1
end Go.AE
namespace Go.AE.Y
theorem Qd7 {b:Bool}(h:(!b)=false):b=true:=by simpa using h
theorem Qrt {b:Bool}(h:(!b)=true):b=false:=by simpa using h
theorem Ex.ne_nil (x:Ex):(x.cells=[])=False:=by rw[x.cells_eq];simp
theorem St.ne_nil (x:St):(x.cells=[])=False:=by rw[x.cells_eq];simp
theorem Fn.ne_nil (x:Fn):(x.cells=[])=False:=by simp[Fn.cells]
theorem Ex.take4 (x:Ex):x.cells.take 4=x.cells:=List.take_of_length_le (by rw[x.cells_len];omega)
theorem Ex.allOw (x:Ex):(x.cells.all fun c=>!c.isOw)=true:=x.noOw
theorem St.take5 (x:St):x.cells.take 5=x.cells:=List.take_of_length_le (by rw[x.cells_len];omega)
theorem St.allOw (x:St):(x.cells.all fun c=>!c.isOw)=true:=x.noOw
theorem Fn.take3 (x:Fn):x.cells.take 3=x.cells:=List.take_of_length_le (by rw[x.cells_len];omega)
theorem Fn.allOw (x:Fn):(x.cells.all fun c=>!c.isOw)=true:=x.noOw
end Go.AE.Y

namespace Go.AE
variable {H0 H H':Heap}{E L B A:List (Nat×Obj)}{P:Program}
theorem c_gh {b:SC}{Q:X→Env→Heap→Prop}{e e':Env}(h:Qbc0 e H e' H')(hb:Qab P b Q e' H'):Qab P (.seq .gh b) Q e H:=⟨e',H',h,hb⟩
theorem Kn.drop (kn:Kn H0 H E (A++B)):Kn H0 H E A:=
 ⟨fun p hp=>kn.get p (by
   rcases List.mem_append.1 hp with h|h
   ·exact List.mem_append_left _ h
   ·exact List.mem_append_right _ (List.mem_append_left _ h)),kn.ext,fun p hp=>kn.loc p (List.mem_append_left _ hp),kn.dE,by
   have:=kn.dL;rw[List.map_append]at this;exact (List.nodup_append.1 this).1,kn.chg⟩
theorem Kn.freeze {z gl:Nat}{o og og':Obj}(kn:Kn H0 H E (B++[(z,o)]))(i:Nat)(hB:B[i]? = some (gl,og))(hO:FrzO H (fun m=>m == z) og og')(hn:og'≠.none) :
  FrzH H (fun m=>m == z) ((H.frz fun m=>m == z).set gl og')∧Kn H0 ((H.frz fun m=>m == z).set gl og') E (B.set i (gl,og')):=by
 have hzf:H0 z=.none:=kn.loc (z,o) (by simp)
 have hnd:=kn.dL
 rw[List.map_append]at hnd
 have hne:∀p∈B,p.1≠z:=fun p hp hh=>(List.nodup_append.1 hnd).2.2 _ (Qal hp) z (by simp) hh
 have hneE:∀p∈E,p.1≠z:=fun p hp hh=>kn.ext p hp (hh▸hzf)
 have hgl:=hne _ (List.mem_of_getElem? hB)
 have hH:H gl=og:=(kn.get (gl,og) (List.mem_append_right _ (List.mem_append_left _ (List.mem_of_getElem? hB)))).1
 refine⟨(Qep _ _).set (by simpa using hgl) (by rw[hH];exact hO),?_⟩
 have kn1:Kn H0 (H.frz fun m=>m == z) E B:=by
  refine⟨fun p hp=>?_,kn.ext,fun p hp=>kn.loc p (List.mem_append_left _ hp),kn.dE,(List.nodup_append.1 hnd).1,fun m hm hx=>?_⟩
  ·have:p.1≠z:=by
    rcases List.mem_append.1 hp with h|h
    ·exact hneE p h
    ·exact hne p h
   have h2:(H.frz fun m=>m == z) p.1=H p.1:=by simp[Heap.frz,this]
   rw[h2]
   refine kn.get p ?_
   rcases List.mem_append.1 hp with h|h
   ·exact List.mem_append_left _ h
   ·exact List.mem_append_right _ (List.mem_append_left _ h)
  ·have:m≠z:=fun h=>hm (h▸hzf)
   have h2:(H.frz fun m=>m == z) m=H m:=by simp[Heap.frz,this]
   rw[h2];exact kn.chg m hm hx
 exact kn1.setL i hB hn
theorem Kn.callEL (hk:Kn H0 H E L)(i j:Nat){l m:Nat}{o o' q q':Obj}(h:E[i]? = some (l,o))(h2:L[j]? = some (m,q))(hu:Upd H H' [(l,o'),(m,q')])(ho:o'≠.none)(hq:q'≠.none) :
  Kn H0 H' (E.set i (l,o')) (L.set j (m,q')):=by
 refine hk.callg hu (Qbu h) (Qbu h2) (fun p hp=>?_) (fun u hu=>?_)
 ·rcases List.mem_append.1 hp with hp|hp
  ·rcases Qbg hp with rfl|⟨b,hb,hp⟩
   ·exact⟨ho,.inl (by simp)⟩
   ·have hm:=List.mem_append_left L (List.mem_of_getElem? hp)
    refine⟨(hk.get p hm).2,.inr ⟨hm,?_⟩⟩
    simp only[List.map_cons,List.map_nil,List.mem_cons,List.not_mem_nil,or_false,not_or]
    exact⟨fun hh=>hb (Qcc hk.dE hp h hh),fun hh=>hk.ext p (List.mem_of_getElem? hp) (hh▸hk.free j h2)⟩
  ·rcases Qbg hp with rfl|⟨b,hb,hp⟩
   ·exact⟨hq,.inl (by simp)⟩
   ·have hm:=List.mem_append_right E (List.mem_of_getElem? hp)
    refine⟨(hk.get p hm).2,.inr ⟨hm,?_⟩⟩
    simp only[List.map_cons,List.map_nil,List.mem_cons,List.not_mem_nil,or_false,not_or]
    exact⟨fun hh=>hk.usedE i h (hh▸hk.loc p (List.mem_of_getElem? hp)),fun hh=>hb (Qcc hk.dL hp h2 hh)⟩
 ·simp at hu
  rcases hu with rfl|rfl
  ·exact .inl (Qal (p:=(l,o)) (List.mem_of_getElem? h))
  ·exact .inr (Qal (p:=(m,q)) (List.mem_of_getElem? h2))
end Go.AE

namespace Go.AE.Y
structure Blk where
 ic:C
 irows:List (List C)
 lg:List (Nat×Obj)
 jump:Int
 on:Int
 nfl:Bool
 next:List Int
def Blk.row (b:Blk):List C:=[.sl true 2 [],b.ic,.int .i64 b.jump,.int .i64 b.on,.sl b.nfl 1 (Qb b.next)]
structure LS where
 fns:List Fn
 pfl:Bool
 params:Int
 regs:Int
 bc:C
 lb:List (Nat×Obj)
 blocks:List Blk
 at_:Nat
 vc:C
 lv:List (Nat×Obj)
 vars:List (List C)
 next:Int
def LS.o (s:LS):Obj:=.st [.sl s.pfl 3 (Qb5 s.fns),.int .i64 s.params,.int .i64 s.regs,s.bc,.int .i64 s.at_,s.vc,.int .i64 s.next,.sl true 1 []]
def LS.L (s:LS)(w:Nat):List (Nat×Obj):=[(w,s.o)]++(s.lb++(s.lv++s.blocks.flatMap Blk.lg))
def InsRow (r:List C):Prop:=∃(op to n:Int) (fl:Bool) (args:List Int),r=[.int .i64 op,.int .i64 to,.sl fl 1 (Qb args),.int .i64 n]
def VarRow (r:List C):Prop:=∃(s:List UInt8) (a b:Int),r=[.str s,.int .i64 a,.int .i64 b]
def VGr (lv:List (Nat×Obj))(vars:List (List C))(c:C):Prop:=
 (c=.sl true 3 []∧vars=[]∧lv=[])∨∃y all n,c=.vsl y 3 0 n∧n≤all.length∧vars=all.take n∧lv=[(y,.vec 3 all)]
structure LInv (F H:Heap)(w:Nat)(s:LS):Prop where
 kn:Kn F H [] (s.L w)
 gb:Gr s.lb 5 (s.blocks.map Blk.row) s.bc
 gv:VGr s.lv s.vars s.vc
 gi:∀b∈s.blocks,Gr b.lg 4 b.irows b.ic
 ri:∀b∈s.blocks,∀r∈b.irows,InsRow r
 rv:∀r∈s.vars,VarRow r
structure LS.ok (s:LS)(N:Nat):Prop where
 r0:0≤s.regs
 r1:s.regs≤N
 n0:0≤s.next
 n1:s.next≤N
 b1:s.blocks.length≤N
 i1:∀b∈s.blocks,b.irows.length≤N
 v1:s.vars.length≤N
theorem LS.ok.mono {s:LS}{N M:Nat}(h:s.ok N)(hm:N≤M):s.ok M:=
 ⟨h.r0,by have:=h.r1;omega,h.n0,by have:=h.n1;omega,by have:=h.b1;omega,fun b hb=>by have:=h.i1 b hb;omega,by have:=h.v1;omega⟩
theorem InsRow.noOw {r:List C}(h:InsRow r):Go.AE.noOw r=true:=by obtain⟨_,_,_,_,_,rfl⟩:=h;rfl
theorem VarRow.noOw {r:List C}(h:VarRow r):Go.AE.noOw r=true:=by obtain⟨_,_,_,rfl⟩:=h;rfl
theorem VGr.isOw {lv:List (Nat×Obj)}{vars:List (List C)}{c:C}(h:VGr lv vars c):c.isOw=false:=by
 rcases h with ⟨rfl,_⟩|⟨_,_,_,rfl,_⟩ <;> rfl
theorem VGr.elemSz {lv:List (Nat×Obj)}{vars:List (List C)}{c:C}(h:VGr lv vars c):c.elemSz=3:=by
 rcases h with ⟨rfl,_⟩|⟨_,_,_,rfl,_⟩ <;> rfl
theorem VGr.lenC {lv:List (Nat×Obj)}{vars:List (List C)}{c:C}(h:VGr lv vars c):Go.AE.lenC c=vars.length:=by
 rcases h with ⟨rfl,rfl,_⟩|⟨_,_,_,rfl,h,rfl,_⟩
 ·rfl
 ·simp[Go.AE.lenC];omega
variable {F H H':Heap}{w:Nat}{s:LS}
theorem LInv.hw (h:LInv F H w s):H w=s.o:=h.kn.l 0 rfl
theorem LInv.vget (h:LInv F H w s):okSl H s.vc=True∧rowsOf H s.vc=s.vars:=by
 rcases h.gv with ⟨h1,h2,_⟩|⟨y,all,n,h1,h2,h3,h4⟩
 ·rw[h1,h2];exact⟨rfl,rfl⟩
 ·have hy:H y=.vec 3 all:=(h.kn.get (y,.vec 3 all) (by simp[LS.L,h4])).1
  rw[h1]
  refine⟨eq_true ?_,?_⟩
  ·simp only[Go.AE.okSl,hy];exact⟨trivial,by omega⟩
  ·simp only[Go.AE.rowsOf,hy,List.drop_zero,h3]
theorem LInv.bvec (h:LInv F H w s)(hb:0<s.blocks.length):∃y,s.bc=.vsl y 5 0 s.blocks.length∧s.lb=[(y,.vec 5 (s.blocks.map Blk.row))]∧H y=.vec 5 (s.blocks.map Blk.row):=by
 rcases h.gb with ⟨_,h2,_⟩|⟨y,h1,h2⟩
 ·simp at h2;rw[h2]at hb;simp at hb
 ·refine⟨y,by rw[h1];simp,h2,?_⟩
  exact (h.kn.get (y,.vec 5 (s.blocks.map Blk.row)) (by simp[LS.L,h2])).1
theorem LInv.setw {s':LS}(h:LInv F H w s)(h1:H'=H.set w s'.o)(a1:s'.lb=s.lb)(a2:s'.lv=s.lv)(a3:s'.blocks=s.blocks)(a4:s'.bc=s.bc)(a5:VGr s.lv s'.vars s'.vc)(a6:∀r∈s'.vars,VarRow r):LInv F H' w s':=by
 refine⟨?_,by rw[a1,a3,a4];exact h.gb,by rw[a2];exact a5,by rw[a3];exact h.gi,by rw[a3];exact h.ri,a6⟩
 have:=h.kn.stL 0 (x:=w) (o:=s.o) rfl h1 (by simp[LS.o])
 simp only[LS.L,a1,a2,a3]
 exact this
theorem Qbbb {α:Type}{A X Y:List α}:(A++(X++Y)).Perm ((A++Y)++X):=by
 rw[List.append_assoc]
 exact .append_left _ List.perm_append_comm
theorem LInv.addBlk {K:V→Heap→Prop}{fl:Bool}{b:Blk}(h:LInv F H w s)(hl:s.blocks.length+1≤LIM)(b1:b.lg=[])(b2:b.ic=.sl true 4 [])(b3:b.irows=[])
  (hK:∀(y:Nat) (H1:Heap),H1 w=s.o→(∀H2,H2=H1.set w (LS.o { s with bc:=.vsl y 5 0 (s.blocks.length+1) })→
   LInv F H2 w { s with bc:=.vsl y 5 0 (s.blocks.length+1),lb:=[(y,.vec 5 ((s.blocks++[b]).map Blk.row))],blocks:=s.blocks++[b] })→K (.c (.vsl y 5 0 (s.blocks.length+1))) H1) :
  appQ H 5 s.bc (.sl fl 5 [b.row]) K:=by
 have kn:=h.kn
 have kn:Kn F H [] (([(w,s.o)]++(s.lv++s.blocks.flatMap Blk.lg))++s.lb):=kn.perm Qbbb
 refine kn.grow h.gb (.mk' _ _ _ _) (by
  intro r hr;simp only[List.mem_singleton]at hr;subst hr;simp only[Blk.row,b2];rfl) (by simpa using hl) fun y H1 kn=>?_
 have e1:(s.blocks.map Blk.row).length+[b.row].length=s.blocks.length+1:=by simp
 rw[e1]
 refine hK y H1 (kn.l 0 rfl) fun H2 h2=>⟨?_,?_,h.gv,?_,?_,h.rv⟩
 ·have:=kn.stL 0 (x:=w) (o:=s.o) rfl h2 (by simp[LS.o])
  simp only[LS.L,List.flatMap_append,List.flatMap_cons,List.flatMap_nil,b1,List.append_nil,List.map_append,List.map_cons,List.map_nil]
  simp only[List.cons_append,List.nil_append,List.set_cons_zero]at this⊢
  refine this.perm (.cons _ ?_)
  exact List.perm_append_comm
 ·exact .mk _ _ _ (by simp)
 ·intro b' hb'
  rcases List.mem_append.1 hb' with hb'|hb'
  ·exact h.gi b' hb'
  ·simp at hb';subst hb';rw[b1,b2,b3];exact .nil 4
 ·intro b' hb'
  rcases List.mem_append.1 hb' with hb'|hb'
  ·exact h.ri b' hb'
  ·simp at hb';subst hb';rw[b3];simp
theorem Qgg {α β:Type}(f:α→List β)(l:List α)(i:Nat)(hi:i<l.length):(l.flatMap f).Perm (f l[i]++(l.eraseIdx i).flatMap f):=by
 have h1:(l[i]::l.eraseIdx i).Perm l:=by
  rw[List.eraseIdx_eq_take_drop_succ]
  refine List.perm_middle.symm.trans ?_
  rw[←List.drop_eq_getElem_cons hi,List.take_append_drop]
 have h2:=h1.symm.flatMap_right f
 simpa using h2
theorem Qen {α β:Type}(f:α→List β)(l:List α)(i:Nat)(x:α)(hi:i<l.length):((l.set i x).flatMap f).Perm (f x++(l.eraseIdx i).flatMap f):=by
 have:=Qgg f (l.set i x) i (by simpa using hi)
 simpa[List.eraseIdx_set_eq]using this
theorem Q3l (l:List Blk)(i:Nat)(b:Blk):(l.map Blk.row).set i b.row=(l.set i b).map Blk.row:=by rw[List.map_set]
theorem Qdj {l:List Blk}{i:Nat}{b x:Blk}(h:x∈l.set i b):x=b∨x∈l:=by
 rcases Qbg h with h|⟨j,_,h⟩
 ·exact .inl h
 ·exact .inr (List.mem_of_getElem? h)
theorem LInv.setBlk {b':Blk}{y i:Nat}(h:LInv F H w s)(hi:i<s.blocks.length)(hbc:s.bc=.vsl y 5 0 s.blocks.length)(hlb:s.lb=[(y,.vec 5 (s.blocks.map Blk.row))])
  (h1:H'=H.set y (.vec 5 ((s.blocks.set i b').map Blk.row))) (a1:b'.lg=s.blocks[i].lg) (a2:b'.ic=s.blocks[i].ic) (a3:b'.irows=s.blocks[i].irows) :
  LInv F H' w { s with lb:=[(y,.vec 5 ((s.blocks.set i b').map Blk.row))],blocks:=s.blocks.set i b' }:=by
 have hm:=List.getElem_mem hi
 refine⟨?_,?_,h.gv,fun b hb=>?_,fun b hb=>?_,h.rv⟩
 ·have kn:=h.kn
  simp only[LS.L,hlb]at kn
  have kn:=kn.stL 1 (x:=y) rfl h1
  refine kn.perm ?_
  simp only[LS.L,List.cons_append,List.nil_append,List.set_cons_zero,List.set_cons_succ]
  refine .cons _ (.cons _ (.append_left _ ?_))
  refine (Qgg Blk.lg s.blocks i hi).trans ?_
  rw[←a1]
  exact (Qen Blk.lg s.blocks i b' hi).symm
 ·simp only[hbc]
  exact .mk _ _ _ (by simp)
 ·rcases Qdj hb with rfl|hb
  ·rw[a1,a2,a3];exact h.gi _ hm
  ·exact h.gi b hb
 ·rcases Qdj hb with rfl|hb
  ·rw[a3];exact h.ri _ hm
  ·exact h.ri b hb
theorem LInv.addIns {K:V→Heap→Prop}{y i:Nat}{fl:Bool}{r:List C}(h:LInv F H w s)(hi:i<s.blocks.length)(hbc:s.bc=.vsl y 5 0 s.blocks.length)(hlb:s.lb=[(y,.vec 5 (s.blocks.map Blk.row))])
  (hr:InsRow r) (hl:s.blocks[i].irows.length+1≤LIM)
  (hK:∀(z:Nat) (H1:Heap),H1 w=s.o→H1 y=.vec 5 (s.blocks.map Blk.row)→
   (∀H2,H2=H1.set y (.vec 5 ((s.blocks.map Blk.row).set i (Blk.row { s.blocks[i]with ic:=.vsl z 4 0 (s.blocks[i].irows.length+1) })))→
    ∃b':Blk,b'.irows.length=s.blocks[i].irows.length+1∧LInv F H2 w { s with lb:=[(y,.vec 5 ((s.blocks.set i b').map Blk.row))],blocks:=s.blocks.set i b' })→K (.c (.vsl z 4 0 (s.blocks[i].irows.length+1))) H1) :
  appQ H 4 s.blocks[i].ic (.sl fl 4 [r]) K:=by
 have hm:=List.getElem_mem hi
 have kn:=h.kn
 simp only[LS.L]at kn
 have kn:Kn F H [] (([(w,s.o)]++(s.lb++(s.lv++(s.blocks.eraseIdx i).flatMap Blk.lg)))++s.blocks[i].lg):=kn.perm (by
  have h1:(s.blocks.flatMap Blk.lg).Perm ((s.blocks.eraseIdx i).flatMap Blk.lg++s.blocks[i].lg):=(Qgg Blk.lg s.blocks i hi).trans List.perm_append_comm
  refine ((h1.append_left _).append_left _ |>.append_left _).trans ?_
  simp only[List.append_assoc];exact .refl _)
 refine kn.grow (h.gi _ hm) (.mk' _ _ _ _) (by intro r' hr';simp only[List.mem_singleton]at hr';subst hr';exact hr.noOw) (by simpa using hl) fun z H1 kn=>?_
 have e1:s.blocks[i].irows.length+[r].length=s.blocks[i].irows.length+1:=by simp
 rw[e1]
 simp only[hlb]at kn
 refine hK z H1 (kn.l 0 rfl) (kn.l 1 rfl) fun H2 h2=>?_
 refine⟨{ s.blocks[i]with ic:=.vsl z 4 0 (s.blocks[i].irows.length+1),irows:=s.blocks[i].irows++[r],lg:=[(z,.vec 4 (s.blocks[i].irows++[r]))] },by simp,?_⟩
 have hrow:Blk.row { s.blocks[i]with ic:=.vsl z 4 0 (s.blocks[i].irows.length+1) }=Blk.row { s.blocks[i]with ic:=.vsl z 4 0 (s.blocks[i].irows.length+1),irows:=s.blocks[i].irows++[r],lg:=[(z,.vec 4 (s.blocks[i].irows++[r]))] }:=rfl
 rw[hrow,Q3l]at h2
 refine⟨?_,?_,h.gv,fun b hb=>?_,fun b hb=>?_,h.rv⟩
 ·have kn:=kn.stL 1 (x:=y) rfl h2
  refine kn.perm ?_
  simp only[LS.L]
  have h1:=(Qen Blk.lg s.blocks i { s.blocks[i]with ic:=.vsl z 4 0 (s.blocks[i].irows.length+1),irows:=s.blocks[i].irows++[r],lg:=[(z,.vec 4 (s.blocks[i].irows++[r]))] } hi).symm
  have h3:=(List.perm_append_comm.trans h1).append_left ([(w,s.o)]++([(y,Obj.vec 5 ((s.blocks.set i { s.blocks[i]with ic:=.vsl z 4 0 (s.blocks[i].irows.length+1),irows:=s.blocks[i].irows++[r],lg:=[(z,.vec 4 (s.blocks[i].irows++[r]))] }).map Blk.row))]++s.lv))
  refine List.Perm.trans ?_ (h3.trans ?_)
  ·simp only[List.set,List.cons_append,List.nil_append,List.append_assoc];exact .refl _
  ·simp only[List.cons_append,List.nil_append,List.append_assoc];exact .refl _
 ·simp only[hbc]
  exact .mk _ _ _ (by simp)
 ·rcases Qdj hb with rfl|hb
  ·exact .mk _ _ _ (by simp)
  ·exact h.gi b hb
 ·rcases Qdj hb with rfl|hb
  ·intro r' hr'
   rcases List.mem_append.1 hr' with hr'|hr'
   ·exact h.ri _ hm r' hr'
   ·simp at hr';subst hr';exact hr
  ·exact h.ri b hb
theorem LInv.addVar {K:V→Heap→Prop}{fl:Bool}{r:List C}(h:LInv F H w s)(hr:VarRow r)(hl:s.vars.length+1≤LIM)
  (hK:∀(y:Nat) (H1:Heap),H1 w=s.o→(∀H2,H2=H1.set w (LS.o { s with vc:=.vsl y 3 0 (s.vars.length+1) })→
   LInv F H2 w { s with vc:=.vsl y 3 0 (s.vars.length+1),lv:=[(y,.vec 3 (s.vars++[r]))],vars:=s.vars++[r] })→K (.c (.vsl y 3 0 (s.vars.length+1))) H1) :
  appQ H 3 s.vc (.sl fl 3 [r]) K:=by
 have hrv:∀r'∈s.vars++[r],VarRow r':=fun r' hr'=>by
  rcases List.mem_append.1 hr' with h1|h1
  ·exact h.rv r' h1
  ·simp at h1;subst h1;exact hr
 have kn:=h.kn
 have kn:Kn F H [] (([(w,s.o)]++(s.lb++s.blocks.flatMap Blk.lg))++s.lv):=kn.perm (by
  simp only[LS.L]
  refine List.Perm.trans (.append_left _ (.append_left _ List.perm_append_comm)) ?_
  simp only[List.append_assoc];exact .refl _)
 have fin:∀(y:Nat) (H1:Heap),Kn F H1 [] (([(w,s.o)]++(s.lb++s.blocks.flatMap Blk.lg))++[(y,.vec 3 (s.vars++[r]))])→K (.c (.vsl y 3 0 (s.vars.length+1))) H1:=by
  intro y H1 kn
  refine hK y H1 (kn.l 0 rfl) fun H2 h2=>⟨?_,h.gb,.inr ⟨y,s.vars++[r],s.vars.length+1,rfl,by simp,by rw[List.take_of_length_le (by simp)],rfl⟩,h.gi,h.ri,hrv⟩
  have kn:=kn.stL 0 (x:=w) (o:=s.o) rfl h2 (by simp[LS.o])
  refine kn.perm ?_
  simp only[LS.L,List.set,List.cons_append,List.nil_append,List.append_assoc]
  refine .cons _ (.append_left _ ?_)
  exact List.perm_append_comm
 refine⟨trivial,rfl,?_⟩
 rcases h.gv with ⟨h1,h2,h3⟩|⟨y,all,n,h1,h2,h3,h4⟩
 ·rw[h1]
  rw[h3,List.append_nil]at kn
  simp only[rowsOf,Go.AE.lenC,List.nil_append,List.length_nil,Nat.zero_add,List.length_singleton]
  refine⟨trivial,.inl trivial,by intro r' hr';simp only[List.mem_singleton]at hr';subst hr';exact hr.noOw,by simp only[LIM];omega,fun l hl H' hH'=>?_⟩
  have:=fin l H' (by rw[h2];simpa using kn.al hl hH')
  rw[h2]at this;exact this
 ·rw[h4]at kn
  have hy:H y=.vec 3 all:=(kn.get (y,.vec 3 all) (by simp)).1
  have hn:s.vars.length=n:=by rw[h3];simp;omega
  rw[h1]
  simp only[hy,rowsOf,Go.AE.lenC,List.drop_zero,List.length_singleton]
  refine⟨trivial,trivial,by omega,by intro r' hr';simp only[List.mem_singleton]at hr';subst hr';exact hr.noOw,by omega,fun l' hl' H' hH'=>?_⟩
  rw[←hn]at hH'⊢
  rw[hn,←h3]at hH'
  refine fin l' H' ?_
  have:=kn.ap ([(w,s.o)]++(s.lb++s.blocks.flatMap Blk.lg)).length (y:=y) (o:=.vec 3 all) (by simp) hl' hH'
  simpa using this
end Go.AE.Y

namespace Go.AE.Y
structure InsD where
 op:Int
 to:Int
 args:List Int
 n:Int
def InsD.cells (x:InsD):List C:=[.int .i64 x.op,.int .i64 x.to,.sl false 1 (Qb x.args),.int .i64 x.n]
structure PhiD where
 to:Int
 args:List Int
def PhiD.cells (x:PhiD):List C:=[.int .i64 x.to,.sl false 1 (Qb x.args)]
def Qak (l:List InsD):List (List C):=l.map InsD.cells
def Q0 (l:List PhiD):List (List C):=l.map PhiD.cells
structure BlkD where
 phis:List PhiD
 ins:List InsD
 jump:Int
 on:Int
 next:List Int
def BlkD.cells (x:BlkD):List C:=[.sl false 2 (Q0 x.phis),.sl false 4 (Qak x.ins),.int .i64 x.jump,.int .i64 x.on,.sl false 1 (Qb x.next)]
def Qm (l:List BlkD):List (List C):=l.map BlkD.cells
structure CodeD where
 params:Int
 regs:Int
 blocks:List BlkD
def CodeD.cells (x:CodeD):List C:=[.int .i64 x.params,.int .i64 x.regs,.sl false 5 (Qm x.blocks)]
def Qr (l:List CodeD):List (List C):=l.map CodeD.cells
theorem Qan (l:List InsD):(Qak l).length=l.length:=by simp[Qak]
theorem Q5 (l:List PhiD):(Q0 l).length=l.length:=by simp[Q0]
theorem Qj (l:List BlkD):(Qm l).length=l.length:=by simp[Qm]
theorem Q6 (l:List CodeD):(Qr l).length=l.length:=by simp[Qr]
theorem Qb1 (l:List InsD)(i:Nat)(h:i<l.length):(Qak l).getD i []=(l[i]'h).cells:=by simp[Qak,List.getD_eq_getElem?_getD,h]
theorem Qaz (l:List PhiD)(i:Nat)(h:i<l.length):(Q0 l).getD i []=(l[i]'h).cells:=by simp[Q0,List.getD_eq_getElem?_getD,h]
theorem Qaa (l:List BlkD)(i:Nat)(h:i<l.length):(Qm l).getD i []=(l[i]'h).cells:=by simp[Qm,List.getD_eq_getElem?_getD,h]
theorem Qah (l:List CodeD)(i:Nat)(h:i<l.length):(Qr l).getD i []=(l[i]'h).cells:=by simp[Qr,List.getD_eq_getElem?_getD,h]
theorem Qnj (l:List InsD):∀r∈Qak l,noOw r=true:=by intro r hr;obtain⟨x,_,rfl⟩:=List.mem_map.1 hr;rfl
theorem Q3p (l:List PhiD):∀r∈Q0 l,noOw r=true:=by intro r hr;obtain⟨x,_,rfl⟩:=List.mem_map.1 hr;rfl
theorem Q2m (l:List BlkD):∀r∈Qm l,noOw r=true:=by intro r hr;obtain⟨x,_,rfl⟩:=List.mem_map.1 hr;rfl
theorem Qb2 (l:List CodeD):∀r∈Qr l,noOw r=true:=by intro r hr;obtain⟨x,_,rfl⟩:=List.mem_map.1 hr;rfl
theorem Qajj (a:List CodeD)(x:CodeD):Qr a++[x.cells]=Qr (a++[x]):=by simp[Qr]
theorem Qa02 (a:List InsD)(x:InsD):Qak a++[x.cells]=Qak (a++[x]):=by simp[Qak]
variable {H:Heap}{S:Nat→Bool}
theorem Gr.frzM {Lg:List (Nat×Obj)}{sz:Nat}{rows rows':List (List C)}{c:C}(h:Gr Lg sz rows c)(hm:∀p∈Lg,H p.1=p.2∧S p.1=true)(hr:FrzR H S rows rows'):FrzC H S c (.sl false sz rows'):=by
 rcases h with ⟨rfl,rfl,rfl⟩|⟨y,rfl,rfl⟩
 ·cases hr;exact FrzR.nil.sl
 ·obtain⟨h1,h2⟩:=hm (y,.vec sz rows) (by simp)
  exact hr.vsl h2 h1 rfl
theorem InsRow.frz {r:List C}(h:InsRow r):∃d:InsD,FrzL H S r d.cells:=by
 obtain⟨op,to,n,fl,args,rfl⟩:=h
 exact⟨⟨op,to,args,n⟩,.cons (Qg rfl) (.cons (Qg rfl) (.cons (FrzR.same (Qu _)).sl (.cons (Qg rfl) .nil)))⟩
def CodeD.fits (c:CodeD):Prop:=∀b∈c.blocks,b.ins.length≤2^38∧b.phis.length≤2^38
theorem Q3c:∀(l:List (List C)),(∀r∈l,InsRow r)→∃ds:List InsD,FrzR H S l (Qak ds)
 |[],_=>⟨[],.nil⟩
 |r::l,h=>by
  obtain⟨d,hd⟩:=(h r List.mem_cons_self).frz (H:=H) (S:=S)
  obtain⟨ds,hds⟩:=Q3c l fun r' hr'=>h r' (List.mem_cons_of_mem _ hr')
  exact⟨d::ds,.cons hd hds⟩
theorem Qazf:∀(l:List Blk),(∀b∈l,Gr b.lg 4 b.irows b.ic∧(∀r∈b.irows,InsRow r)∧(∀p∈b.lg,H p.1=p.2∧S p.1=true)∧b.irows.length≤2^38)→
  ∃bs:List BlkD,FrzR H S (l.map Blk.row) (Qm bs)∧bs.length=l.length∧∀b∈bs,b.ins.length≤2^38∧b.phis.length≤2^38
 |[],_=>⟨[],.nil,rfl,by simp⟩
 |b::l,h=>by
  obtain⟨g1,g2,g3,g4⟩:=h b List.mem_cons_self
  obtain⟨bs,h1,h2,h3⟩:=Qazf l fun r' hr'=>h r' (List.mem_cons_of_mem _ hr')
  obtain⟨ds,hds⟩:=Q3c (H:=H) (S:=S) b.irows g2
  have hdl:=hds.spec.1
  rw[Qan]at hdl
  refine⟨⟨[],ds,b.jump,b.on,b.next⟩::bs,.cons ?_ h1,by simp[h2],fun b' hb'=>?_⟩
  ·exact .cons FrzR.nil.sl (.cons (Gr.frzM g1 g3 hds) (.cons (Qg rfl) (.cons (Qg rfl) (.cons (FrzR.same (Qu _)).sl .nil))))
  ·rcases List.mem_cons.1 hb' with rfl|hb'
   ·exact⟨by show ds.length≤_;omega,by simp⟩
   ·exact h3 b' hb'
end Go.AE.Y

namespace Go.AE
variable {H0 H H' F:Heap}{E L B A:List (Nat×Obj)}
theorem Kn.toFrame {y:Nat}{o:Obj}(kn:Kn F H [] (L++[(y,o)])):Kn (F.set y o) H [] L:=by
 have hnd:=kn.dL
 rw[List.map_append]at hnd
 have hne:∀p∈L,p.1≠y:=fun p hp hh=>(List.nodup_append.1 hnd).2.2 _ (Qal hp) y (by simp) hh
 refine⟨fun p hp=>kn.get p (by simp only[List.nil_append]at hp⊢;exact List.mem_append_left _ hp),by simp,fun p hp=>?_,by simp,(List.nodup_append.1 hnd).1,fun m hm _=>?_⟩
 ·rw[Heap.set_other _ _ (hne p hp)];exact kn.loc p (List.mem_append_left _ hp)
 ·by_cases h:m=y
  ·subst h;rw[Heap.set_same];exact (kn.get (m,o) (by simp)).1
  ·rw[Heap.set_other _ _ h]at hm⊢;exact kn.chg m hm (by simp)
theorem Kn.ofFrame {y:Nat}{o:Obj}(kn:Kn (F.set y o) H [] L)(hF:F y=.none)(ho:o≠.none):Kn F H [] (L++[(y,o)]):=by
 have hy:H y=o:=by have:=kn.chg y (by rw[Heap.set_same];exact ho) (by simp);rw[this,Heap.set_same]
 have hne:∀p∈L,p.1≠y:=fun p hp hh=>by have:=kn.loc p hp;rw[hh,Heap.set_same]at this;exact ho this
 refine⟨fun p hp=>?_,by simp,fun p hp=>?_,by simp,?_,fun m hm _=>?_⟩
 ·simp only[List.nil_append]at hp
  rcases List.mem_append.1 hp with hp|hp
  ·exact kn.get p (by simpa using hp)
  ·simp at hp;subst hp;exact⟨hy,ho⟩
 ·rcases List.mem_append.1 hp with hp|hp
  ·have:=kn.loc p hp;rw[Heap.set_other _ _ (hne p hp)]at this;exact this
  ·simp at hp;subst hp;exact hF
 ·rw[List.map_append]
  refine List.nodup_append.2 ⟨kn.dL,by simp,fun a ha b hb=>?_⟩
  simp at hb;subst hb
  obtain⟨p,hp,rfl⟩:=List.mem_map.1 ha
  exact hne p hp
 ·have hmy:m≠y:=fun h=>by subst h;exact hm hF
  have:=kn.chg m (by rw[Heap.set_other _ _ hmy];exact hm) (by simp)
  rw[this,Heap.set_other _ _ hmy]
theorem Kn.frz1 {z:Nat}{o:Obj}(kn:Kn H0 H E (B++[(z,o)])):Kn H0 (H.frz fun m=>m == z) E B:=by
 have hzf:H0 z=.none:=kn.loc (z,o) (by simp)
 have hnd:=kn.dL
 rw[List.map_append]at hnd
 have hne:∀p∈B,p.1≠z:=fun p hp hh=>(List.nodup_append.1 hnd).2.2 _ (Qal hp) z (by simp) hh
 have hneE:∀p∈E,p.1≠z:=fun p hp hh=>kn.ext p hp (hh▸hzf)
 refine⟨fun p hp=>?_,kn.ext,fun p hp=>kn.loc p (List.mem_append_left _ hp),kn.dE,(List.nodup_append.1 hnd).1,fun m hm hx=>?_⟩
 ·have:p.1≠z:=by
   rcases List.mem_append.1 hp with h|h
   ·exact hneE p h
   ·exact hne p h
  have h2:(H.frz fun m=>m == z) p.1=H p.1:=by simp[Heap.frz,this]
  rw[h2]
  refine kn.get p ?_
  rcases List.mem_append.1 hp with h|h
  ·exact List.mem_append_left _ h
  ·exact List.mem_append_right _ (List.mem_append_left _ h)
 ·have:m≠z:=fun h=>hm (h▸hzf)
  have h2:(H.frz fun m=>m == z) m=H m:=by simp[Heap.frz,this]
  rw[h2];exact kn.chg m hm hx
theorem Gr.freeze {Lg:List (Nat×Obj)}{sz:Nat}{rows:List (List C)}{c:C}(h:Gr Lg sz rows c)(kn:Kn H0 H E (B++Lg))(hr:∀r∈rows,noOw r=true) :
  ∃S H2,FrzC H S c (.sl false sz rows)∧FrzH H S H2∧Kn H0 H2 E B:=by
 rcases h with ⟨rfl,rfl,rfl⟩|⟨y,rfl,rfl⟩
 ·refine⟨fun _=>false,H,Y.FrzR.nil.sl,fun m=>.inr ⟨rfl,.same _⟩,by simpa using kn⟩
 ·exact⟨fun m=>m == y,_,(Y.FrzR.same hr).vsl (by simp) (kn.get (y,.vec sz rows) (by simp)).1 rfl,Qep _ _,kn.frz1⟩
end Go.AE
namespace Go.AE.Y
variable {F H H':Heap}{w:Nat}{s:LS}{Lg:List (Nat×Obj)}{sz:Nat}{rows:List (List C)}{c:C}
theorem LInv.re {H2:Heap}(h:LInv F H w s)(kn:Kn F H2 [] (s.L w)):LInv F H2 w s:=⟨kn,h.gb,h.gv,h.gi,h.ri,h.rv⟩
theorem LInv.beside (h:LInv F H w s)(kn:Kn F H [] (s.L w++Lg))(hg:Gr Lg sz rows c) :
  ∃F',LInv F' H w s∧∀(s':LS) (H':Heap),LInv F' H' w s'→LInv F H' w s'∧Kn F H' [] (s'.L w++Lg):=by
 rcases hg with ⟨_,_,rfl⟩|⟨y,_,rfl⟩
 ·exact⟨F,h,fun s' H' h'=>⟨h',by simpa using h'.kn⟩⟩
 ·refine⟨F.set y (.vec sz rows),⟨kn.toFrame,h.gb,h.gv,h.gi,h.ri,h.rv⟩,fun s' H' h'=>?_⟩
  have k2:=h'.kn.ofFrame (kn.loc (y,.vec sz rows) (by simp)) (by simp)
  exact⟨⟨k2.drop,h'.gb,h'.gv,h'.gi,h'.ri,h'.rv⟩,k2⟩
end Go.AE.Y

namespace Go.AE
variable {H0 H H':Heap}{E L N B:List (Nat×Obj)}
theorem Kn.comp0 (kn:Kn H0 H E L)(k2:Kn H H' [] N):Kn H0 H' E (L++N):=by
 have hne:∀p∈E++L,H p.1≠.none:=fun p hp=>by obtain⟨a,b⟩:=kn.get p hp;rw[a];exact b
 refine⟨fun p hp=>?_,kn.ext,fun p hp=>?_,kn.dE,?_,fun m hm hx=>?_⟩
 ·rw[←List.append_assoc]at hp
  rcases List.mem_append.1 hp with hp|hp
  ·obtain⟨a,b⟩:=kn.get p hp
   exact⟨by rw[k2.chg p.1 (hne p hp) (by simp),a],b⟩
  ·exact k2.get p (by simpa using hp)
 ·rcases List.mem_append.1 hp with hp|hp
  ·exact kn.loc p hp
  ·exact (kn.newFree (k2.loc p hp)).1
 ·rw[List.map_append]
  refine List.nodup_append.2 ⟨kn.dL,k2.dL,fun a ha b hb hab=>?_⟩
  obtain⟨p,hp,rfl⟩:=List.mem_map.1 ha
  obtain⟨q,hq,rfl⟩:=List.mem_map.1 hb
  exact hne p (List.mem_append_right _ hp) (by rw[hab];exact k2.loc q hq)
 ·have:=kn.chg m hm hx
  rw[k2.chg m (by rw[this];exact hm) (by simp),this]
theorem Kn.compE (kn:Kn H0 H E L)(i:Nat){l:Nat}{o o':Obj}(h:E[i]? = some (l,o))(k2:Kn H H' [(l,o')] N):Kn H0 H' (E.set i (l,o')) (L++N):=by
 have hne:∀p∈E++L,H p.1≠.none:=fun p hp=>by obtain⟨a,b⟩:=kn.get p hp;rw[a];exact b
 have hl:H' l=o'∧o'≠.none:=k2.get (l,o') (by simp)
 have hu:Upd H H' [(l,o')]:=⟨fun p hp=>by simp at hp;subst hp;exact hl.1,fun m hm hx=>k2.chg m hm hx⟩
 have k3:=kn.callE i h hu hl.2
 refine⟨fun p hp=>?_,k3.ext,fun p hp=>?_,k3.dE,?_,k3.chg⟩
 ·rw[←List.append_assoc]at hp
  rcases List.mem_append.1 hp with hp|hp
  ·exact k3.get p hp
  ·exact k2.get p (List.mem_append_right _ hp)
 ·rcases List.mem_append.1 hp with hp|hp
  ·exact kn.loc p hp
  ·exact (kn.newFree (k2.loc p hp)).1
 ·rw[List.map_append]
  refine List.nodup_append.2 ⟨kn.dL,k2.dL,fun a ha b hb hab=>?_⟩
  obtain⟨p,hp,rfl⟩:=List.mem_map.1 ha
  obtain⟨q,hq,rfl⟩:=List.mem_map.1 hb
  exact hne p (List.mem_append_right _ hp) (by rw[hab];exact k2.loc q hq)
theorem Kn.finK (hk:Kn H0 H E (B++N)):Kn H0 (H.frz (Go.AE.unx H0 N)) E N:=by
 obtain⟨h1,h2⟩:=hk.finx
 have hd:=hk.dL
 rw[List.map_append]at hd
 refine⟨fun p hp=>?_,hk.ext,fun p hp=>hk.loc p (List.mem_append_right _ hp),hk.dE,(List.nodup_append.1 hd).2.1,h1.2⟩
 rcases List.mem_append.1 hp with hp|hp
 ·exact⟨h1.1 p hp,(hk.get p (List.mem_append_left _ hp)).2⟩
 ·exact⟨(h2 p hp).2,(hk.get p (List.mem_append_right _ (List.mem_append_right _ hp))).2⟩
end Go.AE
namespace Go.AE.Y
structure OInts where
 ns:List Int
 y:Nat
def OInts.c (x:OInts):C:=.vsl x.y 1 0 x.ns.length
def OInts.lg (x:OInts):List (Nat×Obj):=[(x.y,.vec 1 (Qb x.ns))]
structure OPhi where
 to:Int
 ns:List Int
 ac:C
 lg:List (Nat×Obj)
def OPhi.row (x:OPhi):List C:=[.int .i64 x.to,x.ac]
def OPhi.ok (x:OPhi):Prop:=(∃y,x.ac=.vsl y 1 0 x.ns.length∧x.lg=[(y,.vec 1 (Qb x.ns))])∨(∃fl,x.ac=.sl fl 1 (Qb x.ns)∧x.lg=[])
def OPhi.own (x:OPhi):Prop:=∃y,x.ac=.vsl y 1 0 x.ns.length∧x.lg=[(y,.vec 1 (Qb x.ns))]
structure OIns where
 op:Int
 to:Int
 a:OInts
 n:Int
def OIns.row (x:OIns):List C:=[.int .i64 x.op,.int .i64 x.to,x.a.c,.int .i64 x.n]
def OIns.lg (x:OIns):List (Nat×Obj):=x.a.lg
structure OBlk where
 phis:List OPhi
 pc:C
 pl:List (Nat×Obj)
 ins:List OIns
 ic:C
 il:List (Nat×Obj)
 jump:Int
 on:Int
 nx:OInts
def OBlk.row (x:OBlk):List C:=[x.pc,x.ic,.int .i64 x.jump,.int .i64 x.on,x.nx.c]
def OBlk.lg (x:OBlk):List (Nat×Obj):=x.nx.lg++(x.phis.flatMap OPhi.lg++(x.pl++(x.ins.flatMap OIns.lg++x.il)))
structure OBlk.ok (x:OBlk):Prop where
 p:Gr x.pl 2 (x.phis.map OPhi.row) x.pc
 i:Gr x.il 4 (x.ins.map OIns.row) x.ic
 a:∀p∈x.phis,p.ok
structure OCode where
 params:Int
 regs:Int
 blocks:List OBlk
 bc:C
 bl:List (Nat×Obj)
def OCode.row (x:OCode):List C:=[.int .i64 x.params,.int .i64 x.regs,x.bc]
def OCode.lg (x:OCode):List (Nat×Obj):=x.blocks.flatMap OBlk.lg++x.bl
structure OCode.ok (x:OCode):Prop where
 b:Gr x.bl 5 (x.blocks.map OBlk.row) x.bc
 bs:∀b∈x.blocks,b.ok
def OPhi.d (x:OPhi):PhiD:=⟨x.to,x.ns⟩
def OIns.d (x:OIns):InsD:=⟨x.op,x.to,x.a.ns,x.n⟩
def OBlk.d (x:OBlk):BlkD:=⟨x.phis.map OPhi.d,x.ins.map OIns.d,x.jump,x.on,x.nx.ns⟩
def OCode.d (x:OCode):CodeD:=⟨x.params,x.regs,x.blocks.map OBlk.d⟩
theorem OPhi.noOw (x:OPhi)(h:x.ok):Go.AE.noOw x.row=true:=by
 rcases h with ⟨y,h,_⟩|⟨fl,h,_⟩ <;> simp only[Go.AE.noOw,OPhi.row,h] <;> rfl
theorem OIns.noOw (x:OIns):Go.AE.noOw x.row=true:=rfl
theorem OBlk.noOw (x:OBlk)(h:x.ok):Go.AE.noOw x.row=true:=by
 simp only[Go.AE.noOw,OBlk.row,OInts.c,List.all_cons,List.all_nil,h.p.isOw,h.i.isOw];rfl
theorem OCode.noOw (x:OCode)(h:x.ok):Go.AE.noOw x.row=true:=by
 simp only[Go.AE.noOw,OCode.row,List.all_cons,List.all_nil,h.b.isOw];rfl
variable {H:Heap}{S:Nat→Bool}
def Held (H:Heap)(S:Nat→Bool)(l:List (Nat×Obj)):Prop:=∀p∈l,H p.1=p.2∧S p.1=true
theorem Held.l {a b:List (Nat×Obj)}(h:Held H S (a++b)):Held H S a:=fun p hp=>h p (List.mem_append_left _ hp)
theorem Held.r {a b:List (Nat×Obj)}(h:Held H S (a++b)):Held H S b:=fun p hp=>h p (List.mem_append_right _ hp)
theorem Held.m {α:Type}{f:α→List (Nat×Obj)}{l:List α}(h:Held H S (l.flatMap f)){x:α}(hx:x∈l):Held H S (f x):=fun p hp=>h p (List.mem_flatMap.2 ⟨x,hx,hp⟩)
theorem OInts.frz (x:OInts)(h:Held H S x.lg):FrzC H S x.c (.sl false 1 (Qb x.ns)):=by
 obtain⟨h1,h2⟩:=h (x.y,.vec 1 (Qb x.ns)) (by simp[OInts.lg])
 exact (FrzR.same (Qu _)).vsl h2 h1 (by simp[Qb])
theorem OPhi.frz (x:OPhi)(hok:x.ok)(h:Held H S x.lg):FrzL H S x.row (PhiD.mk x.to x.ns).cells:=by
 refine .cons (Qg rfl) (.cons ?_ .nil)
 rcases hok with ⟨y,h1,h2⟩|⟨fl,h1,h2⟩
 ·obtain⟨h3,h4⟩:=h (y,.vec 1 (Qb x.ns)) (by rw[h2];simp)
  rw[h1];exact (FrzR.same (Qu _)).vsl h4 h3 (by simp[Qb])
 ·rw[h1];exact (FrzR.same (Qu _)).sl
theorem OIns.frz (x:OIns)(h:Held H S x.lg):FrzL H S x.row (InsD.mk x.op x.to x.a.ns x.n).cells:=.cons (Qg rfl) (.cons (Qg rfl) (.cons (x.a.frz h) (.cons (Qg rfl) .nil)))
theorem Qar1 {α β:Type}{f:α→List C}{g:β→List C}:∀(l:List α),(∀x∈l,∃y,FrzL H S (f x) (g y))→∃l':List β,FrzR H S (l.map f) (l'.map g)∧l'.length=l.length
 |[],_=>⟨[],.nil,rfl⟩
 |x::l,h=>by
  obtain⟨y,hy⟩:=h x List.mem_cons_self
  obtain⟨l',hl',hn⟩:=Qar1 l fun z hz=>h z (List.mem_cons_of_mem _ hz)
  exact⟨y::l',.cons hy hl',by simp[hn]⟩
theorem Qnh {α β:Type}{P:β→Prop}{f:α→List C}{g:β→List C}:∀(l:List α),(∀x∈l,∃y,FrzL H S (f x) (g y)∧P y)→∃l':List β,FrzR H S (l.map f) (l'.map g)∧l'.length=l.length∧∀y∈l',P y
 |[],_=>⟨[],.nil,rfl,by simp⟩
 |x::l,h=>by
  obtain⟨y,hy,hp⟩:=h x List.mem_cons_self
  obtain⟨l',hl',hn,hps⟩:=Qnh l fun z hz=>h z (List.mem_cons_of_mem _ hz)
  refine⟨y::l',.cons hy hl',by simp[hn],fun z hz=>?_⟩
  rcases List.mem_cons.1 hz with rfl|hz
  ·exact hp
  ·exact hps z hz
theorem OBlk.frz (x:OBlk)(hok:x.ok)(h:Held H S x.lg):∃d:BlkD,FrzL H S x.row d.cells∧d.next=x.nx.ns∧d.ins.length=x.ins.length∧d.phis.length=x.phis.length:=by
 obtain⟨ps,hps,hpn⟩:=Qar1 (H:=H) (S:=S) (f:=OPhi.row) (g:=PhiD.cells) x.phis fun p hp=>⟨_,p.frz (hok.a p hp) (h.r.l.m hp)⟩
 obtain⟨is,his,hin⟩:=Qar1 (H:=H) (S:=S) (f:=OIns.row) (g:=InsD.cells) x.ins fun p hp=>⟨_,p.frz (h.r.r.r.l.m hp)⟩
 exact⟨⟨ps,is,x.jump,x.on,x.nx.ns⟩,.cons (Gr.frzM hok.p h.r.r.l hps) (.cons (Gr.frzM hok.i h.r.r.r.r his) (.cons (Qg rfl) (.cons (Qg rfl) (.cons (x.nx.frz h.l) .nil)))),rfl,hin,hpn⟩
end Go.AE.Y

namespace Go.AE.Y
theorem Qadn {α:Type}{A L1 L2:List α}:(A++L1++L2).Perm (A++L2++L1):=by
 rw[List.append_assoc,List.append_assoc]
 exact .append_left _ List.perm_append_comm
structure BlkD.sm (b:BlkD):Prop where
 n:b.next.length≤2
 i:b.ins.length≤1000
 p:b.phis.length≤1000
 ia:∀x∈b.ins,x.args.length≤1000
 pa:∀x∈b.phis,x.args.length≤1000
structure CodeD.sm (c:CodeD):Prop where
 b0:0<c.blocks.length
 b:c.blocks.length≤160
 bs:∀b∈c.blocks,b.sm
 p0:0≤c.params
 p1:c.params≤1000
structure OBlk.sm (b:OBlk)(N:Nat):Prop where
 n:b.nx.ns.length≤2
 i:b.ins.length≤1000
 p:b.phis.length≤N
 ia:∀x∈b.ins,x.a.ns.length≤N
structure OCode.sm (c:OCode)(N:Nat):Prop where
 b0:0<c.blocks.length
 b:c.blocks.length≤160
 bs:∀b∈c.blocks,b.sm N
 p0:0≤c.params
 p1:c.params≤1000
theorem OBlk.sm.mono {b:OBlk}{N M:Nat}(h:b.sm N)(hm:N≤M):b.sm M:=⟨h.n,h.i,by have:=h.p;omega,fun x hx=>by have:=h.ia x hx;omega⟩
theorem OCode.sm.mono {c:OCode}{N M:Nat}(h:c.sm N)(hm:N≤M):c.sm M:=⟨h.b0,h.b,fun b hb=>(h.bs b hb).mono hm,h.p0,h.p1⟩
structure CodeD.gd (c:CodeD):Prop where
 b0:0<c.blocks.length
 b1:c.blocks.length≤160
 n:∀b∈c.blocks,b.next.length≤2
 f:c.fits
theorem CodeD.sm.fits {c:CodeD}(h:c.sm):c.fits:=fun b hb=>⟨by have:=(h.bs b hb).i;omega,by have:=(h.bs b hb).p;omega⟩
theorem CodeD.sm.gd {c:CodeD}(h:c.sm):c.gd:=⟨h.b0,h.b,fun b hb=>(h.bs b hb).n,h.fits⟩
structure BlkD.sg (b:BlkD):Prop where
 n:b.next.length≤1000000
 i:b.ins.length≤1000000
 p:b.phis.length≤1000000
 ia:∀x∈b.ins,x.args.length≤1000000
 pa:∀x∈b.phis,x.args.length≤1000000
structure CodeD.sg (c:CodeD):Prop where
 b:c.blocks.length≤1000000
 bs:∀b∈c.blocks,b.sg
theorem BlkD.sm.sg {b:BlkD}(h:b.sm):b.sg:=⟨by have:=h.n;omega,by have:=h.i;omega,by have:=h.p;omega,fun x hx=>by have:=h.ia x hx;omega,fun x hx=>by have:=h.pa x hx;omega⟩
theorem CodeD.sm.sg {c:CodeD}(h:c.sm):c.sg:=⟨by have:=h.b;omega,fun b hb=>(h.bs b hb).sg⟩
theorem BlkD.sm.o {o:OBlk}(h:o.d.sm):o.sm 1000:=
 ⟨h.n,by have:=h.i;simp only[OBlk.d,List.length_map]at this;exact this,by have:=h.p;simp only[OBlk.d,List.length_map]at this;exact this,fun x hx=>h.ia x.d (List.mem_map.2 ⟨x,hx,rfl⟩)⟩
theorem CodeD.sm.o {o:OCode}(h:o.d.sm):o.sm 1000:=
 ⟨by have:=h.b0;simp only[OCode.d,List.length_map]at this;exact this,by have:=h.b;simp only[OCode.d,List.length_map]at this;exact this,fun b hb=>(h.bs b.d (List.mem_map.2 ⟨b,hb,rfl⟩)).o,h.p0,h.p1⟩
variable {H:Heap}{S:Nat→Bool}
theorem OCode.frz (x:OCode){N:Nat}(hN:N≤100000)(hok:x.ok)(hs:x.sm N)(h:Held H S x.lg):∃d:CodeD,FrzL H S x.row d.cells∧d.gd:=by
 obtain⟨bs,hbs,hbn,hbp⟩:=Qnh (H:=H) (S:=S) (P:=fun d:BlkD=>d.next.length≤2∧d.ins.length≤2^38∧d.phis.length≤2^38) (f:=OBlk.row) (g:=BlkD.cells) x.blocks fun b hb=>by
  obtain⟨d,h1,h2,h3,h4⟩:=b.frz (hok.bs b hb) (h.l.m hb)
  have hsb:=hs.bs b hb
  exact⟨d,h1,by rw[h2];exact hsb.n,by have:=hsb.i;omega,by have:=hsb.p;omega⟩
 have hb0:=hs.b0
 have hb1:=hs.b
 exact⟨⟨x.params,x.regs,bs⟩,.cons (Qg rfl) (.cons (Qg rfl) (.cons (Gr.frzM hok.b h.r hbs) .nil)),by show 0<bs.length;omega,by show bs.length≤_;omega,fun b hb=>(hbp b hb).1,fun b hb=>(hbp b hb).2⟩
theorem OCodes.frz {N:Nat}(hN:N≤100000){us:List OCode}{cc:C}{cl:List (Nat×Obj)}(hg:Gr cl 3 (us.map OCode.row) cc)(hu:∀u∈us,u.ok∧u.sm N)(h:Held H S (us.flatMap OCode.lg++cl)) :
  ∃cs:List CodeD,FrzC H S cc (.sl false 3 (Qr cs))∧cs.length=us.length∧∀c∈cs,c.gd:=by
 obtain⟨cs,h1,h2,h3⟩:=Qnh (H:=H) (S:=S) (P:=CodeD.gd) (f:=OCode.row) (g:=CodeD.cells) us fun u hu2=>u.frz hN (hu u hu2).1 (hu u hu2).2 (h.l.m hu2)
 exact⟨cs,Gr.frzM hg h.r h1,h2,h3⟩
end Go.AE.Y

namespace Go.AE
variable {P:Program}
theorem Qcp {a b:SC}{Q:X→Env→Heap→Prop}{e:Env}{H:Heap}(T:Env→Heap→Prop)(h1:∀Q':X→Env→Heap→Prop,(∀e H,T e H→Q' .nrm e H)→(∀e H,Q .ret e H→Q' .ret e H)→(∀i e H,Q (.exit i) e H→Q' (.exit i) e H)→Qab P a Q' e H)
  (h2:∀e H,T e H→Qab P b Q e H):Qab P (.seq a b) Q e H:=h1 (X.sq P b Q) h2 (fun _ _ h=>h) (fun _ _ _ h=>h)
end Go.AE
namespace Go.AE.Y
structure UPhi where
 to:Int
 ns:List Int
 ac:C
 al:List (Nat×Obj)
def UPhi.row (x:UPhi):List C:=[.int .i64 x.to,x.ac]
structure UBlk where
 phis:List UPhi
 pc:C
 pl:List (Nat×Obj)
 ins:List InsD
 ic:C
 il:List (Nat×Obj)
 jump:Int
 on:Int
 nfl:Bool
 next:List Int
def UBlk.row (x:UBlk):List C:=[x.pc,x.ic,.int .i64 x.jump,.int .i64 x.on,.sl x.nfl 1 (Qb x.next)]
def UBlk.lg (x:UBlk):List (Nat×Obj):=x.il++(x.phis.flatMap UPhi.al++x.pl)
structure UBlk.ok (x:UBlk):Prop where
 p:Gr x.pl 2 (x.phis.map UPhi.row) x.pc
 i:Gr x.il 4 (Qak x.ins) x.ic
 a:∀p∈x.phis,Gr p.al 1 (Qb p.ns) p.ac
structure UBlk.sm (b:UBlk)(N:Nat):Prop where
 n:b.next.length≤2
 i:b.ins.length≤1000
 p:b.phis.length≤N
 ia:∀x∈b.ins,x.args.length≤1000
 pa:∀x∈b.phis,x.ns.length≤1000
structure UCode where
 params:Int
 regs:Int
 blocks:List UBlk
 bc:C
 bl:List (Nat×Obj)
def UCode.row (x:UCode):List C:=[.int .i64 x.params,.int .i64 x.regs,x.bc]
def UCode.lg (x:UCode):List (Nat×Obj):=x.blocks.flatMap UBlk.lg++x.bl
structure UCode.ok (x:UCode):Prop where
 b:Gr x.bl 5 (x.blocks.map UBlk.row) x.bc
 bs:∀b∈x.blocks,b.ok
 p0:0≤x.params
 p1:x.params≤3
structure UCode.sm (c:UCode)(N:Nat):Prop where
 b0:0<c.blocks.length
 b:c.blocks.length≤160
 bs:∀b∈c.blocks,b.sm N
theorem UPhi.noOw (x:UPhi)(h:Gr x.al 1 (Qb x.ns) x.ac):Go.AE.noOw x.row=true:=by
 simp only[Go.AE.noOw,UPhi.row,List.all_cons,List.all_nil,h.isOw];rfl
theorem UBlk.noOw (x:UBlk)(h:x.ok):Go.AE.noOw x.row=true:=by
 simp only[Go.AE.noOw,UBlk.row,List.all_cons,List.all_nil,h.p.isOw,h.i.isOw];rfl
theorem UCode.noOw (x:UCode)(h:x.ok):Go.AE.noOw x.row=true:=by
 simp only[Go.AE.noOw,UCode.row,List.all_cons,List.all_nil,h.b.isOw];rfl
theorem UPhi.len2 (x:UPhi):x.row.length=2:=rfl
theorem UBlk.len5 (x:UBlk):x.row.length=5:=rfl
theorem UCode.len3 (x:UCode):x.row.length=3:=rfl
theorem UBlk.sm.mono {b:UBlk}{N M:Nat}(h:b.sm N)(hm:N≤M):b.sm M:=⟨h.n,h.i,by have:=h.p;omega,h.ia,h.pa⟩
theorem UCode.sm.mono {c:UCode}{N M:Nat}(h:c.sm N)(hm:N≤M):c.sm M:=⟨h.b0,h.b,fun b hb=>(h.bs b hb).mono hm⟩
variable {H:Heap}{S:Nat→Bool}
theorem UBlk.frz (x:UBlk){N:Nat}(hN:N≤1000)(hok:x.ok)(hs:x.sm N)(h:Held H S x.lg):∃d:BlkD,FrzL H S x.row d.cells∧d.sm:=by
 obtain⟨ps,hps,hpn,hpp⟩:=Qnh (H:=H) (S:=S) (P:=fun p:PhiD=>p.args.length≤1000) (f:=UPhi.row) (g:=PhiD.cells) x.phis fun p hp=>
  ⟨⟨p.to,p.ns⟩,.cons (Qg rfl) (.cons (Gr.frzM (hok.a p hp) (h.r.l.m hp) (FrzR.same (Qu _))) .nil),hs.pa p hp⟩
 have h1:=hs.n
 have h2:=hs.i
 have h3:=hs.p
 exact⟨⟨ps,x.ins,x.jump,x.on,x.next⟩,.cons (Gr.frzM hok.p h.r.r hps) (.cons (Gr.frzM hok.i h.l (FrzR.same (Qnj _))) (.cons (Qg rfl) (.cons (Qg rfl) (.cons (FrzR.same (Qu _)).sl .nil)))),
  h1,h2,by show ps.length≤_;omega,hs.ia,hpp⟩
theorem UCode.frz (x:UCode){N:Nat}(hN:N≤1000)(hok:x.ok)(hs:x.sm N)(h:Held H S x.lg):∃d:CodeD,FrzL H S x.row d.cells∧d.sm:=by
 obtain⟨bs,hbs,hbn,hbp⟩:=Qnh (H:=H) (S:=S) (P:=BlkD.sm) (f:=UBlk.row) (g:=BlkD.cells) x.blocks fun b hb=>b.frz hN (hok.bs b hb) (hs.bs b hb) (h.l.m hb)
 have hb0:=hs.b0
 have hb1:=hs.b
 exact⟨⟨x.params,x.regs,bs⟩,.cons (Qg rfl) (.cons (Qg rfl) (.cons (Gr.frzM hok.b h.r hbs) .nil)),by show 0<bs.length;omega,by show bs.length≤_;omega,hbp,hok.p0,by have:=hok.p1;show x.params≤_;omega⟩
theorem UCodes.frz {us:List UCode}{N:Nat}(hN:N≤1000){cc:C}{cl:List (Nat×Obj)}(hg:Gr cl 3 (us.map UCode.row) cc)(hu:∀u∈us,u.ok∧u.sm N)(h:Held H S (us.flatMap UCode.lg++cl)) :
  ∃cs:List CodeD,FrzC H S cc (.sl false 3 (Qr cs))∧cs.length=us.length∧∀c∈cs,c.sm:=by
 obtain⟨cs,h1,h2,h3⟩:=Qnh (H:=H) (S:=S) (P:=CodeD.sm) (f:=UCode.row) (g:=CodeD.cells) us fun u hu2=>u.frz hN (hu u hu2).1 (hu u hu2).2 (h.l.m hu2)
 exact⟨cs,Gr.frzM hg h.r h1,h2,h3⟩
end Go.AE.Y

namespace Go.AE.Y
theorem Qv {α:Type}{l1 l2:List α}(h:∀f:List α→Nat,(∀a b,f (a++b)=f a+f b)→f []=0→(∀x l,f (x::l)=f [x]+f l)→(∀a b:List α,a.Perm b→f a=f b)→f l1=f l2):l1.Perm l2:=by
 classical
 exact List.perm_iff_count.2 fun a=>h (List.count a) (fun _ _=>List.count_append) rfl (fun x l=>by rw[List.count_cons,List.count_cons];simp;omega) (fun _ _ hp=>hp.count_eq a)
def UBlk.core (x:UBlk):List (Nat×Obj):=x.il++x.phis.flatMap UPhi.al
def Qajc (us:List UCode)(ci bi:Nat)(hc:ci<us.length):List (Nat×Obj):=(us[ci].blocks.eraseIdx bi).flatMap UBlk.lg++(us.eraseIdx ci).flatMap UCode.lg
theorem Qbcl (us:List UCode)(ci bi:Nat)(hc:ci<us.length)(hb:bi<us[ci].blocks.length) :
  (us.flatMap UCode.lg).Perm (us[ci].bl++(us[ci].blocks[bi].pl++(us[ci].blocks[bi].core++Qajc us ci bi hc))):=by
 refine Qv fun f hf h0 hc1 hp=>?_
 rw[hp _ _ (Qgg UCode.lg us ci hc)]
 simp only[hf,UCode.lg,Qajc]
 rw[hp _ _ (Qgg UBlk.lg us[ci].blocks bi hb)]
 simp only[hf,UBlk.lg,UBlk.core]
 omega
def UCode.put (u:UCode)(bi:Nat)(b:UBlk)(bl:List (Nat×Obj)):UCode:={ u with blocks:=u.blocks.set bi b,bl:=bl }
theorem Qbfc (us:List UCode)(ci bi:Nat)(hc:ci<us.length)(hb:bi<us[ci].blocks.length)(b:UBlk)(bl:List (Nat×Obj)) :
  ((us.set ci (us[ci].put bi b bl)).flatMap UCode.lg).Perm (bl++(b.pl++(b.core++Qajc us ci bi hc))):=by
 refine Qv fun f hf h0 hc1 hp=>?_
 rw[hp _ _ (Qen UCode.lg us ci _ hc)]
 simp only[hf,UCode.lg,Qajc,UCode.put]
 rw[hp _ _ (Qen UBlk.lg us[ci].blocks bi _ hb)]
 simp only[hf,UBlk.lg,UBlk.core]
 omega
theorem UBlk.core_snoc (b:UBlk)(p:UPhi)(pc:C)(pl:List (Nat×Obj)):UBlk.core { b with phis:=b.phis++[p],pc:=pc,pl:=pl }=b.core++p.al:=by
 simp[UBlk.core,List.flatMap_append]
theorem UCode.put_row (u:UCode)(bi:Nat)(b:UBlk)(bl:List (Nat×Obj)):(u.put bi b bl).row=u.row:=rfl
theorem Qbfd (us:List UCode)(ci:Nat)(hc:ci<us.length)(u:UCode)(h:u.row=us[ci].row):(us.set ci u).map UCode.row=us.map UCode.row:=by
 rw[List.map_set,h]
 refine List.ext_getElem (by simp) fun i h1 h2=>?_
 rw[List.getElem_set]
 split
 ·rename_i h;subst h;simp
 ·rfl
theorem UCode.put_ok {u:UCode}{bi:Nat}{b:UBlk}{y:Nat}(h:u.ok)(hb:b.ok)(hbl:u.bl=[(y,.vec 5 (u.blocks.map UBlk.row))]):(u.put bi b [(y,.vec 5 ((u.blocks.set bi b).map UBlk.row))]).ok:=by
 refine⟨?_,fun b' hb'=>?_,h.p0,h.p1⟩
 ·rcases h.b with ⟨h1,h2,h3⟩|⟨y',h1,h2⟩
  ·rw[hbl]at h3;simp at h3
  ·rw[hbl]at h2
   have:y=y':=by simpa using h2
   subst this
   exact .inr ⟨y,by show u.bc=_;rw[h1];simp[UCode.put],rfl⟩
 ·rcases List.mem_or_eq_of_mem_set hb' with hb'|rfl
  ·exact h.bs _ hb'
  ·exact hb
theorem UCode.put_sm {u:UCode}{bi N:Nat}{b:UBlk}{bl:List (Nat×Obj)}(h:u.sm N)(hb:b.sm (N+1)):(u.put bi b bl).sm (N+1):=by
 refine⟨by show 0<(u.blocks.set bi b).length;simpa using h.b0,by show (u.blocks.set bi b).length≤_;simpa using h.b,fun b' hb'=>?_⟩
 rcases List.mem_or_eq_of_mem_set hb' with hb'|rfl
 ·exact (h.bs _ hb').mono (by omega)
 ·exact hb
theorem UCode.bvec {u:UCode}(h:u.ok)(h0:0<u.blocks.length):∃y,u.bc=.vsl y 5 0 u.blocks.length∧u.bl=[(y,.vec 5 (u.blocks.map UBlk.row))]:=by
 rcases h.b with ⟨h1,h2,h3⟩|⟨y,h1,h2⟩
 ·have:=List.map_eq_nil_iff.1 h2
  rw[this]at h0;simp at h0
 ·exact⟨y,by rw[h1];simp,h2⟩
end Go.AE.Y

namespace Go.AE.Y
def Q9j (us:List OCode)(ci bi:Nat)(hc:ci<us.length):List (Nat×Obj):=(us[ci].blocks.eraseIdx bi).flatMap OBlk.lg++(us.eraseIdx ci).flatMap OCode.lg
theorem Qba9 (us:List OCode)(ci bi:Nat)(hc:ci<us.length)(hb:bi<us[ci].blocks.length) :
  (us.flatMap OCode.lg).Perm (us[ci].bl++(us[ci].blocks[bi].lg++Q9j us ci bi hc)):=by
 refine Qv fun f hf h0 hc1 hp=>?_
 rw[hp _ _ (Qgg OCode.lg us ci hc)]
 simp only[hf,OCode.lg,Q9j]
 rw[hp _ _ (Qgg OBlk.lg us[ci].blocks bi hb)]
 simp only[hf]
 omega
def OCode.put (u:OCode)(bi:Nat)(b:OBlk)(bl:List (Nat×Obj)):OCode:={ u with blocks:=u.blocks.set bi b,bl:=bl }
theorem Qbet (us:List OCode)(ci bi:Nat)(hc:ci<us.length)(hb:bi<us[ci].blocks.length)(b:OBlk)(bl:List (Nat×Obj)) :
  ((us.set ci (us[ci].put bi b bl)).flatMap OCode.lg).Perm (bl++(b.lg++Q9j us ci bi hc)):=by
 refine Qv fun f hf h0 hc1 hp=>?_
 rw[hp _ _ (Qen OCode.lg us ci _ hc)]
 simp only[hf,OCode.lg,Q9j,OCode.put]
 rw[hp _ _ (Qen OBlk.lg us[ci].blocks bi _ hb)]
 simp only[hf]
 omega
theorem Qbeu (us:List OCode)(ci:Nat)(hc:ci<us.length)(u:OCode)(h:u.row=us[ci].row):(us.set ci u).map OCode.row=us.map OCode.row:=by
 rw[List.map_set,h]
 refine List.ext_getElem (by simp) fun i h1 h2=>?_
 rw[List.getElem_set]
 split
 ·rename_i h;subst h;simp
 ·rfl
theorem OCode.put_ok {u:OCode}{bi:Nat}{b:OBlk}{y:Nat}(h:u.ok)(hb:b.ok)(hbl:u.bl=[(y,.vec 5 (u.blocks.map OBlk.row))]):(u.put bi b [(y,.vec 5 ((u.blocks.set bi b).map OBlk.row))]).ok:=by
 refine⟨?_,fun b' hb'=>?_⟩
 ·rcases h.b with ⟨h1,h2,h3⟩|⟨y',h1,h2⟩
  ·rw[hbl]at h3;simp at h3
  ·rw[hbl]at h2
   have:y=y':=by simpa using h2
   subst this
   exact .inr ⟨y,by show u.bc=_;rw[h1];simp[OCode.put],rfl⟩
 ·rcases List.mem_or_eq_of_mem_set hb' with hb'|rfl
  ·exact h.bs _ hb'
  ·exact hb
theorem OCode.put_sm {u:OCode}{bi:Nat}{b:OBlk}{bl:List (Nat×Obj)}{N:Nat}(h:u.sm N)(hb:b.sm (N+1)):(u.put bi b bl).sm (N+1):=by
 refine⟨by show 0<(u.blocks.set bi b).length;simpa using h.b0,by show (u.blocks.set bi b).length≤_;simpa using h.b,fun b' hb'=>?_,h.p0,h.p1⟩
 rcases List.mem_or_eq_of_mem_set hb' with hb'|rfl
 ·exact (h.bs _ hb').mono (by omega)
 ·exact hb
theorem OCode.bvec {u:OCode}(h:u.ok)(h0:0<u.blocks.length):∃y,u.bc=.vsl y 5 0 u.blocks.length∧u.bl=[(y,.vec 5 (u.blocks.map OBlk.row))]:=by
 rcases h.b with ⟨h1,h2,h3⟩|⟨y,h1,h2⟩
 ·have:=List.map_eq_nil_iff.1 h2
  rw[this]at h0;simp at h0
 ·exact⟨y,by rw[h1];simp,h2⟩
theorem OBlk.ivec {u:OBlk}(h:u.ok)(h0:0<u.ins.length):∃y,u.ic=.vsl y 4 0 u.ins.length∧u.il=[(y,.vec 4 (u.ins.map OIns.row))]:=by
 rcases h.i with ⟨h1,h2,h3⟩|⟨y,h1,h2⟩
 ·have:=List.map_eq_nil_iff.1 h2
  rw[this]at h0;simp at h0
 ·exact⟨y,by rw[h1];simp,h2⟩
variable {H0 H H2:Heap}{E X cl:List (Nat×Obj)}
theorem Qa0n {us:List OCode}{ci bi yb:Nat}{u:OCode}{b:OBlk}(kn:Kn H0 H E (X++us.flatMap OCode.lg++cl))(hc:ci<us.length)(hu:us[ci]=u)(hb:bi<u.blocks.length)(hub:u.blocks[bi]=b)
  (hbl:u.bl=[(yb,.vec 5 (u.blocks.map OBlk.row))]):Kn H0 H E ([(yb,.vec 5 (u.blocks.map OBlk.row))]++(b.lg++(Q9j us ci bi hc++(X++cl)))):=by
 subst hu;subst hub
 refine kn.perm (Qv fun f hf h0 hc1 hp=>?_)
 have h1:=hp _ _ (Qba9 us ci bi hc hb)
 rw[hbl]at h1
 simp only[hf]at h1⊢
 omega
theorem Qa4d {us:List OCode}{ci bi yb:Nat}{u:OCode}{b':OBlk}{cc:C}(hc:ci<us.length)(hu:us[ci]=u)(hb:bi<u.blocks.length)
  (hbl:u.bl=[(yb,.vec 5 (u.blocks.map OBlk.row))]) {N:Nat} (hok:∀u∈us,u.ok∧u.sm N) (hok':b'.ok) (hsm':b'.sm (N+1)) (hg:Gr cl 3 (us.map OCode.row) cc)
  (kn:Kn H0 H E ([(yb,.vec 5 ((u.blocks.set bi b').map OBlk.row))]++(b'.lg++(Q9j us ci bi hc++(X++cl))))) :
  ∃us':List OCode,us'.length=us.length∧Gr cl 3 (us'.map OCode.row) cc∧(∀u∈us',u.ok∧u.sm (N+1))∧Kn H0 H E (X++us'.flatMap OCode.lg++cl):=by
 obtain⟨h1,h2⟩:=hok _ (List.getElem_mem hc)
 rw[hu]at h1 h2
 refine⟨us.set ci (u.put bi b' [(yb,.vec 5 ((u.blocks.set bi b').map OBlk.row))]),by simp,?_,fun v hv=>?_,kn.perm (Qv fun f hf h0 hc1 hp=>?_)⟩
 ·rw[Qbeu us ci hc _ (by rw[hu];rfl)];exact hg
 ·rcases List.mem_or_eq_of_mem_set hv with hv|rfl
  ·exact⟨(hok v hv).1,(hok v hv).2.mono (by omega)⟩
  ·exact⟨OCode.put_ok h1 hok' hbl,OCode.put_sm h2 hsm'⟩
 ·subst hu
  have h1:=hp _ _ (Qbet us ci bi hc hb b' [(yb,.vec 5 ((us[ci].blocks.set bi b').map OBlk.row))])
  simp only[hf]at h1⊢
  omega
theorem Q15 {l:List OBlk}{bi:Nat}{b:OBlk}(hb:bi<l.length)(h:b.row=(l[bi]).row):(l.set bi b).map OBlk.row=l.map OBlk.row:=by
 rw[List.map_set,h]
 refine List.ext_getElem (by simp) fun i h1 h2=>?_
 rw[List.getElem_set]
 split
 ·rename_i h;subst h;simp
 ·rfl
variable {b b':OBlk}{R:List (Nat×Obj)}{p:Nat×Obj}
theorem Qaev {yi:Nat}(kn:Kn H0 H E ([p]++(b.lg++R)))(hil:b.il=[(yi,.vec 4 (b.ins.map OIns.row))]) :
  Kn H0 H E ([(yi,.vec 4 (b.ins.map OIns.row))]++([p]++(b.nx.lg++(b.phis.flatMap OPhi.lg++(b.pl++(b.ins.flatMap OIns.lg++R)))))):=by
 refine kn.perm (Qv fun f hf h0 hc1 hp=>?_)
 simp only[OBlk.lg,hil,hf]
 omega
theorem Qa4y {yi:Nat}{is:List OIns}(kn:Kn H0 H E ([(yi,.vec 4 (is.map OIns.row))]++([p]++(b.nx.lg++(b.phis.flatMap OPhi.lg++(b.pl++(b.ins.flatMap OIns.lg++R)))))))
  (hl:(is.flatMap OIns.lg).Perm (b.ins.flatMap OIns.lg)):Kn H0 H E ([p]++(OBlk.lg { b with ins:=is,il:=[(yi,.vec 4 (is.map OIns.row))] }++R)):=by
 refine kn.perm (Qv fun f hf h0 hc1 hp=>?_)
 have:=hp _ _ hl
 simp only[OBlk.lg,hf]
 omega
theorem Qwc {l:List OIns}{i:Nat}{x':OIns}(hi:i<l.length)(h:x'.lg=(l[i]).lg):((l.set i x').flatMap OIns.lg).Perm (l.flatMap OIns.lg):=by
 refine (Qen OIns.lg l i x' hi).trans ?_
 rw[h]
 exact (Qgg OIns.lg l i hi).symm
theorem OBlk.ins_ok {yi:Nat}{i:Nat}{x':OIns}(h:b.ok)(hic:b.ic=.vsl yi 4 0 b.ins.length):OBlk.ok { b with ins:=b.ins.set i x',il:=[(yi,.vec 4 ((b.ins.set i x').map OIns.row))] }:=
 ⟨h.p,.inr ⟨yi,by show b.ic=_;rw[hic];simp,rfl⟩,h.a⟩
theorem OBlk.ins_sm {yi:Nat}{i:Nat}{x':OIns}{N:Nat}(h:b.sm N)(hx:x'.a.ns.length≤N+1):OBlk.sm { b with ins:=b.ins.set i x',il:=[(yi,.vec 4 ((b.ins.set i x').map OIns.row))] } (N+1):=by
 refine⟨h.n,by simpa using h.i,by have:=h.p;show b.phis.length≤_;omega,fun x hx2=>?_⟩
 rcases List.mem_or_eq_of_mem_set hx2 with hx2|rfl
 ·have:=h.ia x hx2;omega
 ·exact hx
end Go.AE.Y

namespace Go.AE.Y
abbrev Qn6:Nat:=11
abbrev Qie:Nat:=34
abbrev Qe1:Nat:=45
abbrev Qd5:Nat:=53
abbrev Qkt:Nat:=54
abbrev Qfx:Nat:=55
abbrev Qgk:Nat:=65
abbrev Qm9:Nat:=68
abbrev Qne:Nat:=71
abbrev Quu:Nat:=76
abbrev Qku:Nat:=77
abbrev Q2z:Nat:=80
abbrev Qnf:Nat:=81
abbrev Qkz:Nat:=83
abbrev Qau:Nat:=84
abbrev Qm8:Nat:=88
abbrev Qna:Nat:=96
abbrev Qbo:Nat:=98
abbrev Qkv:Nat:=102
abbrev Qe2:Nat:=103
abbrev Qp3:Nat:=106
abbrev Qpz:Nat:=107
abbrev Q20:Nat:=111
abbrev Quq:Nat:=112
abbrev Qkx:Nat:=113
abbrev Qur:Nat:=114
abbrev Q8:Nat:=117
abbrev Ql:Nat:=120
abbrev Qp4:Nat:=122
abbrev Qbs:Nat:=123
abbrev Qrj:Nat:=125
abbrev Quj:Nat:=126
abbrev Qb8:Nat:=128
abbrev Qdh:Nat:=129
abbrev Qdg:Nat:=130
abbrev Q2y:Nat:=137
abbrev Qd0:Nat:=138
abbrev Qbh:Nat:=140
abbrev Qum:Nat:=141
abbrev Qfw:Nat:=142
abbrev Qig:Nat:=143
abbrev Q26:Nat:=146
abbrev Qnd:Nat:=147
abbrev Quw:Nat:=149
abbrev Qai:Nat:=155
abbrev Qe6:Nat:=156
abbrev Qe3:Nat:=157
abbrev Qcb:Nat:=158
abbrev Qe4:Nat:=159
abbrev Qpy:Nat:=160
abbrev Qe5:Nat:=161
abbrev Qun:Nat:=162
abbrev Qat:Nat:=163
abbrev Qe9:Nat:=165
abbrev Qdi:Nat:=169
abbrev Qil:Nat:=171
abbrev Qrm:Nat:=172
abbrev Q3a:Nat:=173
abbrev Q24:Nat:=174
abbrev Qaep:Nat:=175
abbrev Qrl:Nat:=176
abbrev Qcw:Nat:=181
abbrev Qcq:Nat:=182
abbrev Qgh:Nat:=183
abbrev Qkw:Nat:=184
abbrev Qif:Nat:=185
abbrev Quo:Nat:=186
abbrev Qg3:Nat:=198
abbrev Q27:Nat:=199
abbrev Qarz:Nat:=200
abbrev Qii:Nat:=201
abbrev Qc9:Nat:=202
abbrev Qk1:Nat:=203
abbrev Qd6:Nat:=208
abbrev Qds:Nat:=215
abbrev Q28:Nat:=216
abbrev Q29:Nat:=217
abbrev Qk2:Nat:=218
abbrev Qao:Nat:=219
abbrev Qb9:Nat:=220
abbrev Qav:Nat:=221
abbrev Qa4:Nat:=222
abbrev Qa1:Nat:=223
abbrev Qb7:Nat:=224
abbrev Qbd:Nat:=225
abbrev Qary:Nat:=226
abbrev Qaeo:Nat:=227
abbrev Qui:Nat:=228
abbrev Quv:Nat:=230
abbrev Qin:Nat:=231
abbrev Qik:Nat:=232
abbrev Qd1:Nat:=233
abbrev Qc3:Nat:=234
abbrev Qg2:Nat:=235
abbrev Qg1:Nat:=236
abbrev Quk:Nat:=237
abbrev Qim:Nat:=238
abbrev Qb4:Nat:=239
abbrev Qfv:Nat:=240
abbrev Qe8:Nat:=241
abbrev Qfu:Nat:=242
abbrev Qeo:Nat:=243
abbrev Qij:Nat:=244
abbrev Q22:Nat:=245
abbrev Qaem:Nat:=246
abbrev Qaen:Nat:=247
abbrev Q25:Nat:=248
abbrev Qnb:Nat:=249
abbrev Qnc:Nat:=250
abbrev Qih:Nat:=251
abbrev Qaru:Nat:=252
abbrev Qa0x:Nat:=253
abbrev Qk0:Nat:=254
abbrev Qa4v:Nat:=255
abbrev Qarv:Nat:=256
abbrev Qarw:Nat:=257
abbrev Qa0y:Nat:=258
abbrev Qa00:Nat:=259
abbrev Qa0z:Nat:=260
abbrev Qarx:Nat:=261
abbrev Qk3:Nat:=262
abbrev Qux:Nat:=263
abbrev Qgj:Nat:=264
abbrev Qus:Nat:=265
abbrev Qgl:Nat:=266
abbrev Q23:Nat:=267
abbrev Qfa:Nat:=268
abbrev Qfb:Nat:=269
abbrev Qp0:Nat:=270
abbrev Qup:Nat:=273
abbrev Qp2:Nat:=274
abbrev Qp1:Nat:=275
abbrev Qch:Nat:=276
abbrev Qut:Nat:=287
abbrev Qrk:Nat:=288
abbrev Qng:Nat:=289
abbrev Qky:Nat:=290
abbrev Qe7:Nat:=291
abbrev Qci:Nat:=292
abbrev Qul:Nat:=293
abbrev Q21:Nat:=299
abbrev Qgi:Nat:=300
end Go.AE.Y

namespace Go.AE.Y
open Go.Proofs.Tryz
def Qwn:List Item:=cJ 5 .eql 4 0::[]
def Qwo:List Item:=.e none none (.sto 1 (.t 2) (.t 7))::[]
def Qatf:SC:=(.cond (.t 5) (.seq (.reg ( mJ 6 0::aJ 7 Q26 [.t 6]::Qwo) [2]) .ret) .skip)
def Qwp:List Item:=.e none none (.sto 1 (.t 2) (.t 9))::[]
def Qatg:SC:=(.seq (.reg ( mJ 8 0::aJ 9 Qnd [.t 8]::Qwp) [2]) .ret)
def Qath:SC:=(.seq (.seq (.reg ( mJ 3 0::aJ 4 Ql [.t 3,kI 12]::Qwn) [0,2,5]) Qatf) Qatg)
def Qa69:SC:=(.seq (.reg ( eI 2 (.alloc [.sl true 3 []])::[]) [0,2]) Qath)
def Q3x:List RS:=[.cell 2 1 true]
theorem Qa5w:mFn prog Qna 1 10 Qa69 Q3x=true:=by kernel_rfl
def Qabo:SC:=(.cond (.t 24) (.seq (.reg ( fI 4 (.mv (kI 0))::[]) [4]) .ret) .skip)
def Qabp:SC:=(.cond (.t 36) (.seq (.reg ( mJ 37 0::kJ 38 37::fJ 39 0 38::lJ 40 39::mJ 41 5::iJ 42 1 40 41::lJ 43 42::fI 44 (.cvt .i64 (.t 43))::mJ 45 1::bJ 46 .rem 44 45::mJ 4 46::[]) [4]) .ret) .skip)
def Qabq:SC:=(.seq (.reg ( mJ 96 6::mJ 97 1::bJ 98 .rem 96 97::mJ 4 98::[]) [4]) .ret)
def Qabr:SC:=(.seq (.reg ( mJ 92 6::mJ 93 6::cJ 94 .quo 93 64::bJ 95 .xor 92 94::mJ 6 95::[]) [1,6]) Qabq)
def Qabs:SC:=(.seq (.dreg 46 [0,1,2,3,4,5,6,7,8,9,10,11,12,13,14,15,16,17,18,19,20,21,22,23,24,25,26,27,28,29,30,31,32,33,34,35,36,37,38,39,40,41,42,43,44,45] ( mJ 47 0::kJ 48 47::fJ 49 0 48::lJ 50 49::mJ 51 5::mJ 52 0::kJ 53 52::fJ 54 0 53::lJ 55 54::nJ 56 55::bJ 57 .rem 51 56::iJ 58 1 50 57::lJ 59 58::fI 60 (.cvt .i64 (.t 59))::cJ 61 .mul 60 131::mJ 62 0::kJ 63 62::fJ 64 0 63::lJ 65 64::mJ 66 5::cJ 67 .mul 66 7::cJ 68 .add 67 3::mJ 69 0::kJ 70 69::fJ 71 0 70::lJ 72 71::nJ 73 72::bJ 74 .rem 68 73::iJ 75 1 65 74::lJ 76 75::fI 77 (.cvt .i64 (.t 76))::cJ 78 .mul 77 1117::bJ 79 .add 61 78::mJ 80 5::cJ 81 .mul 80 29::bJ 82 .add 79 81::mJ 83 5::mJ 84 0::kJ 85 84::fJ 86 0 85::lJ 87 86::nJ 88 87::bJ 89 .quo 83 88::cJ 90 .mul 89 53::bJ 91 .add 82 90::mJ 6 91::[]) [1,6]) Qabr)
def Qabt:SC:=(.seq (.seq (.reg ( mJ 30 5::mJ 31 0::kJ 32 31::fJ 33 0 32::lJ 34 33::nJ 35 34::bJ 36 .lss 30 35::[]) [0,1,5,36]) Qabp) Qabs)
def Qabu:SC:=(.seq (.reg ( mJ 25 0::kJ 26 25::fJ 27 1 26::lJ 28 27::cJ 29 .sub 28 1::mJ 5 29::[]) [0,1,5]) Qabt)
def Qabv:SC:=(.seq (.seq (.reg ( mJ 15 1::cJ 16 .lss 15 1::mJ 17 16::gFm 18 17 0::gF 19 17 (.nck (.t 18))::gFf 20 17 0 19::gFl 21 17 20::gF 22 17 (.len (.t 21))::gF 23 17 (.bin 0 .eql (.t 22) (kI 0))::fI 24 (.pick (.t 17) (.k (.c (.bool true))) (.t 23))::[]) [0,1,24]) Qabo) Qabu)
def Qabw:SC:=(.seq (.reg ( mJ 7 0::mJ 8 0::kJ 9 8::fJ 10 1 9::lJ 11 10::cJ 12 .add 11 1::kJ 13 7::fJ 14 1 13::.e none none (.sto 1 (.t 14) (.t 12))::[]) [0,1]) Qabv)
def Qapo:SC:=(.seq (.reg ( fI 4 (.mv (kI 0))::[]) [0,1]) Qabw)
def Qf3:List RS:=[.tmp 4]
theorem Qaj0:mFn prog Ql 2 99 Qapo Qf3=true:=by kernel_rfl
def Q6p:List Item:=.e none none (.sto 1 (.t 3) (.t 9))::[]
def Q6q:List Item:=eI 3 (.alloc [.sl true 3 []])::Q6p
def Q6r:List Item:=aJ 9 Qil [.t 8]::Q6q
def Q6s:List Item:=.chk 11 none (.ld 1 false (.t 10))::iJ 17 3 11 16::mJ 4 17::[]
def Q6t:List Item:=.chk 21 none (.ld 1 false (.t 20))::iJ 29 5 21 28::mJ 5 29::[]
def Q6u:List Item:=mJ 6 41::[]
def Q6v:List Item:=kJ 49 46::fJ 50 2 49::.e none none (.sto 1 (.t 50) (.t 48))::[]
def Qa27:SC:=(.cond (.t 58) (.reg ( mJ 59 5::kJ 60 59::fJ 61 4 60::lJ 62 61::mJ 63 6::fI 64 (.iad 1 (.t 62) (kI 0))::.e none none (.sto 1 (.t 64) (.t 63))::[]) [2,3]) .skip)
def Qa28:SC:=(.cond (.t 78) (.reg ( mJ 79 5::kJ 80 79::fJ 81 1 80::lJ 82 81::mJ 83 6::fI 84 (.iad 4 (.t 82) (kI 0))::fJ 85 1 84::.e none none (.sto 1 (.t 85) (.t 83))::[]) [2,3]) .skip)
def Q6w:List Item:=.chk 97 none (.ld 1 false (.t 96))::fI 108 (.iad 4 (.t 97) (kI 0))::fJ 109 2 108::.e none none (.sto 1 (.t 109) (.t 107))::[]
def Qawt:SC:=(.cond (.t 93) (.dreg 17 [0,1,2,3,4,5,6,7,8,9,10,11,12,13,3,14,15,16] ( mJ 94 5::kJ 95 94::fJ 96 1 95::lJ 97 96::mJ 98 5::kJ 99 98::fJ 100 1 99::lJ 101 100::fI 102 (.iad 4 (.t 101) (kI 0))::fJ 103 2 102::lJ 104 103::mJ 105 6::fI 106 (.bsl 1 [.t 105])::eI 107 (.app 1 (.t 104) (.t 106))::Q6w) [2,3]) .skip)
def Qyn:List Item:=kJ 122 112::fJ 123 0 122::.e none none (.sto 1 (.t 123) (.t 121))::[]
def Qyo:List Item:=.chk 130 none (.ld 1 false (.t 129))::bJ 133 .add 130 132::kJ 134 126::fJ 135 1 134::.e none none (.sto 1 (.t 135) (.t 133))::[]
def Qyp:List Item:=.chk 147 none (.ld 1 false (.t 146))::fI 151 (.iad 4 (.t 147) (kI 0))::fJ 152 3 151::.e none none (.sto 1 (.t 152) (.t 150))::[]
def Qawu:SC:=(.cond (.t 143) (.dreg 10 [0,1,2,3,4,5,6,3,7,8,9] ( mJ 144 5::kJ 145 144::fJ 146 1 145::lJ 147 146::mJ 148 0::fI 149 (.bsl 1 [kI 256,kI (-1),kI 1])::aJ 150 Q8 [.t 148,.t 149]::Qyp) [2,3]) .skip)
def Qawv:SC:=(.cond (.t 136) (.seq (.reg ( mJ 138 5::kJ 139 138::fJ 140 1 139::lJ 141 140::nJ 142 141::cJ 143 .gtr 142 0::[]) [0,2,3,5,143]) Qawu) .skip)
def Qaww:SC:=(.cond (.t 124) (.dreg 11 [0,1,2,3,4,5,6,4,7,8,9,10] ( mJ 126 4::mJ 127 4::kJ 128 127::fJ 129 0 128::lJ 130 129::mJ 131 0::aJ 132 Ql [.t 131,kI 2]::Qyo) [2,3]) (.seq (.reg ( cJ 137 .eql 43 7::mJ 136 137::[]) [0,2,3,5,136]) Qawv))
def Qawx:SC:=(.cond (.t 110) (.reg ( mJ 112 5::mJ 113 5::kJ 114 113::fJ 115 0 114::lJ 116 115::mJ 117 6::fI 118 (.bsl 1 [.t 117])::fI 119 (.bld [.int .i64 0,.sl true 1 []] [(0,1,kI 0),(1,1,.t 118)])::fI 120 (.bsl 2 [.t 119])::eI 121 (.app 2 (.t 116) (.t 120))::Qyn) [2,3]) (.seq (.reg ( cJ 125 .eql 43 6::mJ 124 125::[]) [0,2,3,4,5,43,124]) Qaww))
def Qawy:SC:=(.cond (.t 86) (.seq (.reg ( mJ 88 5::kJ 89 88::fJ 90 1 89::lJ 91 90::nJ 92 91::cJ 93 .gtr 92 0::[]) [2,3,5,6,93]) Qawt) (.seq (.reg ( cJ 111 .eql 43 5::mJ 110 111::[]) [0,2,3,4,5,6,43,110]) Qawx))
def Qawz:SC:=(.cond (.t 71) (.seq (.reg ( mJ 73 5::kJ 74 73::fJ 75 1 74::lJ 76 75::nJ 77 76::cJ 78 .gtr 77 0::[]) [2,3,5,6,78]) Qa28) (.seq (.reg ( cJ 87 .eql 43 4::mJ 86 87::[]) [0,2,3,4,5,6,43,86]) Qawy))
def Qaw0:SC:=(.cond (.t 65) (.reg ( mJ 67 5::mJ 68 6::kJ 69 67::fJ 70 3 69::.e none none (.sto 1 (.t 70) (.t 68))::[]) [2,3]) (.seq (.reg ( cJ 72 .eql 43 3::mJ 71 72::[]) [0,2,3,4,5,6,43,71]) Qawz))
def Qaw1:SC:=(.cond (.t 51) (.seq (.reg ( mJ 53 5::kJ 54 53::fJ 55 4 54::lJ 56 55::nJ 57 56::cJ 58 .gtr 57 0::[]) [2,3,5,6,58]) Qa27) (.seq (.reg ( cJ 66 .eql 43 2::mJ 65 66::[]) [0,2,3,4,5,6,43,65]) Qaw0))
def Qaw2:SC:=(.cond (.t 44) (.reg ( mJ 46 5::mJ 47 0::aJ 48 Ql [.t 47,kI 5]::Q6v) [2,3]) (.seq (.reg ( cJ 52 .eql 43 1::mJ 51 52::[]) [0,2,3,4,5,6,43,51]) Qaw1))
def Qaw3:SC:=(.block 0 (.seq (.reg ( cJ 45 .eql 43 0::mJ 44 45::[]) [0,2,3,4,5,6,43,44]) Qaw2))
def Qaw4:SC:=(.seq (.reg ( tJ 153 1 3::.e none none (.sto 1 (.t 2) (.t 153))::[]) [2]) .ret)
def Qaw5:SC:=(.seq (.seq (.reg ( mJ 42 0::aJ 43 Ql [.t 42,kI 32]::[]) [0,2,3,4,5,6,43]) Qaw3) Qaw4)
def Qaw6:SC:=(.seq (.dreg 13 [0,1,2,3,4,5,6,7,8,9,10,11,12] ( mJ 30 0::mJ 31 4::kJ 32 31::fJ 33 1 32::lJ 34 33::mJ 35 4::kJ 36 35::fJ 37 2 36::lJ 38 37::nJ 39 38::fI 40 (.bsl 1 [kI (-1),.t 34,.t 39,kI 0,kI 1])::aJ 41 Q8 [.t 30,.t 40]::Q6u) [0,2,3,4,5,6]) Qaw5)
def Qaw7:SC:=(.seq (.dreg 13 [0,1,2,3,4,5,6,7,8,9,10,3,11,12] ( mJ 18 4::kJ 19 18::fJ 20 2 19::lJ 21 20::mJ 22 0::mJ 23 4::kJ 24 23::fJ 25 2 24::lJ 26 25::nJ 27 26::aJ 28 Ql [.t 22,.t 27]::Q6t) [0,2,3,4,5]) Qaw6)
def Qaw8:SC:=(.seq (.dreg 9 [0,1,2,3,4,5,6,1,7,8] ( fJ 10 0 3::lJ 11 10::mJ 12 0::fJ 13 0 3::lJ 14 13::nJ 15 14::aJ 16 Ql [.t 12,.t 15]::Q6s) [0,2,3,4]) Qaw7)
def Qaw9:SC:=(.seq (.reg ( mJ 7 0::aJ 8 Qrm [.t 7]::Q6r) [0,2,3]) Qaw8)
def Qbbx:SC:=(.seq (.reg ( eI 2 (.alloc [.sl true 3 []])::[]) [0,2]) Qaw9)
def Qaz4:List RS:=[.cell 2 1 true]
theorem Qbax:mFn prog Q26 1 154 Qbbx Qaz4=true:=by kernel_rfl
def Qw6:List Item:=cJ 6 .eql 5 0::[]
def Qw7:List Item:=.e none none (.sto 1 (.t 3) (.t 9))::[]
def Qw8:List Item:=eI 3 (.alloc [.sl true 3 []])::Qw7
def Qw9:List Item:=aJ 9 Q3a [.t 8]::Qw8
def Qaty:SC:=(.cond (.t 11) (.seq (.reg ( tJ 12 1 3::.e none none (.sto 1 (.t 2) (.t 12))::[]) [2]) .ret) .skip)
def Qatz:SC:=(.seq (.reg ( tJ 10 1 3::aJ 11 Qbo [.t 10]::[]) [0,2,3,11]) Qaty)
def Qat0:SC:=(.cond (.t 6) (.seq (.reg ( mJ 7 0::aJ 8 Q24 [.t 7]::Qw9) [0,2,3]) Qatz) .skip)
def Qxa:List Item:=.e none none (.sto 1 (.t 2) (.t 14))::[]
def Q4q:SC:=(.seq (.reg ( mJ 13 0::aJ 14 Qrm [.t 13]::Qxa) [2]) .ret)
def Qat1:SC:=(.seq (.seq (.reg ( mJ 4 0::aJ 5 Ql [.t 4,kI 2]::Qw6) [0,2,6]) Qat0) Q4q)
def Qa7f:SC:=(.seq (.reg ( eI 2 (.alloc [.sl true 3 []])::[]) [0,2]) Qat1)
def Qr1:List RS:=[.cell 2 1 true]
theorem Qa52:mFn prog Qnd 1 15 Qa7f Qr1=true:=by kernel_rfl
def Qpd:List Item:=iJ 10 1 5 9::lJ 11 10::mJ 4 11::[]
def Qah0:SC:=(.seq (.reg ( mJ 5 1::mJ 6 0::mJ 7 1::nJ 8 7::aJ 9 Ql [.t 6,.t 8]::Qpd) [4]) .ret)
def Qavy:SC:=(.seq (.reg ( fI 4 (.mv (kI 0))::[]) [0,1]) Qah0)
def Q36:List RS:=[.tmp 4]
theorem Qask:mFn prog Q8 2 12 Qavy Q36=true:=by kernel_rfl
def Qmj:List Item:=.e none none (.sto 1 (.t 3) (.t 5))::[]
def Qmk:List Item:=fJ 23 0 3::.e none none (.sto 1 (.t 23) (.t 22))::[]
def Qml:List Item:=.chk 14 none (.ld 1 false (.t 13))::fI 21 (.bsl 3 [.t 20])::eI 22 (.app 3 (.t 14) (.t 21))::Qmk
def Qab2:SC:=(.reg ( mJ 11 4::cJ 12 .add 11 1::mJ 4 12::[]) [1,2,3,4])
def Qab3:SC:=(.seq (.block 1 (.dreg 12 [0,1,2,3,4,5,6,7,1,8,9,10,11] ( fJ 13 0 3::lJ 14 13::fJ 15 0 1::lJ 16 15::mJ 17 4::iJ 18 3 16 17::tJ 19 3 18::aJ 20 Qg3 [.t 19]::Qml) [1,2,3,4])) Qab2)
def Q68:SC:=(.seq (.seq (.reg ( mJ 6 4::fJ 7 0 1::lJ 8 7::nJ 9 8::bJ 10 .lss 6 9::[]) [1,2,3,4,10]) (.cond (.t 10) .skip (.exit 0))) Qab3)
def Qab4:SC:=(.seq (.reg ( tJ 24 1 3::.e none none (.sto 1 (.t 2) (.t 24))::[]) [2]) .ret)
def Qab5:SC:=(.seq (.seq (.reg ( fI 4 (.mv (kI 0))::[]) [1,2,3,4]) (.block 0 (.loop Q68))) Qab4)
def Qab6:SC:=(.seq (.reg ( fI 5 (.bld [.sl true 3 []] [])::eI 3 (.alloc [.sl true 3 []])::Qmj) [1,2,3]) Qab5)
def Qaqg:SC:=(.seq (.reg ( fI 1 (.box (.t 0))::eI 2 (.alloc [.sl true 3 []])::[]) [1,2]) Qab6)
def Qwi:List RS:=[.cell 2 1 true]
theorem Qaj5:mFn prog Qil 1 25 Qaqg Qwi=true:=by kernel_rfl
def Q7p:List Item:=.e none none (.sto 1 (.t 3) (.t 9))::[]
def Q7q:List Item:=mJ 4 12::[]
def Q7r:List Item:=fJ 24 0 3::.e none none (.sto 1 (.t 24) (.t 23))::[]
def Q7s:List Item:=.chk 18 none (.ld 1 false (.t 17))::fI 22 (.bsl 3 [.t 21])::eI 23 (.app 3 (.t 18) (.t 22))::Q7r
def Qa3t:SC:=(.reg ( mJ 15 4::cJ 16 .sub 15 1::mJ 4 16::[]) [0,2,3,4])
def Qa3u:SC:=(.seq (.block 1 (.dreg 9 [0,1,2,3,4,1,5,6,7,8] ( fJ 17 0 3::lJ 18 17::mJ 19 0::tJ 20 1 3::aJ 21 Q27 [.t 19,.t 20]::Q7s) [0,2,3,4])) Qa3t)
def Qayq:SC:=(.seq (.seq (.reg ( mJ 13 4::cJ 14 .gtr 13 0::[]) [0,2,3,4,14]) (.cond (.t 14) .skip (.exit 0))) Qa3u)
def Q7t:List Item:=mJ 5 27::[]
def Q7u:List Item:=.chk 33 none (.ld 1 false (.t 32))::iJ 39 3 33 38::mJ 6 39::[]
def Q7v:List Item:=mJ 7 46::[]
def Qzc:List Item:=.e none none (.sto 2 (.t 8) (.t 53))::[]
def Qzd:List Item:=fI 53 (.bld [.int .i64 0,.sl true 1 []] [(0,1,.t 52)])::eI 8 (.alloc [.int .i64 0,.sl true 1 []])::Qzc
def Qze:List Item:=nJ 59 58::fI 60 (.mv (kI 0))::[]
def Qzf:List Item:=fJ 72 1 8::.e none none (.sto 1 (.t 72) (.t 71))::[]
def Qzg:List Item:=.chk 63 none (.ld 1 false (.t 62))::fI 70 (.bsl 1 [.t 69])::eI 71 (.app 1 (.t 63) (.t 70))::Qzf
def Qayd:SC:=(.reg ( cJ 73 .add 60 1::mJ 60 73::[]) [0,2,3,5,6,7,8,59,60])
def Qaye:SC:=(.seq (.block 5 (.dreg 12 [0,1,2,3,4,5,6,7,1,8,9,10,11] ( fJ 62 1 8::lJ 63 62::mJ 64 0::mJ 65 6::kJ 66 65::fJ 67 1 66::lJ 68 67::aJ 69 Ql [.t 64,.t 68]::Qzg) [0,2,3,5,6,7,8,59,60])) Qayd)
def Qaqr:SC:=(.seq (.reg ( bJ 61 .lss 60 59::[]) [0,2,3,5,6,7,8,59,60,61]) (.seq (.cond (.t 61) .skip (.exit 4)) Qaye))
def Qzh:List Item:=.chk 79 none (.ld 1 false (.t 78))::iJ 92 5 79 80::fJ 93 0 92::.e none none (.sto 1 (.t 93) (.t 91))::[]
def Qayf:SC:=(.cond (.t 75) (.dreg 19 [0,1,2,3,4,5,6,7,8,9,10,11,12,13,14,15,3,16,17,18] ( mJ 76 6::kJ 77 76::fJ 78 2 77::lJ 79 78::mJ 80 7::mJ 81 6::kJ 82 81::fJ 83 2 82::lJ 84 83::mJ 85 7::iJ 86 5 84 85::fJ 87 0 86::lJ 88 87::tJ 89 2 8::fI 90 (.bsl 2 [.t 89])::eI 91 (.app 2 (.t 88) (.t 90))::Qzh) [0,2,3,5]) .skip)
def Qayg:SC:=(.seq (.reg ( mJ 74 7::cJ 75 .gtr 74 0::[]) [0,2,3,5,6,7,8,75]) Qayf)
def Qayh:SC:=(.seq (.seq (.reg ( mJ 54 6::kJ 55 54::tJ 56 3 55::mJ 57 7::aJ 58 Qb8 [.t 56,.t 57]::Qze) [0,2,3,5,6,7,8,59,60]) (.block 4 (.loop Qaqr))) Qayg)
def Qayi:SC:=(.seq (.reg ( mJ 47 0::mJ 48 6::kJ 49 48::fJ 50 1 49::lJ 51 50::aJ 52 Ql [.t 47,.t 51]::Qzd) [0,2,3,5,6,7,8]) Qayh)
def Qayj:SC:=(.seq (.reg ( mJ 40 0::mJ 41 6::kJ 42 41::fJ 43 2 42::lJ 44 43::nJ 45 44::aJ 46 Ql [.t 40,.t 45]::Q7v) [0,2,3,5,6,7]) Qayi)
def Qayk:SC:=(.reg ( mJ 30 5::cJ 31 .sub 30 1::mJ 5 31::[]) [0,2,3,5])
def Qayl:SC:=(.seq (.block 3 (.seq (.dreg 9 [0,1,2,3,4,5,6,1,7,8] ( fJ 32 0 3::lJ 33 32::mJ 34 0::fJ 35 0 3::lJ 36 35::nJ 37 36::aJ 38 Ql [.t 34,.t 37]::Q7u) [0,2,3,5,6]) Qayj)) Qayk)
def Qaqs:SC:=(.seq (.seq (.reg ( mJ 28 5::cJ 29 .gtr 28 0::[]) [0,2,3,5,29]) (.cond (.t 29) .skip (.exit 2))) Qayl)
def Qaym:SC:=(.seq (.reg ( tJ 94 1 3::.e none none (.sto 1 (.t 2) (.t 94))::[]) [2]) .ret)
def Qayn:SC:=(.seq (.seq (.reg ( mJ 25 0::fI 26 (.bsl 1 [kI 0,kI 0,kI 1,kI 3])::aJ 27 Q8 [.t 25,.t 26]::Q7t) [0,2,3,5]) (.block 2 (.loop Qaqs))) Qaym)
def Qayo:SC:=(.seq (.seq (.reg ( mJ 10 0::fI 11 (.bsl 1 [kI 1,kI 2,kI 1,kI 3])::aJ 12 Q8 [.t 10,.t 11]::Q7q) [0,2,3,4]) (.block 0 (.loop Qayq))) Qayn)
def Qayp:SC:=(.seq (.reg ( fI 9 (.bld [.sl true 3 []] [])::eI 3 (.alloc [.sl true 3 []])::Q7p) [0,2,3]) Qayo)
def Qbb3:SC:=(.seq (.reg ( eI 2 (.alloc [.sl true 3 []])::[]) [0,2]) Qayp)
def Qaz8:List RS:=[.cell 2 1 true]
theorem Qba2:mFn prog Qrm 1 95 Qbb3 Qaz8=true:=by kernel_rfl
def Qh4:List Item:=oJ 11 10::[]
def Q10:SC:=(.cond (.t 11) (.seq (.reg ( fI 2 (.mv (.k (.c (.bool false))))::[]) [2]) .ret) .skip)
def Qh5:List Item:=.e none none (.sto 3 (.t 5) (.t 23))::[]
def Qcl:List Item:=gF 41 36 (.not (.t 40))::fI 42 (.pick (.t 36) (.k (.c (.bool true))) (.t 41))::[]
def Qdo:List Item:=gF 34 28 (.not (.t 33))::fI 35 (.pick (.t 28) (.k (.c (.bool true))) (.t 34))::mJ 36 35::gFf 37 36 2 5::gFl 38 36 37::gF 39 36 (.len (.t 38))::.e (some 40) (some (36,false)) (.call Qbh [.t 39,kI 1,kI 160])::Qcl
def Qh6:List Item:=oJ 27 26::mJ 28 27::gFf 29 28 1 5::gFl 30 28 29::gFf 31 28 0 5::gFl 32 28 31::.e (some 33) (some (28,false)) (.call Qbh [.t 30,.t 32,kI 300])::Qdo
def s_sp_UnitValid_6:SC:=(.cond (.t 42) (.seq (.reg ( fI 2 (.mv (.k (.c (.bool false))))::[]) [2]) .ret) .skip)
def Qdp:List Item:=gF 74 69 (.not (.t 73))::fI 75 (.pick (.t 69) (.k (.c (.bool true))) (.t 74))::[]
def Qkm:SC:=(.cond (.t 75) (.seq (.reg ( fI 2 (.mv (.k (.c (.bool false))))::[]) [2]) .ret) .skip)
def Q11:SC:=(.seq (.reg ( mJ 67 3::cJ 68 .gtr 67 800::mJ 69 68::gF 70 69 (.ld 1 true (.t 1))::gFm 71 69 4::gFm 72 69 6::.e (some 73) (some (69,false)) (.call Quw [.t 70,.t 71,.t 72])::Qdp) [1,3,4,5,6,75]) Qkm)
def Qh2:SC:=(.reg ( mJ 48 6::cJ 49 .add 48 1::mJ 6 49::[]) [1,3,4,5,6])
def Qv0:SC:=(.seq (.block 3 (.seq (.dreg 18 [0,1,2,3,4,5,6,7,8,9,10,11,12,13,14,15,16,17] ( mJ 50 3::fJ 51 2 5::lJ 52 51::mJ 53 6::iJ 54 5 52 53::fJ 55 1 54::lJ 56 55::nJ 57 56::bJ 58 .add 50 57::fJ 59 2 5::lJ 60 59::mJ 61 6::iJ 62 5 60 61::fJ 63 0 62::lJ 64 63::nJ 65 64::bJ 66 .add 58 65::mJ 3 66::[]) [1,3,4,5,6]) Q11)) Qh2)
def Qt6:SC:=(.seq (.seq (.reg ( mJ 43 6::fJ 44 2 5::lJ 45 44::nJ 46 45::bJ 47 .lss 43 46::[]) [1,3,4,5,6,47]) (.cond (.t 47) .skip (.exit 2))) Qv0)
def Qh3:SC:=(.seq (.reg ( fI 6 (.mv (kI 0))::[]) [1,3,4,5,6]) (.block 2 (.loop Qt6)))
def Qv1:SC:=(.seq (.seq (.reg ( fJ 24 0 5::lJ 25 24::aJ 26 Qbh [.t 25,kI 0,kI 3]::Qh6) [1,3,4,5,42]) s_sp_UnitValid_6) Qh3)
def Qdm:SC:=(.reg ( mJ 17 4::cJ 18 .add 17 1::mJ 4 18::[]) [1,3,4])
def Qv2:SC:=(.seq (.block 1 (.seq (.reg ( fJ 19 0 1::lJ 20 19::mJ 21 4::iJ 22 3 20 21::tJ 23 3 22::eI 5 (.alloc [.int .i64 0,.int .i64 0,.sl true 5 []])::Qh5) [1,3,4,5]) Qv1)) Qdm)
def Qt7:SC:=(.seq (.seq (.reg ( mJ 12 4::fJ 13 0 1::lJ 14 13::nJ 15 14::bJ 16 .lss 12 15::[]) [1,3,4,16]) (.cond (.t 16) .skip (.exit 0))) Qv2)
def Qdn:SC:=(.seq (.reg ( fI 2 (.mv (.k (.c (.bool true))))::[]) [2]) .ret)
def Qv3:SC:=(.seq (.seq (.reg ( fI 4 (.mv (kI 0))::[]) [1,3,4]) (.block 0 (.loop Qt7))) Qdn)
def Qv4:SC:=(.seq (.reg ( fI 3 (.mv (kI 0))::[]) [1,3]) Qv3)
def Qv5:SC:=(.seq (.seq (.reg ( fJ 7 0 1::lJ 8 7::nJ 9 8::aJ 10 Qbh [.t 9,kI 1,kI 4]::Qh4) [1,11]) Q10) Qv4)
def Qac2:SC:=(.seq (.reg ( fI 1 (.box (.t 0))::fI 2 (.mv (.k (.c (.bool false))))::[]) [1]) Qv5)
def Qcs:List RS:=[.tmp 2]
theorem Q90:mFn prog Qbo 1 76 Qac2 Qcs=true:=by kernel_rfl
def Q83:List Item:=.e none none (.sto 1 (.t 3) (.t 5))::[]
def Q84:List Item:=fJ 20 0 3::.e none none (.sto 1 (.t 20) (.t 19))::[]
def Q85:List Item:=.chk 14 none (.ld 1 false (.t 13))::fI 18 (.bsl 3 [.t 17])::eI 19 (.app 3 (.t 14) (.t 18))::Q84
def Qa30:SC:=(.reg ( mJ 11 4::cJ 12 .add 11 1::mJ 4 12::[]) [1,2,3,4])
def Qa31:SC:=(.seq (.block 1 (.dreg 9 [0,1,2,3,4,1,5,6,7,8] ( fJ 13 0 3::lJ 14 13::tJ 15 1 1::mJ 16 4::aJ 17 Qarz [.t 15,.t 16]::Q85) [1,2,3,4])) Qa30)
def Qayv:SC:=(.seq (.seq (.reg ( mJ 6 4::fJ 7 0 1::lJ 8 7::nJ 9 8::bJ 10 .lss 6 9::[]) [1,2,3,4,10]) (.cond (.t 10) .skip (.exit 0))) Qa31)
def Qa32:SC:=(.seq (.reg ( tJ 21 1 3::.e none none (.sto 1 (.t 2) (.t 21))::[]) [2]) .ret)
def Qa33:SC:=(.seq (.seq (.reg ( fI 4 (.mv (kI 0))::[]) [1,2,3,4]) (.block 0 (.loop Qayv))) Qa32)
def Qa34:SC:=(.seq (.reg ( fI 5 (.bld [.sl true 3 []] [])::eI 3 (.alloc [.sl true 3 []])::Q83) [1,2,3]) Qa33)
def Qbb8:SC:=(.seq (.reg ( fI 1 (.box (.t 0))::eI 2 (.alloc [.sl true 3 []])::[]) [1,2]) Qa34)
def Qa0a:List RS:=[.cell 2 1 true]
theorem Qba4:mFn prog Q3a 1 22 Qbb8 Qa0a=true:=by kernel_rfl
def Q6e:List Item:=mJ 3 13::[]
def Q6f:List Item:=fI 12 (.bld [.pnil,.sl true 3 [],.sl true 1 [],.int .i64 0,.int .i64 0] [(0,1,.t 8),(4,1,.t 11)])::eI 13 (.boxm (.t 12))::Q6e
def Q6g:List Item:=mJ 4 16::[]
def Q6h:List Item:=.chk 26 none (.ld 1 false (.t 25))::.chk 27 none (.len (.t 26))::.chk 28 none (.iad 1 (.t 22) (.t 27))::.chk 29 none (.ld 1 false (.t 28))::.e none none (.sto 3 (.t 5) (.t 32))::[]
def Q6i:List Item:=eI 5 (.alloc [.str [],.sl true 1 [],.sl true 5 []])::Q6h
def Q6j:List Item:=.chk 26 none (.ld 1 false (.t 25))::.chk 27 none (.len (.t 26))::.chk 28 none (.iad 1 (.t 22) (.t 27))::.chk 29 none (.ld 1 false (.t 28))::aJ 32 Qii [.t 21,.t 29,.t 31]::Q6i
def Q6k:List Item:=kJ 41 33::fJ 42 1 41::.e none none (.sto 1 (.t 42) (.t 40))::[]
def Qa2v:SC:=(.dreg 11 [0,1,2,3,4,5,6,7,8,9,10] ( mJ 33 3::mJ 34 3::kJ 35 34::fJ 36 1 35::lJ 37 36::tJ 38 3 5::fI 39 (.bsl 3 [.t 38])::eI 40 (.app 3 (.t 37) (.t 39))::Q6k) [0,2,3,4])
def Qa2w:SC:=(.reg ( mJ 19 4::cJ 20 .sub 19 1::mJ 4 20::[]) [0,2,3,4])
def Qa2x:SC:=(.seq (.block 1 (.seq (.dreg 12 [0,1,2,3,4,5,6,7,8,9,10,5,6,7,8,11,12,5,6,7,8,13] ( mJ 21 3::fI 22 (.bsl 1 [.k (.c (.str [102])),.k (.c (.str [103])),.k (.c (.str [104]))])::mJ 23 3::kJ 24 23::fJ 25 1 24::lJ 26 25::nJ 27 26::iJ 28 1 22 27::lJ 29 28::mJ 30 0::aJ 31 Ql [.t 30,kI 3]::Q6j) [0,2,3,4,5]) Qa2v)) Qa2w)
def Qapy:SC:=(.seq (.seq (.reg ( mJ 17 4::cJ 18 .gtr 17 0::[]) [0,2,3,4,18]) (.cond (.t 18) .skip (.exit 0))) Qa2x)
def Qye:List Item:=.e none none (.sto 3 (.t 6) (.t 47))::[]
def Qyf:List Item:=eI 6 (.alloc [.str [],.sl true 1 [],.sl true 5 []])::Qye
def Qyg:List Item:=eI 47 (.call Qii [.t 43,.k (.c (.str [109])),.t 46])::Qyf
def Qyh:List Item:=.chk 52 none (.ld 1 false (.t 51))::.chk 54 none (.ld 3 true (.t 6))::.e none none (.sto 1 (.t 7) (.t 57))::[]
def Qyi:List Item:=fI 57 (.bld [.sl true 3 []] [(0,1,.t 56)])::eI 7 (.alloc [.sl true 3 []])::Qyh
def Qyj:List Item:=.chk 54 none (.ld 3 true (.t 6))::eI 56 (.app 3 (.t 53) (.t 55))::Qyi
def Qyk:List Item:=oJ 60 59::[]
def Qav5:SC:=(.cond (.t 60) (.seq (.reg ( fI 61 (.bld [.int .i64 0,.int .i64 0,.str [],.sl true 4 []] [(0,1,kI 1),(1,1,kI 1)])::fI 62 (.bsl 4 [.t 61])::fI 63 (.bld [.int .i64 0,.str [],.sl true 4 [],.sl true 5 [],.sl true 5 []] [(0,1,kI 3),(2,1,.t 62)])::fI 64 (.bsl 5 [.t 63])::fI 65 (.bld [.str [],.sl true 1 [],.sl true 5 []] [(0,1,.k (.c (.str [109]))),(2,1,.t 64)])::fI 66 (.bsl 3 [.t 65])::fI 67 (.bld [.sl true 3 []] [(0,1,.t 66)])::.e none none (.sto 1 (.t 2) (.t 67))::[]) [2]) .ret) .skip)
def Qav6:SC:=(.seq (.reg ( tJ 68 1 7::.e none none (.sto 1 (.t 2) (.t 68))::[]) [2]) .ret)
def Qav7:SC:=(.seq (.seq (.seq .gh (.reg ( tJ 58 1 7::aJ 59 Qc9 [.t 58]::Qyk) [2,7,60])) Qav5) Qav6)
def Qav8:SC:=(.seq (.dreg 10 [0,1,2,3,4,6,7,5,6,8,9,10,4,6,11] ( fI 48 (.bsl 3 [])::mJ 49 3::kJ 50 49::fJ 51 1 50::lJ 52 51::tJ 54 3 6::fI 55 (.bsl 3 [.t 54])::eI 53 (.app 3 (.t 48) (.t 52))::Qyj) [2,7]) Qav7)
def Qav9:SC:=(.seq (.reg ( mJ 43 3::mJ 44 0::fI 45 (.bsl 1 [kI 0,kI 1,kI 2,kI 1])::aJ 46 Q8 [.t 44,.t 45]::Qyg) [2,3,6]) Qav8)
def Qawa:SC:=(.seq (.seq (.reg ( mJ 14 0::fI 15 (.bsl 1 [kI 0,kI 1,kI 1,kI 2])::aJ 16 Q8 [.t 14,.t 15]::Q6g) [0,2,3,4]) (.block 0 (.loop Qapy))) Qav9)
def Qawb:SC:=(.seq (.reg ( mJ 8 0::mJ 9 0::fI 10 (.bsl 1 [kI 14,kI 20,kI 8,kI 26])::aJ 11 Q8 [.t 9,.t 10]::Q6f) [0,2,3]) Qawa)
def Qbbu:SC:=(.seq (.reg ( eI 2 (.alloc [.sl true 3 []])::[]) [0,2]) Qawb)
def Qafp:List RS:=[.cell 2 1 true]
theorem Qbau:mFn prog Q24 1 69 Qbbu Qafp=true:=by kernel_rfl
def Q69:List Item:=.e none none (.sto 3 (.t 3) (.t 9))::[]
def Q7a:List Item:=fJ 27 2 3::.e none none (.sto 1 (.t 27) (.t 26))::[]
def Q7b:List Item:=.chk 18 none (.ld 1 false (.t 17))::fI 25 (.bsl 5 [.t 24])::eI 26 (.app 5 (.t 18) (.t 25))::Q7a
def Qa3b:SC:=(.reg ( mJ 15 4::cJ 16 .add 15 1::mJ 4 16::[]) [1,2,3,4])
def Qa3c:SC:=(.seq (.block 1 (.dreg 12 [0,1,2,3,4,5,6,7,1,8,9,10,11] ( fJ 17 2 3::lJ 18 17::fJ 19 2 1::lJ 20 19::mJ 21 4::iJ 22 5 20 21::tJ 23 5 22::aJ 24 Qds [.t 23]::Q7b) [1,2,3,4])) Qa3b)
def Qaxw:SC:=(.seq (.seq (.reg ( mJ 10 4::fJ 11 2 1::lJ 12 11::nJ 13 12::bJ 14 .lss 10 13::[]) [1,2,3,4,14]) (.cond (.t 14) .skip (.exit 0))) Qa3c)
def Qa3d:SC:=(.seq (.reg ( tJ 28 3 3::.e none none (.sto 3 (.t 2) (.t 28))::[]) [2]) .ret)
def Qa3e:SC:=(.seq (.seq (.reg ( fI 4 (.mv (kI 0))::[]) [1,2,3,4]) (.block 0 (.loop Qaxw))) Qa3d)
def Qa3f:SC:=(.seq (.reg ( fJ 5 0 1::lJ 6 5::fJ 7 1 1::lJ 8 7::fI 9 (.bld [.int .i64 0,.int .i64 0,.sl true 5 []] [(0,1,.t 6),(1,1,.t 8)])::eI 3 (.alloc [.int .i64 0,.int .i64 0,.sl true 5 []])::Q69) [1,2,3]) Qa3e)
def Qbbz:SC:=(.seq (.reg ( fI 1 (.box (.t 0))::eI 2 (.alloc [.int .i64 0,.int .i64 0,.sl true 5 []])::[]) [1,2]) Qa3f)
def Qaz6:List RS:=[.cell 2 3 true]
theorem Qbaz:mFn prog Qg3 1 29 Qbbz Qaz6=true:=by kernel_rfl
def Qy7:List Item:=mJ 5 41::[]
def Qaxy:SC:=(.cond (.t 37) (.seq (.reg ( mJ 38 5::mJ 39 6::fI 40 (.bsl 1 [.t 39])::eI 41 (.app 1 (.t 38) (.t 40))::Qy7) [1,2,5,6]) (.exit 2)) .skip)
def Qaxz:SC:=(.reg ( mJ 25 7::cJ 26 .add 25 1::mJ 7 26::[]) [1,2,5,6,7])
def Qax0:SC:=(.seq (.block 3 (.seq (.reg ( fJ 27 2 2::lJ 28 27::mJ 29 6::iJ 30 5 28 29::fJ 31 4 30::lJ 32 31::mJ 33 7::iJ 34 1 32 33::lJ 35 34::mJ 36 1::bJ 37 .eql 35 36::[]) [1,2,5,6,7,37]) Qaxy)) Qaxz)
def Qaqm:SC:=(.seq (.seq (.reg ( mJ 16 7::fJ 17 2 2::lJ 18 17::mJ 19 6::iJ 20 5 18 19::fJ 21 4 20::lJ 22 21::nJ 23 22::bJ 24 .lss 16 23::[]) [1,2,5,6,7,24]) (.cond (.t 24) .skip (.exit 2))) Qax0)
def Q7d:SC:=(.reg ( mJ 14 6::cJ 15 .add 14 1::mJ 6 15::[]) [1,2,5,6])
def Qax1:SC:=(.seq (.block 1 (.seq (.reg ( fI 7 (.mv (kI 0))::[]) [1,2,5,6,7]) (.block 2 (.loop Qaqm)))) Q7d)
def Qaqn:SC:=(.seq (.seq (.reg ( mJ 9 6::fJ 10 2 2::lJ 11 10::nJ 12 11::bJ 13 .lss 9 12::[]) [1,2,5,6,13]) (.cond (.t 13) .skip (.exit 0))) Qax1)
def Q7e:SC:=(.seq (.reg ( mJ 42 5::mJ 4 42::[]) [4]) .ret)
def Qax2:SC:=(.seq (.seq (.reg ( fI 6 (.mv (kI 0))::[]) [1,2,5,6]) (.block 0 (.loop Qaqn))) Q7e)
def Qaql:SC:=(.seq (.reg ( fI 8 (.bsl 1 [])::mJ 5 8::[]) [1,2,5]) Qax2)
def Qa8g:SC:=(.seq (.reg ( fI 2 (.box (.t 0))::fI 4 (.mv (.k (.c (.sl true 1 []))))::[]) [1,2]) Qaql)
def Q4b:List RS:=[.tmp 4]
theorem Qa6l:mFn prog Qb8 2 43 Qa8g Q4b=true:=by kernel_rfl
def Q6y:List Item:=.e none none (.sto 3 (.t 5) (.t 13))::[]
def Q6z:List Item:=fI 13 (.bld [.int .i64 0,.int .i64 0,.sl true 5 []] [(0,1,.t 12)])::eI 5 (.alloc [.int .i64 0,.int .i64 0,.sl true 5 []])::Q6y
def Q60:List Item:=.chk 15 none (.ld 1 false (.t 14))::bJ 19 .add 16 18::fJ 20 1 5::.e none none (.sto 1 (.t 20) (.t 19))::[]
def Q61:List Item:=mJ 6 23::[]
def Q62:List Item:=.e none none (.sto 5 (.t 8) (.t 29))::[]
def Q63:List Item:=mJ 9 32::[]
def Q64:List Item:=fJ 46 1 8::.e none none (.sto 1 (.t 46) (.t 45))::[]
def Q65:List Item:=.chk 38 none (.ld 1 false (.t 37))::fI 44 (.bsl 4 [.t 43])::eI 45 (.app 4 (.t 38) (.t 44))::Q64
def Qa29:SC:=(.reg ( mJ 35 9::cJ 36 .sub 35 1::mJ 9 36::[]) [0,3,4,5,6,7,8,9])
def Qa3a:SC:=(.seq (.block 3 (.dreg 11 [0,1,2,3,4,5,6,1,7,8,9,10] ( fJ 37 1 8::lJ 38 37::mJ 39 0::tJ 40 1 3::fJ 41 1 5::lJ 42 41::aJ 43 Q28 [.t 39,.t 40,.t 42]::Q65) [0,3,4,5,6,7,8,9])) Qa29)
def Qaqe:SC:=(.seq (.seq (.reg ( mJ 33 9::cJ 34 .gtr 33 0::[]) [0,3,4,5,6,7,8,9,34]) (.cond (.t 34) .skip (.exit 2))) Qa3a)
def Qyy:List Item:=fJ 51 3 8::.e none none (.sto 1 (.t 51) (.t 50))::[]
def Qyz:List Item:=fJ 55 2 8::.e none none (.sto 1 (.t 55) (.t 54))::[]
def Qf7:List Item:=gT 66 63 (.bin 0 .gtr (.t 65) (kI 0))::gF 67 58 (.pick (.t 63) (.t 66) (.k (.c (.bool false))))::fI 68 (.pick (.t 58) (.k (.c (.bool true))) (.t 67))::[]
def Q6x:SC:=(.cond (.t 68) (.reg ( fJ 69 2 8::.e none none (.sto 1 (.t 69) (kI 3))::[]) [0,3,4,5,6,7,8]) .skip)
def Qy0:List Item:=fI 79 (.bsl 1 [.t 78])::fJ 80 4 8::.e none none (.sto 1 (.t 80) (.t 79))::[]
def Qaxf:SC:=(.reg ( mJ 75 0::mJ 76 7::mJ 77 6::aJ 78 Q29 [.t 75,.t 76,.t 77]::Qy0) [0,3,4,5,6,7,8])
def Qy1:List Item:=fI 91 (.bsl 1 [.t 86,.t 90])::fJ 92 4 8::.e none none (.sto 1 (.t 92) (.t 91))::[]
def Qy2:List Item:=mJ 87 0::mJ 88 7::mJ 89 6::aJ 90 Q29 [.t 87,.t 88,.t 89]::Qy1
def Qaxg:SC:=(.cond (.t 81) (.reg ( mJ 83 0::mJ 84 7::mJ 85 6::aJ 86 Q29 [.t 83,.t 84,.t 85]::Qy2) [0,3,4,5,6,7,8]) .skip)
def Qaxh:SC:=(.cond (.t 72) (.seq (.reg ( fJ 74 3 8::.e none none (.sto 1 (.t 74) (kI 0))::[]) [0,3,4,5,6,7,8]) Qaxf) (.seq (.reg ( cJ 82 .eql 71 2::mJ 81 82::[]) [0,3,4,5,6,7,8,81]) Qaxg))
def Qaxi:SC:=(.block 4 (.seq (.reg ( cJ 73 .eql 71 1::mJ 72 73::[]) [0,3,4,5,6,7,8,71,72]) Qaxh))
def Qy3:List Item:=fJ 98 2 5::.e none none (.sto 1 (.t 98) (.t 97))::[]
def Qaxj:SC:=(.reg ( fJ 93 2 5::lJ 94 93::tJ 95 5 8::fI 96 (.bsl 5 [.t 95])::eI 97 (.app 5 (.t 94) (.t 96))::Qy3) [0,3,4,5,6,7])
def Qaxk:SC:=(.seq (.seq (.reg ( fJ 70 2 8::lJ 71 70::[]) [0,3,4,5,6,7,8,71]) Qaxi) Qaxj)
def Qaxl:SC:=(.seq (.seq (.reg ( mJ 56 6::cJ 57 .eql 56 1::mJ 58 57::gFm 59 58 7::gFm 60 58 6::gF 61 58 (.bin 0 .sub (.t 60) (kI 1))::gF 62 58 (.bin 0 .eql (.t 59) (.t 61))::gFm 63 58 62::gTm 64 63 0::.e (some 65) (some (63,true)) (.call Ql [.t 64,kI 3])::Qf7) [0,3,4,5,6,7,8,68]) Q6x) Qaxk)
def Qaxm:SC:=(.seq (.reg ( mJ 52 0::fI 53 (.bsl 1 [kI 2,kI 1,kI 2,kI 1,kI 3])::aJ 54 Q8 [.t 52,.t 53]::Qyz) [0,3,4,5,6,7,8]) Qaxl)
def Qaxn:SC:=(.seq (.reg ( mJ 47 0::fJ 48 1 5::lJ 49 48::aJ 50 Ql [.t 47,.t 49]::Qyy) [0,3,4,5,6,7,8]) Qaxm)
def Qaxo:SC:=(.seq (.seq (.reg ( mJ 30 0::fI 31 (.bsl 1 [kI 1,kI 2,kI 0,kI 3,kI 4])::aJ 32 Q8 [.t 30,.t 31]::Q63) [0,3,4,5,6,7,8,9]) (.block 2 (.loop Qaqe))) Qaxn)
def Qaxp:SC:=(.reg ( mJ 27 7::cJ 28 .add 27 1::mJ 7 28::[]) [0,3,4,5,6,7])
def Qaxq:SC:=(.seq (.block 1 (.seq (.reg ( fI 29 (.bld [.sl true 2 [],.sl true 4 [],.int .i64 0,.int .i64 0,.sl true 1 []] [])::eI 8 (.alloc [.sl true 2 [],.sl true 4 [],.int .i64 0,.int .i64 0,.sl true 1 []])::Q62) [0,3,4,5,6,7,8]) Qaxo)) Qaxp)
def Qaqf:SC:=(.seq (.seq (.reg ( mJ 24 7::mJ 25 6::bJ 26 .lss 24 25::[]) [0,3,4,5,6,7,26]) (.cond (.t 26) .skip (.exit 0))) Qaxq)
def Qaxr:SC:=(.seq (.reg ( tJ 99 3 5::.e none none (.sto 3 (.t 4) (.t 99))::[]) [4]) .ret)
def Qaxs:SC:=(.seq (.seq (.reg ( fI 7 (.mv (kI 0))::[]) [0,3,4,5,6,7]) (.block 0 (.loop Qaqf))) Qaxr)
def Qaxt:SC:=(.seq (.reg ( mJ 21 0::fI 22 (.bsl 1 [kI 3,kI 5,kI 2,kI 1,kI 7,kI 4])::aJ 23 Q8 [.t 21,.t 22]::Q61) [0,3,4,5,6]) Qaxs)
def Qaxu:SC:=(.seq (.dreg 8 [0,1,2,3,4,1,5,6,7] ( fJ 14 0 5::lJ 15 14::cJ 16 .add 15 2::mJ 17 0::aJ 18 Ql [.t 17,kI 5]::Q60) [0,3,4,5]) Qaxt)
def Qaxv:SC:=(.seq (.reg ( mJ 10 0::fI 11 (.bsl 1 [kI 1,kI 0,kI 2,kI 3])::aJ 12 Q8 [.t 10,.t 11]::Q6z) [0,3,4,5]) Qaxu)
def Qbby:SC:=(.seq (.reg ( fI 3 (.box (.t 1))::eI 4 (.alloc [.int .i64 0,.int .i64 0,.sl true 5 []])::[]) [0,3,4]) Qaxv)
def Qaz5:List RS:=[.cell 4 3 true]
theorem Qbay:mFn prog Q27 2 100 Qbby Qaz5=true:=by kernel_rfl
def Qbbj:SC:=(.seq (.reg ( mJ 7 0::mJ 8 1::bJ 9 .geq 7 8::mJ 10 9::gTm 11 10 0::gTm 12 10 2::gT 13 10 (.bin 0 .leq (.t 11) (.t 12))::fI 14 (.pick (.t 10) (.t 13) (.k (.c (.bool false))))::mJ 6 14::[]) [6]) .ret)
def Qbgi:SC:=(.seq (.reg ( fI 6 (.mv (.k (.c (.bool false))))::[]) [0,1,2]) Qbbj)
def Qbcw:List RS:=[.tmp 6]
theorem Qbf8:mFn prog Qbh 3 15 Qbgi Qbcw=true:=by kernel_rfl
def Qyv:List Item:=.e none none (.sto 3 (.t 7) (.t 18))::[]
def Qyw:List Item:=.e none none (.sto 5 (.t 8) (.t 23))::[]
def Qaxa:SC:=(.cond (.t 30) (.seq (.reg ( fI 6 (.mv (.k (.c (.bool false))))::[]) [6]) .ret) .skip)
def Qaxb:SC:=(.cond (.t 33) (.reg ( fI 9 (.mv (kI 0))::[]) [1,2,3,7,8,9]) (.seq (.reg ( fI 6 (.mv (.k (.c (.bool false))))::[]) [6]) .ret))
def Qaxc:SC:=(.cond (.t 31) (.reg ( fI 9 (.mv (kI 2))::[]) [1,2,3,7,8,9]) (.seq (.reg ( cJ 34 .eql 25 3::mJ 33 34::[]) [1,2,3,7,8,33]) Qaxb))
def Qaxd:SC:=(.cond (.t 26) (.seq (.reg ( fJ 28 3 8::lJ 29 28::cJ 30 .neq 29 0::[]) [1,2,3,7,8,9,30]) Qaxa) (.seq (.reg ( cJ 32 .eql 25 2::mJ 31 32::[]) [1,2,3,7,8,25,31]) Qaxc))
def Qaxe:SC:=(.block 0 (.seq (.reg ( cJ 27 .eql 25 1::mJ 26 27::[]) [1,2,3,7,8,9,25,26]) Qaxd))
def Qf6:List Item:=gT 51 44 (.not (.t 50))::gF 52 40 (.pick (.t 44) (.t 51) (.k (.c (.bool false))))::fI 53 (.pick (.t 40) (.k (.c (.bool true))) (.t 52))::[]
def s_l7Block_8:SC:=(.cond (.t 53) (.seq (.reg ( fI 6 (.mv (.k (.c (.bool false))))::[]) [6]) .ret) .skip)
def Qyx:List Item:=oJ 71 70::[]
def Qap0:SC:=(.cond (.t 71) (.seq (.reg ( fI 6 (.mv (.k (.c (.bool false))))::[]) [6]) .ret) .skip)
def Qap1:SC:=(.reg ( mJ 59 10::cJ 60 .add 59 1::mJ 10 60::[]) [1,2,3,7,8,10])
def Qap2:SC:=(.seq (.block 2 (.seq (.dreg 11 [0,1,2,3,4,5,6,7,8,9,10] ( fJ 61 4 8::lJ 62 61::mJ 63 10::iJ 64 1 62 63::lJ 65 64::fJ 66 2 7::lJ 67 66::nJ 68 67::cJ 69 .sub 68 1::aJ 70 Qbh [.t 65,kI 1,.t 69]::Qyx) [1,2,3,7,8,10,71]) Qap0)) Qap1)
def Qaia:SC:=(.seq (.seq (.reg ( mJ 54 10::fJ 55 4 8::lJ 56 55::nJ 57 56::bJ 58 .lss 54 57::[]) [1,2,3,7,8,10,58]) (.cond (.t 58) .skip (.exit 1))) Qap2)
def Qt0:List Item:=oJ 87 86::[]
def Qap3:SC:=(.cond (.t 87) (.seq (.reg ( fI 6 (.mv (.k (.c (.bool false))))::[]) [6]) .ret) .skip)
def Qap4:SC:=(.reg ( mJ 77 11::cJ 78 .add 77 1::mJ 11 78::[]) [1,2,3,7,8,11])
def Qap5:SC:=(.seq (.block 4 (.seq (.dreg 9 [0,1,2,3,4,5,6,7,8] ( tJ 79 1 3::mJ 80 1::fJ 81 1 8::lJ 82 81::mJ 83 11::iJ 84 4 82 83::tJ 85 4 84::aJ 86 Qaep [.t 79,.t 80,.t 85]::Qt0) [1,2,3,7,8,11,87]) Qap3)) Qap4)
def Qaib:SC:=(.seq (.seq (.reg ( mJ 72 11::fJ 73 1 8::lJ 74 73::nJ 75 74::bJ 76 .lss 72 75::[]) [1,2,3,7,8,11,76]) (.cond (.t 76) .skip (.exit 3))) Qap5)
def Qt1:List Item:=mJ 12 90::[]
def Qet:List Item:=gF 134 123 (.not (.t 133))::fI 135 (.pick (.t 123) (.k (.c (.bool true))) (.t 134))::[]
def Qi0:List Item:=gF 121 112 (.not (.t 120))::fI 122 (.pick (.t 112) (.k (.c (.bool true))) (.t 121))::mJ 123 122::gFf 124 123 0 8::gFl 125 123 124::gFm 126 123 13::gF 127 123 (.iad 2 (.t 125) (.t 126))::gFf 128 123 0 127::gFl 129 123 128::gFf 130 123 1 7::gFl 131 123 130::gF 132 123 (.bin 0 .sub (.t 131) (kI 1))::.e (some 133) (some (123,false)) (.call Qbh [.t 129,kI 0,.t 132])::Qet
def Qyq:SC:=(.cond (.t 135) (.seq (.reg ( fI 6 (.mv (.k (.c (.bool false))))::[]) [6]) .ret) .skip)
def Qyr:SC:=(.reg ( mJ 96 13::cJ 97 .add 96 1::mJ 13 97::[]) [2,7,8,12,13])
def Qap6:SC:=(.seq (.block 6 (.seq (.dreg 38 [0,1,2,3,4,5,6,7,8,9,10,11,12,13,14,15,16,17,18,19,20,21,22,23,24,25,26,27,28,29,30,31,32,33,34,35,36,37] ( mJ 98 2::cJ 99 .eql 98 0::mJ 100 99::gFf 101 100 0 8::gFl 102 100 101::gFm 103 100 13::gF 104 100 (.iad 2 (.t 102) (.t 103))::gFf 105 100 1 104::gFl 106 100 105::gF 107 100 (.len (.t 106))::gFm 108 100 12::gF 109 100 (.len (.t 108))::gF 110 100 (.bin 0 .neq (.t 107) (.t 109))::fI 111 (.pick (.t 100) (.k (.c (.bool true))) (.t 110))::mJ 112 111::gF 113 112 (.ld 3 true (.t 7))::gFf 114 112 0 8::gFl 115 112 114::gFm 116 112 13::gF 117 112 (.iad 2 (.t 115) (.t 116))::gFf 118 112 1 117::gFl 119 112 118::.e (some 120) (some (112,false)) (.call Qrl [.t 113,.t 119])::Qi0) [2,7,8,12,13,135]) Qyq)) Qyr)
def Qaic:SC:=(.seq (.seq (.reg ( mJ 91 13::fJ 92 0 8::lJ 93 92::nJ 94 93::bJ 95 .lss 91 94::[]) [2,7,8,12,13,95]) (.cond (.t 95) .skip (.exit 5))) Qap6)
def Qys:SC:=(.seq (.reg ( fI 6 (.mv (.k (.c (.bool true))))::[]) [6]) .ret)
def Qap7:SC:=(.seq (.seq (.reg ( fI 13 (.mv (kI 0))::[]) [2,7,8,12,13]) (.block 5 (.loop Qaic))) Qys)
def Qap8:SC:=(.seq (.reg ( tJ 88 3 7::mJ 89 2::aJ 90 Qb8 [.t 88,.t 89]::Qt1) [2,7,8,12]) Qap7)
def Qap9:SC:=(.seq (.seq (.reg ( fI 11 (.mv (kI 0))::[]) [1,2,3,7,8,11]) (.block 3 (.loop Qaib))) Qap8)
def Qyt:SC:=(.seq (.seq (.reg ( fI 10 (.mv (kI 0))::[]) [1,2,3,7,8,10]) (.block 1 (.loop Qaia))) Qap9)
def Qyu:SC:=(.seq (.seq (.reg ( fJ 35 4 8::lJ 36 35::nJ 37 36::mJ 38 9::bJ 39 .neq 37 38::mJ 40 39::gFf 41 40 2 8::gFl 42 40 41::gF 43 40 (.bin 0 .neq (.t 42) (kI 1))::gFm 44 40 43::gTf 45 44 3 8::gTl 46 44 45::gTf 47 44 1 7::gTl 48 44 47::gT 49 44 (.bin 0 .sub (.t 48) (kI 1))::.e (some 50) (some (44,true)) (.call Qbh [.t 46,kI 0,.t 49])::Qf6) [1,2,3,7,8,53]) s_l7Block_8) Qyt)
def Qaqa:SC:=(.seq (.seq (.reg ( fJ 24 2 8::lJ 25 24::[]) [1,2,3,7,8,9,25]) Qaxe) Qyu)
def Qaqb:SC:=(.seq (.reg ( fI 9 (.mv (kI 1))::[]) [1,2,3,7,8,9]) Qaqa)
def Qaqc:SC:=(.seq (.reg ( fJ 19 2 7::lJ 20 19::mJ 21 2::iJ 22 5 20 21::tJ 23 5 22::eI 8 (.alloc [.sl true 2 [],.sl true 4 [],.int .i64 0,.int .i64 0,.sl true 1 []])::Qyw) [1,2,3,7,8]) Qaqb)
def Qaqd:SC:=(.seq (.reg ( fJ 14 0 3::lJ 15 14::mJ 16 1::iJ 17 3 15 16::tJ 18 3 17::eI 7 (.alloc [.int .i64 0,.int .i64 0,.sl true 5 []])::Qyv) [1,2,3,7]) Qaqc)
def Qa8d:SC:=(.seq (.reg ( fI 3 (.box (.t 0))::fI 6 (.mv (.k (.c (.bool false))))::[]) [1,2,3]) Qaqd)
def Qhc:List RS:=[.tmp 6]
theorem Qa6j:mFn prog Quw 3 136 Qa8d Qhc=true:=by kernel_rfl
def Qaqt:List Item:=.e none none (.sto 3 (.t 5) (.t 13))::[]
def Qaqu:List Item:=mJ 6 19::[]
def Qaqv:List Item:=.chk 29 none (.ld 1 false (.t 28))::.chk 30 none (.len (.t 29))::bJ 34 .add 30 33::kJ 35 27::fJ 36 1 35::fJ 37 1 36::.e none none (.sto 1 (.t 37) (.t 34))::[]
def Qaqw:List Item:=kJ 59 45::fJ 60 5 59::.e none none (.sto 1 (.t 60) (.t 58))::[]
def Qbb4:SC:=(.reg ( mJ 43 7::cJ 44 .add 43 1::mJ 7 44::[]) [4,5,6,7])
def Qbb5:SC:=(.seq (.block 1 (.dreg 17 [0,1,2,3,4,5,6,7,8,9,10,11,12,13,14,15,16] ( mJ 45 6::mJ 46 6::kJ 47 46::fJ 48 5 47::lJ 49 48::fJ 50 1 5::lJ 51 50::mJ 52 7::iJ 53 1 51 52::lJ 54 53::mJ 55 7::fI 56 (.bld [.str [],.int .i64 0,.int .i64 0] [(0,1,.t 54),(1,1,.t 55),(2,1,kI 0)])::fI 57 (.bsl 3 [.t 56])::eI 58 (.app 3 (.t 49) (.t 57))::Qaqw) [4,5,6,7])) Qbb4)
def Qa8q:SC:=(.seq (.seq (.reg ( mJ 38 7::fJ 39 1 5::lJ 40 39::nJ 41 40::bJ 42 .lss 38 41::[]) [4,5,6,7,42]) (.cond (.t 42) .skip (.exit 0))) Qbb5)
def Qaqx:List Item:=mJ 8 71::[]
def Qaqy:List Item:=fI 70 (.bsl 1 [])::aJ 71 Qav [.t 67,kI 1,.t 69,kI 0,.t 70]::Qaqx
def Qbb6:SC:=(.seq (.reg ( mJ 76 6::kJ 77 76::fJ 78 1 77::tJ 79 3 78::.e none none (.sto 3 (.t 4) (.t 79))::[]) [4]) .ret)
def Qa8h:SC:=(.seq (.reg ( mJ 72 6::mJ 73 8::fI 74 (.bsl 1 [])::aJ 75 Qa1 [.t 72,kI 3,.t 73,.t 74,kI 0]::[]) [4,6]) Qbb6)
def Qa8i:SC:=(.seq (.reg ( mJ 67 6::mJ 68 6::aJ 69 Qa4 [.t 68]::Qaqy) [4,6,8]) Qa8h)
def Qa8j:SC:=(.seq (.reg ( mJ 63 6::fJ 64 2 5::lJ 65 64::aJ 66 Qb9 [.t 63,.t 65]::[]) [4,6]) Qa8i)
def Qa8k:SC:=(.seq (.reg ( mJ 61 6::aJ 62 Qao [.t 61]::[]) [4,5,6]) Qa8j)
def Qa8l:SC:=(.seq (.seq (.reg ( fI 7 (.mv (kI 0))::[]) [4,5,6,7]) (.block 0 (.loop Qa8q))) Qa8k)
def Qa8m:SC:=(.seq (.dreg 12 [0,1,2,3,4,5,6,2,3,7,8,9,10,11] ( mJ 27 6::fJ 28 1 5::lJ 29 28::nJ 30 29::fJ 31 2 5::lJ 32 31::aJ 33 Qk2 [.t 32]::Qaqv) [4,5,6]) Qa8l)
def Qa8n:SC:=(.seq (.reg ( mJ 20 6::fJ 21 1 5::lJ 22 21::nJ 23 22::kJ 24 20::fJ 25 1 24::fJ 26 0 25::.e none none (.sto 1 (.t 26) (.t 23))::[]) [4,5,6]) Qa8m)
def Qa8o:SC:=(.seq (.reg ( tJ 14 1 2::fJ 15 1 5::lJ 16 15::nJ 17 16::fI 18 (.bld [.sl true 3 [],.int .i64 0,.int .i64 0,.sl true 5 [],.int .i64 0,.sl true 3 [],.int .i64 0,.sl true 1 []] [(0,1,.t 14),(6,1,.t 17)])::eI 19 (.boxm (.t 18))::Qaqu) [4,5,6]) Qa8n)
def Qa8p:SC:=(.seq (.reg ( fJ 9 0 2::lJ 10 9::mJ 11 1::iJ 12 3 10 11::tJ 13 3 12::eI 5 (.alloc [.str [],.sl true 1 [],.sl true 5 []])::Qaqt) [2,4,5]) Qa8o)
def Qbgl:SC:=(.seq (.reg ( fI 2 (.box (.t 0))::eI 4 (.alloc [.int .i64 0,.int .i64 0,.sl true 5 []])::[]) [1,2,4]) Qa8p)
def Qbcx:List RS:=[.cell 4 3 true]
theorem Qbgb:mFn prog Qarz 2 80 Qbgl Qbcx=true:=by kernel_rfl
def Qtv:List Item:=.e none none (.sto 3 (.t 7) (.t 26))::[]
def Qtw:List Item:=fI 26 (.bld [.str [],.sl true 1 [],.sl true 5 []] [(0,1,.t 19),(1,1,.t 25)])::eI 7 (.alloc [.str [],.sl true 1 [],.sl true 5 []])::Qtv
def Qtx:List Item:=fJ 29 2 7::.e none none (.sto 1 (.t 29) (.t 28))::[]
def Qiy:List Item:=gT 41 35 (.bin 0 .gtr (.t 40) (kI 0))::fI 42 (.pick (.t 35) (.t 41) (.k (.c (.bool false))))::[]
def Qty:List Item:=fJ 59 2 7::.e none none (.sto 1 (.t 59) (.t 58))::[]
def Qtz:List Item:=.chk 52 none (.ld 1 false (.t 51))::fI 55 (.bsl 4 [.t 54])::fI 56 (.bld [.int .i64 0,.str [],.sl true 4 [],.sl true 5 [],.sl true 5 []] [(0,1,kI 7),(2,1,.t 55)])::fI 57 (.bsl 5 [.t 56])::eI 58 (.app 5 (.t 52) (.t 57))::Qty
def Qapu:SC:=(.dreg 10 [0,1,2,3,1,4,5,6,7,8,9] ( fJ 51 2 7::lJ 52 51::mJ 53 0::aJ 54 Qbd [.t 53,kI 2]::Qtz) [6,7])
def s_l3Gen_fn_7:SC:=(.cond (.t 42) (.seq (.reg ( mJ 43 0::mJ 44 0::kJ 45 44::fJ 46 4 45::lJ 47 46::cJ 48 .sub 47 1::kJ 49 43::fJ 50 4 49::.e none none (.sto 1 (.t 50) (.t 48))::[]) [0,6,7]) Qapu) .skip)
def Qly:SC:=(.seq (.reg ( tJ 60 3 7::.e none none (.sto 3 (.t 6) (.t 60))::[]) [6]) .ret)
def Qapv:SC:=(.seq (.seq (.reg ( mJ 30 0::kJ 31 30::fJ 32 4 31::lJ 33 32::cJ 34 .gtr 33 0::mJ 35 34::gTm 36 35 0::gT 37 35 (.nck (.t 36))::gTf 38 35 0 37::gTl 39 35 38::.e (some 40) (some (35,true)) (.call Ql [.t 39,kI 4])::Qiy) [0,6,7,42]) s_l3Gen_fn_7) Qly)
def Qah2:SC:=(.seq (.reg ( mJ 27 0::aJ 28 Qb7 [.t 27,kI 3]::Qtx) [0,6,7]) Qapv)
def Qah3:SC:=(.seq (.reg ( mJ 19 1::fI 20 (.bsl 1 [])::mJ 21 0::kJ 22 21::fJ 23 2 22::lJ 24 23::eI 25 (.app 1 (.t 20) (.t 24))::Qtw) [0,6,7]) Qah2)
def Qah4:SC:=(.seq (.reg ( mJ 14 0::mJ 15 2::cJ 16 .sub 15 1::kJ 17 14::fJ 18 3 17::.e none none (.sto 1 (.t 18) (.t 16))::[]) [0,1,6]) Qah3)
def Qah5:SC:=(.seq (.reg ( mJ 8 0::fI 9 (.bsl 1 [.k (.c (.str [97])),.k (.c (.str [98])),.k (.c (.str [99]))])::mJ 10 2::fI 11 (.sli 1 (.t 9) none (some (.t 10)))::kJ 12 8::fJ 13 2 12::.e none none (.sto 1 (.t 13) (.t 11))::[]) [0,1,2,6]) Qah4)
def Qa2u:SC:=(.seq (.reg ( eI 6 (.alloc [.str [],.sl true 1 [],.sl true 5 []])::[]) [0,1,2,6]) Qah5)
def Qnn:List RS:=[.cell 6 3 true]
theorem Qa1n:mFn prog Qii 3 61 Qa2u Qnn=true:=by kernel_rfl
def Qei:List Item:=oJ 8 7::[]
def Qq8:SC:=(.cond (.t 8) (.seq (.reg ( fI 2 (.mv (.k (.c (.bool false))))::[]) [2]) .ret) .skip)
def Qej:List Item:=oJ 22 21::[]
def Qq9:SC:=(.cond (.t 22) (.seq (.reg ( fI 2 (.mv (.k (.c (.bool false))))::[]) [2]) .ret) .skip)
def Qra:SC:=(.reg ( mJ 14 3::cJ 15 .add 14 1::mJ 3 15::[]) [1,3])
def Qrb:SC:=(.seq (.block 1 (.seq (.reg ( fJ 16 0 1::lJ 17 16::mJ 18 3::iJ 19 3 17 18::tJ 20 3 19::aJ 21 Qary [.t 20]::Qej) [1,3,22]) Qq9)) Qra)
def Qn4:SC:=(.seq (.seq (.reg ( mJ 9 3::fJ 10 0 1::lJ 11 10::nJ 12 11::bJ 13 .lss 9 12::[]) [1,3,13]) (.cond (.t 13) .skip (.exit 0))) Qrb)
def Qek:List Item:=cJ 25 .leq 24 40::mJ 2 25::[]
def Qrc:SC:=(.seq (.reg ( tJ 23 1 1::aJ 24 Qaeo [.t 23]::Qek) [2]) .ret)
def Qrd:SC:=(.seq (.seq (.reg ( fI 3 (.mv (kI 0))::[]) [1,3]) (.block 0 (.loop Qn4))) Qrc)
def Qn3:SC:=(.seq (.seq (.reg ( fJ 4 0 1::lJ 5 4::nJ 6 5::aJ 7 Qbh [.t 6,kI 1,kI 4]::Qei) [1,8]) Qq8) Qrd)
def Qvy:SC:=(.seq (.reg ( fI 1 (.box (.t 0))::fI 2 (.mv (.k (.c (.bool false))))::[]) [1]) Qn3)
def Qdk:List RS:=[.tmp 2]
theorem Qu2:mFn prog Qc9 1 26 Qvy Qdk=true:=by kernel_rfl
def Qjs:List Item:=.chk 10 none (.ld 1 false (.t 9))::.chk 12 none (.ld 1 false (.t 11))::.chk 15 none (.ld 1 false (.t 14))::.e none none (.sto 5 (.t 3) (.t 17))::[]
def Qjt:List Item:=.chk 10 none (.ld 1 false (.t 9))::.chk 12 none (.ld 1 false (.t 11))::fI 17 (.bld [.sl true 2 [],.sl true 4 [],.int .i64 0,.int .i64 0,.sl true 1 []] [(0,1,.t 7),(1,1,.t 8),(2,1,.t 10),(3,1,.t 12),(4,1,.t 16)])::eI 3 (.alloc [.sl true 2 [],.sl true 4 [],.int .i64 0,.int .i64 0,.sl true 1 []])::Qjs
def Qju:List Item:=fJ 44 0 3::.e none none (.sto 1 (.t 44) (.t 43))::[]
def Qjv:List Item:=.chk 26 none (.ld 1 false (.t 25))::.chk 28 none (.ld 1 false (.t 27))::.chk 30 none (.iad 2 (.t 28) (.t 29))::.chk 32 none (.ld 1 false (.t 31))::fI 41 (.bld [.int .i64 0,.sl true 1 []] [(0,1,.t 32),(1,1,.t 40)])::fI 42 (.bsl 2 [.t 41])::eI 43 (.app 2 (.t 26) (.t 42))::Qju
def Q66:SC:=(.reg ( mJ 23 4::cJ 24 .add 23 1::mJ 4 24::[]) [1,2,3,4])
def Q67:SC:=(.seq (.block 1 (.dreg 21 [0,1,2,3,4,5,6,7,8,9,10,11,12,13,14,15,1,3,5,7,16,17,18,19,20] ( fJ 25 0 3::lJ 26 25::fJ 27 0 1::lJ 28 27::mJ 29 4::iJ 30 2 28 29::fJ 31 0 30::lJ 32 31::fI 33 (.bsl 1 [])::fJ 34 0 1::lJ 35 34::mJ 36 4::iJ 37 2 35 36::fJ 38 1 37::lJ 39 38::eI 40 (.app 1 (.t 33) (.t 39))::Qjv) [1,2,3,4])) Q66)
def Q0y:SC:=(.seq (.seq (.reg ( mJ 18 4::fJ 19 0 1::lJ 20 19::nJ 21 20::bJ 22 .lss 18 21::[]) [1,2,3,4,22]) (.cond (.t 22) .skip (.exit 0))) Q67)
def Qjw:List Item:=.e none none (.sto 4 (.t 6) (.t 56))::[]
def Qjx:List Item:=fJ 72 1 3::.e none none (.sto 1 (.t 72) (.t 71))::[]
def Qjy:List Item:=.chk 58 none (.ld 1 false (.t 57))::.chk 60 none (.ld 1 false (.t 59))::.chk 62 none (.ld 1 false (.t 61))::.chk 68 none (.ld 1 false (.t 67))::fI 69 (.bld [.int .i64 0,.int .i64 0,.sl true 1 [],.int .i64 0] [(0,1,.t 60),(1,1,.t 62),(2,1,.t 66),(3,1,.t 68)])::fI 70 (.bsl 4 [.t 69])::eI 71 (.app 4 (.t 58) (.t 70))::Qjx
def Q0r:SC:=(.dreg 17 [0,1,2,3,4,5,6,7,8,10,11,9,1,3,5,11,12,13,14,15,16] ( fJ 57 1 3::lJ 58 57::fJ 59 0 6::lJ 60 59::fJ 61 1 6::lJ 62 61::fI 63 (.bsl 1 [])::fJ 64 2 6::lJ 65 64::fJ 67 3 6::lJ 68 67::eI 66 (.app 1 (.t 63) (.t 65))::Qjy) [1,2,3,5])
def Q0s:SC:=(.reg ( mJ 50 5::cJ 51 .add 50 1::mJ 5 51::[]) [1,2,3,5])
def Q0t:SC:=(.seq (.block 3 (.seq (.reg ( fJ 52 1 1::lJ 53 52::mJ 54 5::iJ 55 4 53 54::tJ 56 4 55::eI 6 (.alloc [.int .i64 0,.int .i64 0,.sl true 1 [],.int .i64 0])::Qjw) [1,2,3,5,6]) Q0r)) Q0s)
def Qvp:SC:=(.seq (.seq (.reg ( mJ 45 5::fJ 46 1 1::lJ 47 46::nJ 48 47::bJ 49 .lss 45 48::[]) [1,2,3,5,49]) (.cond (.t 49) .skip (.exit 2))) Q0t)
def Q0u:SC:=(.seq (.reg ( tJ 73 5 3::.e none none (.sto 5 (.t 2) (.t 73))::[]) [2]) .ret)
def Q0v:SC:=(.seq (.seq (.reg ( fI 5 (.mv (kI 0))::[]) [1,2,3,5]) (.block 2 (.loop Qvp))) Q0u)
def Q0w:SC:=(.seq (.seq (.reg ( fI 4 (.mv (kI 0))::[]) [1,2,3,4]) (.block 0 (.loop Q0y))) Q0v)
def Q0x:SC:=(.seq (.dreg 11 [0,1,2,3,4,5,6,7,8,9,3,5,10,11,3,5,8,12] ( fI 7 (.bsl 2 [])::fI 8 (.bsl 4 [])::fJ 9 2 1::lJ 10 9::fJ 11 3 1::lJ 12 11::fI 13 (.bsl 1 [])::fJ 14 4 1::lJ 15 14::eI 16 (.app 1 (.t 13) (.t 15))::Qjt) [1,2,3]) Q0w)
def Qaid:SC:=(.seq (.reg ( fI 1 (.box (.t 0))::eI 2 (.alloc [.sl true 2 [],.sl true 4 [],.int .i64 0,.int .i64 0,.sl true 1 []])::[]) [1,2]) Q0x)
def Qr6:List RS:=[.cell 2 5 true]
theorem Qafb:mFn prog Qds 1 74 Qaid Qr6=true:=by kernel_rfl
def Q7j:List Item:=mJ 7 13::[]
def Qq6:List Item:=.e none none (.sto 4 (.t 8) (.t 18))::[]
def Q7k:List Item:=fI 18 (.bld [.int .i64 0,.int .i64 0,.sl true 1 [],.int .i64 0] [(0,1,.t 14),(1,1,.t 17)])::eI 8 (.alloc [.int .i64 0,.int .i64 0,.sl true 1 [],.int .i64 0])::Qq6
def Q7l:List Item:=mJ 9 20::[]
def Q7m:List Item:=fI 30 (.bsl 1 [.t 29])::fI 31 (.bld [.int .i64 0,.int .i64 0,.sl true 1 [],.int .i64 0] [(0,1,kI 13),(1,1,kI (-1)),(2,1,.t 30)])::.e none none (.sto 4 (.t 6) (.t 31))::[]
def Qa3p:SC:=(.cond (.t 26) (.seq (.reg ( mJ 27 0::mJ 28 2::aJ 29 Ql [.t 27,.t 28]::Q7m) [6]) .ret) .skip)
def Q7n:List Item:=fJ 37 3 8::.e none none (.sto 1 (.t 37) (.t 36))::[]
def Qa3q:SC:=(.reg ( fJ 38 0 4::lJ 39 38::fJ 40 3 8::lJ 41 40::iJ 42 3 39 41::fJ 43 0 42::lJ 44 43::mJ 9 44::[]) [0,2,6,7,8,9])
def Qa3r:SC:=(.seq (.reg ( mJ 32 0::fJ 33 0 4::lJ 34 33::nJ 35 34::aJ 36 Ql [.t 32,.t 35]::Q7n) [0,2,4,6,7,8]) Qa3q)
def Qa3s:SC:=(.cond (.t 22) (.seq (.seq (.reg ( fJ 23 0 4::lJ 24 23::nJ 25 24::cJ 26 .eql 25 0::[]) [0,2,4,6,7,8,26]) Qa3p) Qa3r) .skip)
def Qy8:List Item:=fJ 50 3 8::.e none none (.sto 1 (.t 50) (.t 49))::[]
def Qax4:SC:=(.cond (.t 46) (.reg ( mJ 47 0::fI 48 (.bsl 1 [kI 0,kI 1,kI 2,kI 3,kI 15,kI 16,kI 255])::aJ 49 Q8 [.t 47,.t 48]::Qy8) [0,2,6,7,8,9]) .skip)
def Qy9:List Item:=oJ 53 52::[]
def Qax5:SC:=(.cond (.t 53) (.reg ( fJ 54 1 8::.e none none (.sto 1 (.t 54) (kI (-1)))::[]) [0,2,6,8,9]) .skip)
def Qza:List Item:=fJ 67 2 8::.e none none (.sto 1 (.t 67) (.t 66))::[]
def Qzb:List Item:=.chk 61 none (.ld 1 false (.t 60))::fI 65 (.bsl 1 [.t 64])::eI 66 (.app 1 (.t 61) (.t 65))::Qza
def Qax6:SC:=(.reg ( mJ 58 10::cJ 59 .add 58 1::mJ 10 59::[]) [0,2,6,8,9,10])
def Qax7:SC:=(.seq (.block 1 (.dreg 9 [0,1,2,3,4,1,5,6,7,8] ( fJ 60 2 8::lJ 61 60::mJ 62 0::mJ 63 2::aJ 64 Ql [.t 62,.t 63]::Qzb) [0,2,6,8,9,10])) Qax6)
def Qaqo:SC:=(.seq (.seq (.reg ( mJ 55 10::mJ 56 9::bJ 57 .lss 55 56::[]) [0,2,6,8,9,10,57]) (.cond (.t 57) .skip (.exit 0))) Qax7)
def Qax8:SC:=(.seq (.reg ( tJ 68 4 8::.e none none (.sto 4 (.t 6) (.t 68))::[]) [6]) .ret)
def Q7g:SC:=(.seq (.seq (.reg ( fI 10 (.mv (kI 0))::[]) [0,2,6,8,9,10]) (.block 0 (.loop Qaqo))) Qax8)
def Q7h:SC:=(.seq (.seq (.reg ( mJ 51 7::aJ 52 Qdi [.t 51]::Qy9) [0,2,6,8,9,53]) Qax5) Q7g)
def Q7i:SC:=(.seq (.seq (.reg ( mJ 45 7::cJ 46 .eql 45 1::[]) [0,2,6,7,8,9,46]) Qax4) Q7h)
def Qax9:SC:=(.seq (.seq (.reg ( mJ 21 7::cJ 22 .eql 21 14::[]) [0,2,4,6,7,8,9,22]) Qa3s) Q7i)
def Qaya:SC:=(.seq (.reg ( mJ 19 7::aJ 20 Qk1 [.t 19]::Q7l) [0,2,4,6,7,8,9]) Qax9)
def Qayb:SC:=(.seq (.reg ( mJ 14 7::mJ 15 0::mJ 16 2::aJ 17 Ql [.t 15,.t 16]::Q7k) [0,2,4,6,7,8]) Qaya)
def Qayc:SC:=(.seq (.reg ( mJ 11 0::fI 12 (.bsl 1 [kI 1,kI 1,kI 2,kI 3,kI 4,kI 5,kI 8,kI 9,kI 10,kI 13,kI 3,kI 6,kI 7,kI 11,kI 12,kI 14])::aJ 13 Q8 [.t 11,.t 12]::Q7j) [0,2,4,6,7]) Qayb)
def Qbb1:SC:=(.seq (.reg ( fI 4 (.box (.t 1))::eI 6 (.alloc [.int .i64 0,.int .i64 0,.sl true 1 [],.int .i64 0])::[]) [0,2,4,6]) Qayc)
def Qno:List RS:=[.cell 6 4 true]
theorem Qba1:mFn prog Q28 3 69 Qbb1 Qno=true:=by kernel_rfl
def Q7o:List Item:=gT 14 11 (.bin 0 .gtr (.t 13) (kI 0))::fI 15 (.pick (.t 11) (.t 14) (.k (.c (.bool false))))::[]
def Qaqp:List Item:=bJ 24 .add 17 23::mJ 6 24::[]
def s_l7To_2:SC:=(.cond (.t 15) (.seq (.reg ( mJ 16 1::cJ 17 .add 16 1::mJ 18 0::mJ 19 2::cJ 20 .sub 19 1::mJ 21 1::bJ 22 .sub 20 21::aJ 23 Ql [.t 18,.t 22]::Qaqp) [6]) .ret) .skip)
def Qaqq:List Item:=fI 29 (.bin 0 .add (kI 1) (.t 28))::mJ 6 29::[]
def Qa0c:SC:=(.seq (.reg ( mJ 25 0::mJ 26 2::cJ 27 .sub 26 1::aJ 28 Ql [.t 25,.t 27]::Qaqq) [6]) .ret)
def Qbb2:SC:=(.seq (.seq (.reg ( mJ 7 1::mJ 8 2::cJ 9 .sub 8 1::bJ 10 .lss 7 9::mJ 11 10::gTm 12 11 0::.e (some 13) (some (11,true)) (.call Ql [.t 12,kI 4])::Q7o) [0,1,2,15]) s_l7To_2) Qa0c)
def Qbgk:SC:=(.seq (.reg ( fI 6 (.mv (kI 0))::[]) [0,1,2]) Qbb2)
def Qaz7:List RS:=[.tmp 6]
theorem Qbga:mFn prog Q29 3 30 Qbgk Qaz7=true:=by kernel_rfl
def Qad6:List Item:=.e none none (.sto 3 (.t 7) (.t 12))::[]
def Qvq:List Item:=gF 22 17 (.not (.t 21))::fI 23 (.pick (.t 17) (.k (.c (.bool true))) (.t 22))::[]
def Qad7:List Item:=oJ 16 15::mJ 17 16::gF 18 17 (.ld 3 true (.t 7))::gFf 19 17 2 5::gFl 20 17 19::.e (some 21) (some (17,false)) (.call Qrl [.t 18,.t 20])::Qvq
def s_l7Ins_3:SC:=(.cond (.t 23) (.seq (.reg ( fI 6 (.mv (.k (.c (.bool false))))::[]) [6]) .ret) .skip)
def Qvr:List Item:=gF 38 34 (.not (.t 37))::gFm 39 34 38::gTf 40 39 1 5::gTl 41 39 40::gT 42 39 (.bin 0 .neq (.t 41) (kI (-1)))::gF 43 34 (.pick (.t 39) (.t 42) (.k (.c (.bool false))))::fI 44 (.pick (.t 34) (.k (.c (.bool true))) (.t 43))::[]
def Qad8:List Item:=fI 33 (.bin 1 .neq (.t 26) (.t 32))::mJ 34 33::gFf 35 34 0 5::gFl 36 34 35::.e (some 37) (some (34,false)) (.call Qdi [.t 36])::Qvr
def Qad9:List Item:=.chk 28 none (.ld 1 false (.t 27))::.chk 30 none (.ld 1 false (.t 29))::aJ 32 Qbh [.t 28,kI 0,.t 31]::Qad8
def s_l7Ins_7:SC:=(.cond (.t 44) (.seq (.reg ( fI 6 (.mv (.k (.c (.bool false))))::[]) [6]) .ret) .skip)
def Qnq:List Item:=mJ 53 52::gTf 54 53 2 5::gTl 55 53 54::gT 56 53 (.len (.t 55))::gTf 57 53 0 3::gTl 58 53 57::gTf 59 53 3 5::gTl 60 53 59::gT 61 53 (.iad 3 (.t 58) (.t 60))::gTf 62 53 0 61::gTl 63 53 62::gT 64 53 (.bin 0 .eql (.t 56) (.t 63))::fI 65 (.pick (.t 53) (.t 64) (.k (.c (.bool false))))::mJ 6 65::[]
def Qa8e:SC:=(.cond (.t 47) (.seq (.dreg 19 [0,1,2,3,4,5,6,7,8,9,10,11,12,13,14,15,16,17,18] ( fJ 48 3 5::lJ 49 48::mJ 50 1::cJ 51 .sub 50 1::aJ 52 Qbh [.t 49,kI 0,.t 51]::Qnq) [6]) .ret) .skip)
def Qq5:List Item:=fI 77 (.pick (.t 73) (.t 76) (.k (.c (.bool false))))::mJ 78 77::gTf 79 78 3 5::gTl 80 78 79::gT 81 78 (.bin 0 .eql (.t 80) (kI 0))::gTm 82 78 81::gFf 83 82 0 5::gFl 84 82 83::gF 85 82 (.bin 0 .eql (.t 84) (kI 1))::gT 86 78 (.pick (.t 82) (.k (.c (.bool true))) (.t 85))::fI 87 (.pick (.t 78) (.t 86) (.k (.c (.bool false))))::mJ 6 87::[]
def Q7c:List Item:=.chk 67 none (.ld 1 false (.t 66))::.chk 68 none (.len (.t 67))::bJ 72 .eql 68 71::mJ 73 72::gTf 74 73 3 5::gTl 75 73 74::.e (some 76) (some (73,true)) (.call Qbh [.t 75,kI 0,kI 255])::Qq5
def Qa3g:SC:=(.seq (.dreg 23 [0,1,2,3,4,5,1,2,6,7,8,9,10,11,12,13,14,15,16,17,18,19,20,21,22] ( fJ 66 2 5::lJ 67 66::nJ 68 67::fJ 69 0 5::lJ 70 69::aJ 71 Qk1 [.t 70]::Q7c) [6]) .ret)
def Qad4:SC:=(.seq (.seq (.reg ( fJ 45 0 5::lJ 46 45::cJ 47 .eql 46 14::[]) [1,3,5,47]) Qa8e) Qa3g)
def Qad5:SC:=(.seq (.seq (.dreg 21 [0,1,3,4,5,6,7,2,4,6,8,9,10,11,12,13,14,15,16,17,18,19,20] ( fJ 24 0 5::lJ 25 24::fJ 27 1 5::lJ 28 27::fJ 29 1 7::lJ 30 29::cJ 31 .sub 30 1::aJ 26 Qdi [.t 25]::Qad9) [1,3,5,44]) s_l7Ins_7) Qad4)
def Qa3h:SC:=(.seq (.seq (.reg ( fJ 13 0 5::lJ 14 13::aJ 15 Qbh [.t 14,kI 1,kI 14]::Qad7) [1,3,5,7,23]) s_l7Ins_3) Qad5)
def Qa3i:SC:=(.seq (.reg ( fJ 8 0 3::lJ 9 8::mJ 10 1::iJ 11 3 9 10::tJ 12 3 11::eI 7 (.alloc [.int .i64 0,.int .i64 0,.sl true 5 []])::Qad6) [1,3,5,7]) Qa3h)
def Qbe3:SC:=(.seq (.reg ( fI 3 (.box (.t 0))::fI 5 (.box (.t 2))::fI 6 (.mv (.k (.c (.bool false))))::[]) [1,3,5]) Qa3i)
def Q4a:List RS:=[.tmp 6]
theorem Qben:mFn prog Qaep 3 88 Qbe3 Q4a=true:=by kernel_rfl
def Q7f:List Item:=oJ 20 19::[]
def Qa3k:SC:=(.cond (.t 20) (.seq (.reg ( fI 4 (.mv (.k (.c (.bool false))))::[]) [4]) .ret) .skip)
def Qa3l:SC:=(.reg ( mJ 10 5::cJ 11 .add 10 1::mJ 5 11::[]) [1,2,5])
def Qa3m:SC:=(.seq (.block 1 (.seq (.dreg 9 [0,1,2,3,4,5,6,7,8] ( mJ 12 1::mJ 13 5::iJ 14 1 12 13::lJ 15 14::fJ 16 1 2::lJ 17 16::cJ 18 .sub 17 1::aJ 19 Qbh [.t 15,kI 0,.t 18]::Q7f) [1,2,5,20]) Qa3k)) Qa3l)
def Qax3:SC:=(.seq (.seq (.reg ( mJ 6 5::mJ 7 1::nJ 8 7::bJ 9 .lss 6 8::[]) [1,2,5,9]) (.cond (.t 9) .skip (.exit 0))) Qa3m)
def Qa3n:SC:=(.seq (.reg ( fI 4 (.mv (.k (.c (.bool true))))::[]) [4]) .ret)
def Qa3o:SC:=(.seq (.seq (.reg ( fI 5 (.mv (kI 0))::[]) [1,2,5]) (.block 0 (.loop Qax3))) Qa3n)
def Qbb0:SC:=(.seq (.reg ( fI 2 (.box (.t 0))::fI 4 (.mv (.k (.c (.bool false))))::[]) [1,2]) Qa3o)
def Qafr:List RS:=[.tmp 4]
theorem Qba0:mFn prog Qrl 2 21 Qbb0 Qafr=true:=by kernel_rfl
def Q7w:List Item:=bJ 33 .add 26 32::mJ 3 33::[]
def Q7x:List Item:=.chk 29 none (.iad 5 (.t 27) (.t 28))::.chk 31 none (.ld 1 false (.t 30))::bJ 26 .add 19 25::aJ 32 Qk2 [.t 31]::Q7w
def Q7y:List Item:=.chk 22 none (.iad 5 (.t 20) (.t 21))::.chk 24 none (.ld 1 false (.t 23))::.chk 29 none (.iad 5 (.t 27) (.t 28))::.chk 31 none (.ld 1 false (.t 30))::bJ 19 .add 11 18::aJ 25 Qk2 [.t 24]::Q7x
def Qa3v:SC:=(.reg ( mJ 9 4::cJ 10 .add 9 1::mJ 4 10::[]) [0,3,4])
def Qa3w:SC:=(.seq (.block 1 (.dreg 24 [0,1,2,3,4,5,6,9,10,11,12,13,16,17,18,19,20,7,11,13,18,20,8,14,18,20,15,21,22,23] ( mJ 11 3::mJ 12 0::mJ 13 4::iJ 14 5 12 13::fJ 15 0 14::lJ 16 15::cJ 17 .eql 16 1::mJ 20 0::mJ 21 4::iJ 22 5 20 21::fJ 23 3 22::lJ 24 23::mJ 27 0::mJ 28 4::iJ 29 5 27 28::fJ 30 4 29::lJ 31 30::aJ 18 Quv [.t 17]::Q7y) [0,3,4])) Qa3v)
def Qayr:SC:=(.seq (.seq (.reg ( mJ 5 4::mJ 6 0::nJ 7 6::bJ 8 .lss 5 7::[]) [0,3,4,8]) (.cond (.t 8) .skip (.exit 0))) Qa3w)
def Qa3x:SC:=(.seq (.reg ( mJ 34 3::mJ 2 34::[]) [2]) .ret)
def Qa3y:SC:=(.seq (.seq (.reg ( fI 4 (.mv (kI 0))::[]) [0,3,4]) (.block 0 (.loop Qayr))) Qa3x)
def Qa3z:SC:=(.seq (.reg ( fI 3 (.mv (kI 0))::[]) [0,3]) Qa3y)
def Qbb7:SC:=(.seq (.reg ( fI 2 (.mv (kI 0))::[]) [0]) Qa3z)
def Qaz9:List RS:=[.tmp 2]
theorem Qba3:mFn prog Qk2 1 35 Qbb7 Qaz9=true:=by kernel_rfl
def Qjz:List Item:=kJ 15 3::fJ 16 1 15::fJ 17 2 16::.e none none (.sto 1 (.t 17) (.t 14))::[]
def Q7z:SC:=(.seq (.reg ( mJ 18 0::kJ 19 18::fJ 20 1 19::fJ 21 2 20::lJ 22 21::nJ 23 22::cJ 24 .sub 23 1::mJ 2 24::[]) [2]) .ret)
def Q70:SC:=(.seq (.reg ( mJ 3 0::mJ 4 0::kJ 5 4::fJ 6 1 5::fJ 7 2 6::lJ 8 7::fI 9 (.bsl 2 [])::fI 10 (.bsl 4 [])::fI 11 (.bsl 1 [])::fI 12 (.bld [.sl true 2 [],.sl true 4 [],.int .i64 0,.int .i64 0,.sl true 1 []] [(0,1,.t 9),(1,1,.t 10),(4,1,.t 11)])::fI 13 (.bsl 5 [.t 12])::eI 14 (.app 5 (.t 8) (.t 13))::Qjz) [0]) Q7z)
def Qaih:SC:=(.seq (.reg ( fI 2 (.mv (kI 0))::[]) [0]) Q70)
def Qr7:List RS:=[.tmp 2]
theorem Qafc:mFn prog Qao 1 25 Qaih Qr7=true:=by kernel_rfl
def Q8z:SC:=(.reg ( mJ 15 5::cJ 16 .add 15 1::mJ 5 16::[]) [0,1,4,5])
def Q80:SC:=(.seq (.block 1 (.reg ( mJ 17 0::mJ 18 1::mJ 19 5::iJ 20 5 18 19::tJ 21 5 20::aJ 22 Qin [.t 17,.t 21]::[]) [0,1,4,5])) Q8z)
def Q00:SC:=(.seq (.seq (.reg ( mJ 11 5::mJ 12 1::nJ 13 12::bJ 14 .lss 11 13::[]) [0,1,4,5,14]) (.cond (.t 14) .skip (.exit 0))) Q80)
def Q81:SC:=(.reg ( mJ 23 0::mJ 24 0::kJ 25 24::fJ 26 5 25::lJ 27 26::mJ 28 4::fI 29 (.sli 3 (.t 27) none (some (.t 28)))::kJ 30 23::fJ 31 5 30::.e none none (.sto 1 (.t 31) (.t 29))::[]) [])
def Q82:SC:=(.seq (.seq (.reg ( fI 5 (.mv (kI 0))::[]) [0,1,4,5]) (.block 0 (.loop Q00))) Q81)
def Qair:SC:=(.seq (.reg ( mJ 6 0::kJ 7 6::fJ 8 5 7::lJ 9 8::nJ 10 9::mJ 4 10::[]) [0,1,4]) Q82)
def Qir:List RS:=[]
theorem Qafe:mFn prog Qb9 2 32 Qair Qir=true:=by kernel_rfl
def Qpp:List Item:=kJ 34 22::fJ 35 1 34::.e none none (.sto 1 (.t 35) (.t 33))::[]
def Qaij:SC:=(.seq (.reg ( mJ 36 2::mJ 10 36::[]) [10]) .ret)
def Qaik:SC:=(.seq (.reg ( mJ 22 11::mJ 23 11::kJ 24 23::fJ 25 1 24::lJ 26 25::mJ 27 1::mJ 28 2::mJ 29 4::mJ 30 3::fI 31 (.bld [.int .i64 0,.int .i64 0,.sl true 1 [],.int .i64 0] [(0,1,.t 27),(1,1,.t 28),(2,1,.t 29),(3,1,.t 30)])::fI 32 (.bsl 4 [.t 31])::eI 33 (.app 4 (.t 26) (.t 32))::Qpp) [2]) Qaij)
def Qail:SC:=(.seq (.dreg 11 [0,1,2,3,4,5,6,7,8,9,10] ( mJ 12 0::kJ 13 12::fJ 14 1 13::fJ 15 2 14::lJ 16 15::mJ 17 0::kJ 18 17::fJ 19 4 18::lJ 20 19::iJ 21 5 16 20::mJ 11 21::[]) [1,2,3,4,11]) Qaik)
def Qayt:SC:=(.seq (.reg ( fI 10 (.mv (kI 0))::[]) [0,1,2,3,4]) Qail)
def Q4d:List RS:=[.tmp 10]
theorem Qasn:mFn prog Qav 5 37 Qayt Q4d=true:=by kernel_rfl
def Q8c:SC:=(.seq (.reg ( mJ 13 0::kJ 14 13::fJ 15 1 14::fJ 16 1 15::lJ 17 16::cJ 18 .sub 17 1::mJ 2 18::[]) [2]) .ret)
def Q8d:SC:=(.seq (.reg ( mJ 3 0::mJ 4 0::kJ 5 4::fJ 6 1 5::fJ 7 1 6::lJ 8 7::cJ 9 .add 8 1::kJ 10 3::fJ 11 1 10::fJ 12 1 11::.e none none (.sto 1 (.t 12) (.t 9))::[]) [0]) Q8c)
def Qaii:SC:=(.seq (.reg ( fI 2 (.mv (kI 0))::[]) [0]) Q8d)
def Qr8:List RS:=[.tmp 2]
theorem Qafd:mFn prog Qa4 1 19 Qaii Qr8=true:=by kernel_rfl
def Qacj:SC:=(.reg ( mJ 33 0::mJ 34 4::kJ 35 33::fJ 36 4 35::.e none none (.sto 1 (.t 36) (.t 34))::[]) [])
def Qack:SC:=(.seq (.reg ( mJ 29 10::mJ 30 3::kJ 31 29::fJ 32 4 31::.e none none (.sto 1 (.t 32) (.t 30))::[]) [0,4]) Qacj)
def Qacl:SC:=(.seq (.reg ( mJ 25 10::mJ 26 2::kJ 27 25::fJ 28 3 27::.e none none (.sto 1 (.t 28) (.t 26))::[]) [0,3,4,10]) Qack)
def Qacm:SC:=(.seq (.reg ( mJ 21 10::mJ 22 1::kJ 23 21::fJ 24 2 23::.e none none (.sto 1 (.t 24) (.t 22))::[]) [0,2,3,4,10]) Qacl)
def Qaq0:SC:=(.seq (.dreg 11 [0,1,2,3,4,5,6,7,8,9,10] ( mJ 11 0::kJ 12 11::fJ 13 1 12::fJ 14 2 13::lJ 15 14::mJ 16 0::kJ 17 16::fJ 18 4 17::lJ 19 18::iJ 20 5 15 19::mJ 10 20::[]) [0,1,2,3,4,10]) Qacm)
def Qwj:List RS:=[]
theorem Qaj7:mFn prog Qa1 5 37 Qaq0 Qwj=true:=by kernel_rfl
def Qje:List Item:=mJ 7 18::[]
def Qjf:List Item:=mJ 6 34::[]
def Qjg:List Item:=eI 34 (.app 5 (.t 30) (.t 33))::Qjf
def Q5i:SC:=(.reg ( mJ 28 7::cJ 29 .sub 28 1::mJ 7 29::[]) [0,1,5,6,7])
def Q5j:SC:=(.seq (.block 1 (.reg ( mJ 30 6::mJ 31 0::mJ 32 1::aJ 33 Qik [.t 31,.t 32]::Qjg) [0,1,5,6,7])) Q5i)
def Q0p:SC:=(.seq (.seq (.reg ( mJ 19 7::cJ 20 .gtr 19 0::mJ 21 20::gTm 22 21 0::gT 23 21 (.nck (.t 22))::gTf 24 21 4 23::gTl 25 21 24::gT 26 21 (.bin 0 .gtr (.t 25) (kI 0))::fI 27 (.pick (.t 21) (.t 26) (.k (.c (.bool false))))::[]) [0,1,5,6,7,27]) (.cond (.t 27) .skip (.exit 0))) Q5j)
def Q5k:SC:=(.seq (.reg ( mJ 39 6::mJ 4 39::[]) [4]) .ret)
def Q5l:SC:=(.seq (.reg ( mJ 35 0::mJ 36 5::kJ 37 35::fJ 38 2 37::.e none none (.sto 1 (.t 38) (.t 36))::[]) [6]) Q5k)
def Q5m:SC:=(.seq (.seq (.reg ( mJ 13 0::kJ 14 13::fJ 15 0 14::lJ 16 15::fI 17 (.bsl 1 [kI 2,kI 3,kI 1,kI 4])::aJ 18 Q8 [.t 16,.t 17]::Qje) [0,1,5,6,7]) (.block 0 (.loop Q0p))) Q5l)
def Q5n:SC:=(.seq (.reg ( fI 12 (.bsl 5 [])::mJ 6 12::[]) [0,1,5,6]) Q5m)
def Q0o:SC:=(.seq (.reg ( mJ 8 0::kJ 9 8::fJ 10 2 9::lJ 11 10::mJ 5 11::[]) [0,1,5]) Q5n)
def Qah1:SC:=(.seq (.reg ( fI 4 (.mv (.k (.c (.sl true 5 []))))::[]) [0,1]) Q0o)
def Qr5:List RS:=[.tmp 4]
theorem Qae9:mFn prog Qb7 2 40 Qah1 Qr5=true:=by kernel_rfl
def Qlr:List Item:=.chk 12 none (.ld 1 false (.t 11))::.chk 16 none (.ld 1 false (.t 15))::.e none none (.sto 4 (.t 5) (.t 18))::[]
def Qls:List Item:=eI 5 (.alloc [.int .i64 0,.int .i64 0,.str [],.sl true 4 []])::Qlr
def Qfl:List Item:=gF 31 25 (.bin 0 .gtr (.t 30) (kI 0))::fI 32 (.pick (.t 25) (.k (.c (.bool true))) (.t 31))::[]
def s_l3Gen_expr_3:SC:=(.cond (.t 32) (.seq (.reg ( tJ 33 4 5::.e none none (.sto 4 (.t 4) (.t 33))::[]) [4]) .ret) .skip)
def Qlt:List Item:=.chk 37 none (.ld 1 false (.t 36))::.chk 41 none (.ld 1 false (.t 40))::.chk 45 none (.ld 1 false (.t 44))::.chk 46 none (.len (.t 45))::.chk 48 none (.iad 3 (.t 37) (.t 47))::.chk 49 none (.ld 3 true (.t 48))::.e none none (.sto 3 (.t 6) (.t 49))::[]
def Qlu:List Item:=.chk 37 none (.ld 1 false (.t 36))::iJ 48 3 37 47::tJ 49 3 48::eI 6 (.alloc [.str [],.sl true 1 [],.sl true 5 []])::Qlt
def Qlv:List Item:=.e none none (.sto 4 (.t 7) (.t 52))::[]
def Qlw:List Item:=fJ 73 3 7::.e none none (.sto 1 (.t 73) (.t 72))::[]
def Qlx:List Item:=.chk 61 none (.ld 1 false (.t 60))::fI 71 (.bsl 4 [.t 70])::eI 72 (.app 4 (.t 61) (.t 71))::Qlw
def Qaby:SC:=(.reg ( mJ 58 8::cJ 59 .add 58 1::mJ 8 59::[]) [0,4,6,7,8])
def Q5o:SC:=(.seq (.block 1 (.dreg 15 [0,1,2,3,4,5,6,7,8,9,10,1,11,12,13,14] ( fJ 60 3 7::lJ 61 60::mJ 62 0::kJ 63 62::fJ 64 0 63::lJ 65 64::mJ 66 0::kJ 67 66::fJ 68 2 67::lJ 69 68::aJ 70 Qd1 [.t 65,.t 69,kI 2]::Qlx) [0,4,6,7,8])) Qaby)
def Q0q:SC:=(.seq (.seq (.reg ( mJ 53 8::fJ 54 1 6::lJ 55 54::nJ 56 55::bJ 57 .lss 53 56::[]) [0,4,6,7,8,57]) (.cond (.t 57) .skip (.exit 0))) Q5o)
def Qjh:List Item:=cJ 79 .eql 78 0::[]
def Q5p:SC:=(.cond (.t 79) (.seq (.reg ( tJ 80 4 7::.e none none (.sto 4 (.t 4) (.t 80))::[]) [4]) .ret) .skip)
def Qji:List Item:=.chk 87 none (.ld 4 true (.t 7))::fI 97 (.bsl 4 [.t 87,.t 96])::fI 98 (.bld [.int .i64 0,.int .i64 0,.str [],.sl true 4 []] [(0,1,.t 86),(3,1,.t 97)])::.e none none (.sto 4 (.t 4) (.t 98))::[]
def Qjj:List Item:=.chk 87 none (.ld 4 true (.t 7))::.chk 91 none (.ld 1 false (.t 90))::.chk 95 none (.ld 1 false (.t 94))::aJ 96 Qd1 [.t 91,.t 95,kI 2]::Qji
def Q5q:SC:=(.seq (.dreg 19 [0,1,2,3,4,6,7,8,9,10,11,12,13,14,5,6,10,14,15,6,16,17,18] ( mJ 81 0::kJ 82 81::fJ 83 0 82::lJ 84 83::fI 85 (.bsl 1 [kI 3,kI 4,kI 8,kI 10])::tJ 87 4 7::mJ 88 0::kJ 89 88::fJ 90 0 89::lJ 91 90::mJ 92 0::kJ 93 92::fJ 94 2 93::lJ 95 94::aJ 86 Q8 [.t 84,.t 85]::Qjj) [4]) .ret)
def Q5r:SC:=(.seq (.seq (.reg ( mJ 74 0::kJ 75 74::fJ 76 0 75::lJ 77 76::aJ 78 Ql [.t 77,kI 2]::Qjh) [0,4,7,79]) Q5p) Q5q)
def Q5s:SC:=(.seq (.seq (.reg ( fI 8 (.mv (kI 0))::[]) [0,4,6,7,8]) (.block 0 (.loop Q0q))) Q5r)
def Q5t:SC:=(.seq (.reg ( fJ 50 0 6::lJ 51 50::fI 52 (.bld [.int .i64 0,.int .i64 0,.str [],.sl true 4 []] [(0,1,kI 13),(2,1,.t 51)])::eI 7 (.alloc [.int .i64 0,.int .i64 0,.str [],.sl true 4 []])::Qlv) [0,4,6,7]) Q5s)
def Qlq:SC:=(.seq (.dreg 16 [0,1,2,3,4,5,6,7,8,9,10,11,12,13,3,14,15,16,3,7,11,12,14,15,17] ( mJ 34 0::kJ 35 34::fJ 36 1 35::lJ 37 36::mJ 38 0::kJ 39 38::fJ 40 0 39::lJ 41 40::mJ 42 0::kJ 43 42::fJ 44 1 43::lJ 45 44::nJ 46 45::aJ 47 Ql [.t 41,.t 46]::Qlu) [0,4,6]) Q5t)
def Q5u:SC:=(.seq (.seq (.reg ( mJ 19 0::kJ 20 19::fJ 21 1 20::lJ 22 21::nJ 23 22::cJ 24 .eql 23 0::mJ 25 24::gFm 26 25 0::gF 27 25 (.nck (.t 26))::gFf 28 25 0 27::gFl 29 25 28::.e (some 30) (some (25,false)) (.call Ql [.t 29,kI 4])::Qfl) [0,4,5,32]) s_l3Gen_expr_3) Qlq)
def Q5v:SC:=(.seq (.dreg 10 [0,1,2,3,4,5,6,7,8,9,10,3,7,11] ( mJ 9 0::kJ 10 9::fJ 11 0 10::lJ 12 11::mJ 13 0::kJ 14 13::fJ 15 2 14::lJ 16 15::mJ 17 1::aJ 18 Qd1 [.t 12,.t 16,.t 17]::Qls) [0,4,5]) Q5u)
def Qapt:SC:=(.seq (.reg ( eI 4 (.alloc [.int .i64 0,.int .i64 0,.str [],.sl true 4 []])::[]) [0,1,4]) Q5v)
def Qf4:List RS:=[.cell 4 4 true]
theorem Qaj2:mFn prog Qbd 2 99 Qapt Qf4=true:=by kernel_rfl
def Qapq:List Item:=oJ 17 16::[]
def Qbbp:SC:=(.cond (.t 17) (.seq (.reg ( fI 2 (.mv (.k (.c (.bool false))))::[]) [2]) .ret) .skip)
def Qbbq:SC:=(.reg ( mJ 9 3::cJ 10 .add 9 1::mJ 3 10::[]) [1,3])
def Qbbr:SC:=(.seq (.block 1 (.seq (.reg ( fJ 11 1 1::lJ 12 11::mJ 13 3::iJ 14 1 12 13::lJ 15 14::aJ 16 Qc3 [.t 15]::Qapq) [1,3,17]) Qbbp)) Qbbq)
def Qa8a:SC:=(.seq (.seq (.reg ( mJ 4 3::fJ 5 1 1::lJ 6 5::nJ 7 6::bJ 8 .lss 4 7::[]) [1,3,8]) (.cond (.t 8) .skip (.exit 0))) Qbbr)
def Q5h:List Item:=fI 31 (.pick (.t 27) (.t 30) (.k (.c (.bool false))))::mJ 2 31::[]
def Qapr:List Item:=mJ 21 20::gTf 22 21 1 1::gTl 23 21 22::gT 24 21 (.len (.t 23))::gT 25 21 (.bin 0 .leq (.t 24) (kI 3))::fI 26 (.pick (.t 21) (.t 25) (.k (.c (.bool false))))::mJ 27 26::gTf 28 27 2 1::gTl 29 27 28::.e (some 30) (some (27,true)) (.call Qg2 [.t 29,kI 4])::Q5h
def Qbbs:SC:=(.seq (.reg ( fJ 18 0 1::lJ 19 18::aJ 20 Qc3 [.t 19]::Qapr) [2]) .ret)
def Qbbt:SC:=(.seq (.seq (.reg ( fI 3 (.mv (kI 0))::[]) [1,3]) (.block 0 (.loop Qa8a))) Qbbs)
def Qbgj:SC:=(.seq (.reg ( fI 1 (.box (.t 0))::fI 2 (.mv (.k (.c (.bool false))))::[]) [1]) Qbbt)
def Qa6w:List RS:=[.tmp 2]
theorem Qbf9:mFn prog Qary 1 32 Qbgj Qa6w=true:=by kernel_rfl
def Qad3:List Item:=bJ 20 .add 12 19::mJ 3 20::[]
def Qa74:SC:=(.reg ( mJ 10 4::cJ 11 .add 10 1::mJ 4 11::[]) [1,3,4])
def Qa75:SC:=(.seq (.block 1 (.reg ( mJ 12 3::fJ 13 0 1::lJ 14 13::mJ 15 4::iJ 16 3 14 15::fJ 17 2 16::lJ 18 17::aJ 19 Qg1 [.t 18]::Qad3) [1,3,4])) Qa74)
def Qa2q:SC:=(.seq (.seq (.reg ( mJ 5 4::fJ 6 0 1::lJ 7 6::nJ 8 7::bJ 9 .lss 5 8::[]) [1,3,4,9]) (.cond (.t 9) .skip (.exit 0))) Qa75)
def Qa76:SC:=(.seq (.reg ( mJ 21 3::mJ 2 21::[]) [2]) .ret)
def Qa77:SC:=(.seq (.seq (.reg ( fI 4 (.mv (kI 0))::[]) [1,3,4]) (.block 0 (.loop Qa2q))) Qa76)
def Qa78:SC:=(.seq (.reg ( fI 3 (.mv (kI 0))::[]) [1,3]) Qa77)
def Qbe2:SC:=(.seq (.reg ( fI 1 (.box (.t 0))::fI 2 (.mv (kI 0))::[]) [1]) Qa78)
def Qa6v:List RS:=[.tmp 2]
theorem Qbem:mFn prog Qaeo 1 22 Qbe2 Qa6v=true:=by kernel_rfl
def Qy6:List Item:=mJ 5 4::gTm 6 5 0::gT 7 5 (.bin 0 .neq (.t 6) (kI 12))::fI 8 (.pick (.t 5) (.t 7) (.k (.c (.bool false))))::mJ 9 8::gTm 10 9 0::gT 11 9 (.bin 0 .neq (.t 10) (kI 13))::fI 12 (.pick (.t 9) (.t 11) (.k (.c (.bool false))))::mJ 2 12::[]
def Qaxx:SC:=(.seq (.reg ( mJ 3 0::aJ 4 Qbh [.t 3,kI 1,kI 14]::Qy6) [2]) .ret)
def Qa8f:SC:=(.seq (.reg ( fI 2 (.mv (.k (.c (.bool false))))::[]) [0]) Qaxx)
def Qakt:List RS:=[.tmp 2]
theorem Qa6k:mFn prog Qdi 1 13 Qa8f Qakt=true:=by kernel_rfl
def Q6o:List Item:=mJ 24 23::gFm 25 24 0::gF 26 24 (.bin 0 .eql (.t 25) (kI 12))::fI 27 (.pick (.t 24) (.k (.c (.bool true))) (.t 26))::mJ 21 27::[]
def Qa22:SC:=(.cond (.t 21) (.seq (.reg ( fI 2 (.mv (kI 2))::[]) [2]) .ret) .skip)
def Qa23:SC:=(.cond (.t 6) (.seq (.reg ( fI 2 (.mv (kI 1))::[]) [2]) .ret) (.seq (.reg ( mJ 22 0::aJ 23 Qbh [.t 22,kI 3,kI 9]::Q6o) [21]) Qa22))
def Qa24:SC:=(.cond (.t 3) (.seq (.reg ( fI 2 (.mv (kI 0))::[]) [2]) .ret) (.seq (.reg ( mJ 7 0::cJ 8 .eql 7 2::mJ 9 8::gFm 10 9 0::gF 11 9 (.bin 0 .eql (.t 10) (kI 10))::fI 12 (.pick (.t 9) (.k (.c (.bool true))) (.t 11))::mJ 13 12::gFm 14 13 0::gF 15 13 (.bin 0 .eql (.t 14) (kI 11))::fI 16 (.pick (.t 13) (.k (.c (.bool true))) (.t 15))::mJ 17 16::gFm 18 17 0::gF 19 17 (.bin 0 .eql (.t 18) (kI 13))::fI 20 (.pick (.t 17) (.k (.c (.bool true))) (.t 19))::mJ 6 20::[]) [0,6]) Qa23))
def Qa25:SC:=(.seq (.reg ( fI 2 (.mv (kI (-1)))::[]) [2]) .ret)
def Qa26:SC:=(.seq (.block 0 (.seq (.reg ( mJ 4 0::cJ 5 .eql 4 1::mJ 3 5::[]) [0,3]) Qa24)) Qa25)
def Qbbw:SC:=(.seq (.reg ( fI 2 (.mv (kI 0))::[]) [0]) Qa26)
def Qafq:List RS:=[.tmp 2]
theorem Qbaw:mFn prog Qk1 1 28 Qbbw Qafq=true:=by kernel_rfl
def Qawq:SC:=(.cond (.t 3) (.seq (.reg ( fI 2 (.mv (kI 1))::[]) [2]) .ret) .skip)
def Qawr:SC:=(.seq (.reg ( fI 2 (.mv (kI 0))::[]) [2]) .ret)
def Qaws:SC:=(.seq (.seq (.reg ( mJ 3 0::[]) [3]) Qawq) Qawr)
def Qa8c:SC:=(.seq (.reg ( fI 2 (.mv (kI 0))::[]) [0]) Qaws)
def Q39:List RS:=[.tmp 2]
theorem Qa6i:mFn prog Quv 1 4 Qa8c Q39=true:=by kernel_rfl
def Qacu:SC:=(.cond (.t 11) (.seq (.reg ( mJ 12 0::tJ 13 5 3::aJ 14 Qim [.t 12,.t 13]::[]) []) .ret) .skip)
def Qmw:List Item:=mJ 4 32::[]
def Qmx:List Item:=fI 31 (.bsl 1 [.t 30])::eI 32 (.app 1 (.t 23) (.t 31))::Qmw
def Qacv:SC:=(.reg ( mJ 21 5::cJ 22 .add 21 1::mJ 5 22::[]) [0,3,4,5])
def Qacw:SC:=(.seq (.block 1 (.reg ( mJ 23 4::mJ 24 0::fJ 25 2 3::lJ 26 25::mJ 27 5::iJ 28 4 26 27::tJ 29 4 28::aJ 30 Qb4 [.t 24,.t 29]::Qmx) [0,3,4,5])) Qacv)
def Q8y:SC:=(.seq (.seq (.reg ( mJ 16 5::fJ 17 2 3::lJ 18 17::nJ 19 18::bJ 20 .lss 16 19::[]) [0,3,4,5,20]) (.cond (.t 20) .skip (.exit 0))) Qacw)
def Qmy:List Item:=kJ 58 44::fJ 59 5 58::.e none none (.sto 1 (.t 59) (.t 57))::[]
def Qacx:SC:=(.reg ( mJ 60 0::mJ 61 0::kJ 62 61::fJ 63 6 62::lJ 64 63::cJ 65 .add 64 1::kJ 66 60::fJ 67 6 66::.e none none (.sto 1 (.t 67) (.t 65))::[]) [])
def Qacy:SC:=(.seq (.dreg 17 [0,1,2,3,4,5,6,7,8,9,10,11,12,13,14,15,16] ( mJ 44 0::mJ 45 0::kJ 46 45::fJ 47 5 46::lJ 48 47::fJ 49 1 3::lJ 50 49::mJ 51 0::kJ 52 51::fJ 53 6 52::lJ 54 53::fI 55 (.bld [.str [],.int .i64 0,.int .i64 0] [(0,1,.t 50),(1,1,.t 54),(2,1,kI 0)])::fI 56 (.bsl 3 [.t 55])::eI 57 (.app 3 (.t 48) (.t 56))::Qmy) [0]) Qacx)
def Qmz:List Item:=mJ 75 4::aJ 76 Qav [.t 70,kI 2,.t 74,kI 0,.t 75]::[]
def Qj9:List Item:=.chk 91 none (.iad 1 (.t 90) (kI 0))::.chk 92 none (.ld 1 false (.t 91))::aJ 96 Qa1 [.t 89,kI 3,.t 92,.t 93,.t 95]::[]
def Qka:List Item:=mJ 6 100::[]
def Qkb:List Item:=mJ 7 102::[]
def Qkc:List Item:=mJ 8 104::[]
def Q8g:SC:=(.reg ( mJ 127 0::mJ 128 8::fI 129 (.bsl 1 [.t 128])::mJ 130 8::aJ 131 Qa1 [.t 127,kI 1,kI 0,.t 129,.t 130]::[]) [])
def Q8h:SC:=(.seq (.reg ( mJ 123 0::fJ 124 4 3::lJ 125 124::aJ 126 Qb9 [.t 123,.t 125]::[]) [0,8]) Q8g)
def Q8i:SC:=(.seq (.reg ( mJ 118 0::mJ 119 8::fI 120 (.bsl 1 [.t 119])::mJ 121 7::aJ 122 Qa1 [.t 118,kI 1,kI 0,.t 120,.t 121]::[]) [0,3,8]) Q8h)
def Q8j:SC:=(.seq (.reg ( mJ 114 0::fJ 115 3 3::lJ 116 115::aJ 117 Qb9 [.t 114,.t 116]::[]) [0,3,7,8]) Q8i)
def Q8k:SC:=(.seq (.reg ( mJ 105 0::mJ 106 4::fI 107 (.iad 1 (.t 106) (kI 0))::lJ 108 107::mJ 109 6::mJ 110 7::fI 111 (.bsl 1 [.t 109,.t 110])::mJ 112 6::aJ 113 Qa1 [.t 105,kI 2,.t 108,.t 111,.t 112]::[]) [0,3,7,8]) Q8j)
def Q8l:SC:=(.seq (.reg ( mJ 103 0::aJ 104 Qao [.t 103]::Qkc) [0,3,4,6,7,8]) Q8k)
def Q8m:SC:=(.seq (.reg ( mJ 101 0::aJ 102 Qao [.t 101]::Qkb) [0,3,4,6,7]) Q8l)
def Q8n:SC:=(.cond (.t 97) (.seq (.reg ( mJ 99 0::aJ 100 Qao [.t 99]::Qka) [0,3,4,6]) Q8m) .skip)
def Q8o:SC:=(.cond (.t 87) (.dreg 8 [0,1,2,3,4,5,6,2,3,7] ( mJ 89 0::mJ 90 4::fI 91 (.iad 1 (.t 90) (kI 0))::lJ 92 91::fI 93 (.bsl 1 [])::mJ 94 0::aJ 95 Qao [.t 94]::Qj9) []) (.seq (.reg ( cJ 98 .eql 34 5::mJ 97 98::[]) [0,3,4,97]) Q8n))
def Q8p:SC:=(.cond (.t 82) (.reg ( mJ 84 0::mJ 85 4::aJ 86 Qav [.t 84,kI 12,kI (-1),kI 0,.t 85]::[]) []) (.seq (.reg ( cJ 88 .eql 34 7::mJ 87 88::[]) [0,3,4,34,87]) Q8o))
def Q8q:SC:=(.cond (.t 77) (.reg ( mJ 79 0::mJ 80 4::aJ 81 Qav [.t 79,kI 13,kI (-1),kI 0,.t 80]::[]) []) (.seq (.reg ( cJ 83 .eql 34 4::mJ 82 83::[]) [0,3,4,34,82]) Q8p))
def Q8r:SC:=(.cond (.t 68) (.reg ( mJ 70 0::mJ 71 0::fJ 72 1 3::lJ 73 72::aJ 74 Qfv [.t 71,.t 73]::Qmz) []) (.seq (.reg ( cJ 78 .eql 34 3::mJ 77 78::[]) [0,3,4,34,77]) Q8q))
def Q8s:SC:=(.cond (.t 35) (.seq (.reg ( mJ 37 0::mJ 38 0::kJ 39 38::fJ 40 6 39::lJ 41 40::mJ 42 4::aJ 43 Qav [.t 37,kI 2,.t 41,kI 0,.t 42]::[]) [0,3]) Qacy) (.seq (.reg ( cJ 69 .eql 34 2::mJ 68 69::[]) [0,3,4,34,68]) Q8r))
def Q8t:SC:=(.block 2 (.seq (.reg ( cJ 36 .eql 34 1::mJ 35 36::[]) [0,3,4,34,35]) Q8s))
def Q8u:SC:=(.seq (.seq .gh (.reg ( fJ 33 0 3::lJ 34 33::[]) [0,3,4,34])) Q8t)
def Q8v:SC:=(.seq (.seq (.reg ( fI 5 (.mv (kI 0))::[]) [0,3,4,5]) (.block 0 (.loop Q8y))) Q8u)
def Q8w:SC:=(.seq (.reg ( fI 15 (.bsl 1 [])::mJ 4 15::[]) [0,3,4]) Q8v)
def Q8x:SC:=(.seq (.seq (.reg ( fJ 9 0 3::lJ 10 9::cJ 11 .eql 10 6::[]) [0,3,11]) Qacu) Q8w)
def Qaq2:SC:=(.seq (.reg ( fI 3 (.box (.t 1))::[]) [0,3]) Q8x)
def Qld:List RS:=[]
theorem Qaj9:mFn prog Qin 2 132 Qaq2 Qld=true:=by kernel_rfl
def Ql8:List Item:=mJ 5 19::[]
def Ql9:List Item:=fI 42 (.bsl 4 [.t 41])::fI 43 (.bld [.int .i64 0,.str [],.sl true 4 [],.sl true 5 [],.sl true 5 []] [(0,1,kI 2),(1,1,.t 39),(2,1,.t 42)])::fI 44 (.bsl 5 [.t 43])::mJ 4 44::[]
def Qma:List Item:=aJ 41 Qbd [.t 40,kI 3]::Ql9
def Qmb:List Item:=fI 52 (.bsl 5 [.t 51])::mJ 4 52::[]
def Qmc:List Item:=aJ 51 Qfu [.t 48,.t 50]::Qmb
def Qmd:List Item:=fI 62 (.bsl 4 [.t 61])::fI 63 (.bld [.int .i64 0,.str [],.sl true 4 [],.sl true 5 [],.sl true 5 []] [(0,1,kI 3),(2,1,.t 62)])::fI 64 (.bsl 5 [.t 63])::mJ 4 64::[]
def Qme:List Item:=fI 72 (.bsl 4 [.t 69,.t 71])::fI 73 (.bld [.int .i64 0,.str [],.sl true 4 [],.sl true 5 [],.sl true 5 []] [(0,1,kI 4),(2,1,.t 72)])::fI 74 (.bsl 5 [.t 73])::mJ 4 74::[]
def Qmf:List Item:=mJ 70 0::aJ 71 Qbd [.t 70,kI 2]::Qme
def Qmg:List Item:=fI 80 (.bsl 4 [.t 79])::fI 81 (.bld [.int .i64 0,.int .i64 0,.str [],.sl true 4 []] [(0,1,kI 12),(3,1,.t 80)])::fI 82 (.bsl 4 [.t 81])::fI 83 (.bld [.int .i64 0,.str [],.sl true 4 [],.sl true 5 [],.sl true 5 []] [(0,1,kI 3),(2,1,.t 82)])::fI 84 (.bsl 5 [.t 83])::mJ 4 84::[]
def Qmh:List Item:=.e none none (.sto 5 (.t 6) (.t 95))::[]
def Qjm:List Item:=fI 95 (.bld [.int .i64 0,.str [],.sl true 4 [],.sl true 5 [],.sl true 5 []] [(0,1,kI 5),(2,1,.t 90),(3,1,.t 94)])::eI 6 (.alloc [.int .i64 0,.str [],.sl true 4 [],.sl true 5 [],.sl true 5 []])::Qmh
def Qjn:List Item:=fI 90 (.bsl 4 [.t 89])::mJ 91 0::mJ 92 1::cJ 93 .sub 92 1::aJ 94 Qb7 [.t 91,.t 93]::Qjm
def Qjo:List Item:=cJ 101 .eql 100 0::[]
def Qjp:List Item:=fJ 106 4 6::.e none none (.sto 1 (.t 106) (.t 105))::[]
def Q53:SC:=(.cond (.t 101) (.reg ( mJ 102 0::mJ 103 1::cJ 104 .sub 103 1::aJ 105 Qb7 [.t 102,.t 104]::Qjp) [6]) .skip)
def Ql6:SC:=(.seq (.reg ( tJ 107 5 6::fI 108 (.bsl 5 [.t 107])::mJ 4 108::[]) [4]) .ret)
def Q54:SC:=(.seq (.seq (.reg ( mJ 96 0::kJ 97 96::fJ 98 0 97::lJ 99 98::aJ 100 Ql [.t 99,kI 2]::Qjo) [0,1,6,101]) Q53) Ql6)
def Qd8:List Item:=gT 118 112 (.bin 0 .eql (.t 117) (kI 0))::fI 119 (.pick (.t 112) (.t 118) (.k (.c (.bool false))))::mJ 109 119::[]
def Qjq:List Item:=fI 122 (.bsl 4 [.t 121])::fI 123 (.bld [.int .i64 0,.str [],.sl true 4 [],.sl true 5 [],.sl true 5 []] [(0,1,kI 7),(2,1,.t 122)])::fI 124 (.bsl 5 [.t 123])::mJ 4 124::[]
def Ql7:SC:=(.cond (.t 109) (.seq (.reg ( mJ 120 0::aJ 121 Qbd [.t 120,kI 2]::Qjq) [4]) .ret) .skip)
def Q55:SC:=(.cond (.t 85) (.seq (.reg ( mJ 88 0::aJ 89 Qbd [.t 88,kI 3]::Qjn) [0,1,6]) Q54) (.seq (.reg ( mJ 110 5::cJ 111 .eql 110 11::mJ 112 111::gTm 113 112 0::gT 114 112 (.nck (.t 113))::gTf 115 112 0 114::gTl 116 112 115::.e (some 117) (some (112,true)) (.call Ql [.t 116,kI 3])::Qd8) [0,1,109]) Ql7))
def Q56:SC:=(.cond (.t 75) (.seq (.reg ( mJ 78 0::aJ 79 Qeo [.t 78]::Qmg) [4]) .ret) (.seq (.reg ( mJ 86 5::cJ 87 .lss 86 11::mJ 85 87::[]) [0,1,5,85]) Q55))
def Q57:SC:=(.cond (.t 65) (.seq (.reg ( mJ 68 0::aJ 69 Qeo [.t 68]::Qmf) [4]) .ret) (.seq (.reg ( mJ 76 5::cJ 77 .eql 76 8::mJ 75 77::[]) [0,1,5,75]) Q56))
def Q58:SC:=(.cond (.t 53) (.seq (.reg ( mJ 60 0::aJ 61 Qbd [.t 60,kI 3]::Qmd) [4]) .ret) (.seq (.reg ( mJ 66 5::cJ 67 .eql 66 7::mJ 65 67::[]) [0,1,5,65]) Q57))
def Q59:SC:=(.cond (.t 45) (.seq (.reg ( mJ 48 0::mJ 49 0::aJ 50 Qbd [.t 49,kI 3]::Qmc) [4]) .ret) (.seq (.reg ( mJ 54 5::cJ 55 .lss 54 7::mJ 56 55::gFm 57 56 1::gF 58 56 (.bin 0 .lss (.t 57) (kI 2))::fI 59 (.pick (.t 56) (.k (.c (.bool true))) (.t 58))::mJ 53 59::[]) [0,1,5,53]) Q58))
def Q6a:SC:=(.cond (.t 20) (.seq (.dreg 15 [0,1,2,3,4,5,6,7,9,8,10,11,12,13,14] ( mJ 31 0::kJ 32 31::fJ 33 0 32::lJ 34 33::mJ 35 0::kJ 36 35::fJ 37 2 36::lJ 38 37::mJ 40 0::aJ 39 Qe8 [.t 34,.t 38]::Qma) [4]) .ret) (.seq (.reg ( mJ 46 5::cJ 47 .lss 46 5::mJ 45 47::[]) [0,1,5,45]) Q59))
def Qjr:List Item:=mJ 4 127::[]
def Qfm:SC:=(.seq (.reg ( mJ 125 0::mJ 126 1::aJ 127 Qij [.t 125,.t 126]::Qjr) [4]) .ret)
def Q6b:SC:=(.seq (.block 0 (.seq (.reg ( mJ 21 5::cJ 22 .lss 21 3::mJ 23 22::gTm 24 23 0::gT 25 23 (.nck (.t 24))::gTf 26 23 2 25::gTl 27 23 26::gT 28 23 (.len (.t 27))::gT 29 23 (.bin 0 .gtr (.t 28) (kI 0))::fI 30 (.pick (.t 23) (.t 29) (.k (.c (.bool false))))::mJ 20 30::[]) [0,1,5,20]) Q6a)) Qfm)
def Q6c:SC:=(.seq (.reg ( mJ 15 0::kJ 16 15::fJ 17 0 16::lJ 18 17::aJ 19 Ql [.t 18,kI 13]::Ql8) [0,1,5]) Q6b)
def Q6d:SC:=(.seq (.reg ( mJ 7 0::mJ 8 0::kJ 9 8::fJ 10 4 9::lJ 11 10::cJ 12 .sub 11 1::kJ 13 7::fJ 14 4 13::.e none none (.sto 1 (.t 14) (.t 12))::[]) [0,1]) Q6c)
def Qapx:SC:=(.seq (.reg ( fI 4 (.mv (.k (.c (.sl true 5 []))))::[]) [0,1]) Q6d)
def Qbe:List RS:=[.tmp 4]
theorem Qaj4:mFn prog Qik 2 128 Qapx Qbe=true:=by kernel_rfl
def Qq0:List Item:=gF 13 10 (.bin 0 .eql (.t 12) (kI 0))::fI 14 (.pick (.t 10) (.k (.c (.bool true))) (.t 13))::[]
def Q42:List Item:=.e none none (.sto 4 (.t 6) (.t 17))::[]
def s_l2Expr_2:SC:=(.cond (.t 14) (.seq (.reg ( mJ 15 0::mJ 16 1::aJ 17 Q22 [.t 15,.t 16]::Q42) [6]) .ret) .skip)
def Q43:List Item:=cJ 20 .eql 19 0::[]
def Q44:List Item:=fI 29 (.bsl 4 [.t 28])::fI 30 (.bld [.int .i64 0,.int .i64 0,.str [],.sl true 4 []] [(0,1,.t 23),(3,1,.t 29)])::.e none none (.sto 4 (.t 6) (.t 30))::[]
def Q45:List Item:=mJ 24 0::mJ 25 1::mJ 26 2::cJ 27 .sub 26 1::aJ 28 Qd1 [.t 24,.t 25,.t 27]::Q44
def Qa2g:SC:=(.cond (.t 20) (.seq (.reg ( mJ 21 0::fI 22 (.bsl 1 [kI 11,kI 12,kI 11])::aJ 23 Q8 [.t 21,.t 22]::Q45) [6]) .ret) .skip)
def Q46:List Item:=mJ 7 33::[]
def Q47:List Item:=fI 45 (.bsl 4 [.t 39,.t 44])::fI 46 (.bld [.int .i64 0,.int .i64 0,.str [],.sl true 4 []] [(0,1,.t 34),(3,1,.t 45)])::.e none none (.sto 4 (.t 6) (.t 46))::[]
def Q48:List Item:=mJ 40 0::mJ 41 1::mJ 42 2::cJ 43 .sub 42 1::aJ 44 Qd1 [.t 40,.t 41,.t 43]::Q47
def Qave:SC:=(.seq (.reg ( mJ 34 7::mJ 35 0::mJ 36 1::mJ 37 2::cJ 38 .sub 37 1::aJ 39 Qd1 [.t 35,.t 36,.t 38]::Q48) [6]) .ret)
def Qavf:SC:=(.seq (.reg ( mJ 31 0::fI 32 (.bsl 1 [kI 3,kI 3,kI 4,kI 5,kI 6,kI 7,kI 8,kI 9,kI 10])::aJ 33 Q8 [.t 31,.t 32]::Q46) [0,1,2,6,7]) Qave)
def Q41:SC:=(.seq (.seq (.reg ( mJ 18 0::aJ 19 Ql [.t 18,kI 7]::Q43) [0,1,2,6,20]) Qa2g) Qavf)
def Qavg:SC:=(.seq (.seq (.reg ( mJ 8 2::cJ 9 .lss 8 2::mJ 10 9::gFm 11 10 0::.e (some 12) (some (10,false)) (.call Ql [.t 11,kI 4])::Qq0) [0,1,2,6,14]) s_l2Expr_2) Q41)
def Qbbk:SC:=(.seq (.reg ( eI 6 (.alloc [.int .i64 0,.int .i64 0,.str [],.sl true 4 []])::[]) [0,1,2,6]) Qavg)
def Q2a:List RS:=[.cell 6 4 true]
theorem Qbap:mFn prog Qd1 3 47 Qbbk Q2a=true:=by kernel_rfl
def Qgy:List Item:=gT 13 10 (.not (.t 12))::fI 14 (.pick (.t 10) (.t 13) (.k (.c (.bool false))))::mJ 2 14::[]
def Qpq:List Item:=mJ 5 4::gTm 6 5 0::gT 7 5 (.lens (.t 6))::gT 8 5 (.bin 0 .leq (.t 7) (kI 4))::fI 9 (.pick (.t 5) (.t 8) (.k (.c (.bool false))))::mJ 10 9::gTm 11 10 0::.e (some 12) (some (10,true)) (.call Qaen [.t 11])::Qgy
def Qaiv:SC:=(.seq (.reg ( mJ 3 0::aJ 4 Qaem [.t 3,kI 1]::Qpq) [2]) .ret)
def Qay1:SC:=(.seq (.reg ( fI 2 (.mv (.k (.c (.bool false))))::[]) [0]) Qaiv)
def Qp9:List RS:=[.tmp 2]
theorem Qasp:mFn prog Qc3 1 15 Qay1 Qp9=true:=by kernel_rfl
def Qym:List Item:=oJ 18 17::[]
def Qawl:SC:=(.cond (.t 18) (.seq (.reg ( fI 4 (.mv (.k (.c (.bool false))))::[]) [4]) .ret) .skip)
def Qawm:SC:=(.reg ( mJ 10 5::cJ 11 .add 10 1::mJ 5 11::[]) [0,1,5])
def Qawn:SC:=(.seq (.block 1 (.seq (.reg ( mJ 12 0::mJ 13 5::iJ 14 5 12 13::tJ 15 5 14::mJ 16 1::aJ 17 Q25 [.t 15,.t 16]::Qym) [0,1,5,18]) Qawl)) Qawm)
def Qapz:SC:=(.seq (.seq (.reg ( mJ 6 5::mJ 7 0::nJ 8 7::bJ 9 .lss 6 8::[]) [0,1,5,9]) (.cond (.t 9) .skip (.exit 0))) Qawn)
def Qawo:SC:=(.seq (.reg ( fI 4 (.mv (.k (.c (.bool true))))::[]) [4]) .ret)
def Qawp:SC:=(.seq (.seq (.reg ( fI 5 (.mv (kI 0))::[]) [0,1,5]) (.block 0 (.loop Qapz))) Qawo)
def Qa8b:SC:=(.seq (.reg ( fI 4 (.mv (.k (.c (.bool false))))::[]) [0,1]) Qawp)
def Q38:List RS:=[.tmp 4]
theorem Qa6h:mFn prog Qg2 2 19 Qa8b Q38=true:=by kernel_rfl
def Qyc:List Item:=bJ 27 .add 20 26::mJ 3 27::[]
def Qyd:List Item:=.chk 23 none (.iad 5 (.t 21) (.t 22))::.chk 25 none (.ld 1 false (.t 24))::bJ 20 .add 13 19::aJ 26 Qg1 [.t 25]::Qyc
def Qavz:SC:=(.reg ( mJ 11 4::cJ 12 .add 11 1::mJ 4 12::[]) [0,3,4])
def Qav0:SC:=(.seq (.block 1 (.dreg 16 [0,1,2,3,4,5,8,9,10,11,12,6,10,12,7,13,14,15] ( mJ 13 3::mJ 14 0::mJ 15 4::iJ 16 5 14 15::fJ 17 3 16::lJ 18 17::mJ 21 0::mJ 22 4::iJ 23 5 21 22::fJ 24 4 23::lJ 25 24::aJ 19 Qg1 [.t 18]::Qyd) [0,3,4])) Qavz)
def Qapp:SC:=(.seq (.seq (.reg ( mJ 7 4::mJ 8 0::nJ 9 8::bJ 10 .lss 7 9::[]) [0,3,4,10]) (.cond (.t 10) .skip (.exit 0))) Qav0)
def Qav1:SC:=(.seq (.reg ( mJ 28 3::mJ 2 28::[]) [2]) .ret)
def Qav2:SC:=(.seq (.seq (.reg ( fI 4 (.mv (kI 0))::[]) [0,3,4]) (.block 0 (.loop Qapp))) Qav1)
def Qav3:SC:=(.seq (.reg ( mJ 5 0::nJ 6 5::mJ 3 6::[]) [0,3]) Qav2)
def Qa79:SC:=(.seq (.reg ( fI 2 (.mv (kI 0))::[]) [0]) Qav3)
def Qaks:List RS:=[.tmp 2]
theorem Qa6g:mFn prog Qg1 1 29 Qa79 Qaks=true:=by kernel_rfl
def Qms:List Item:=mJ 4 9::[]
def Qmt:List Item:=mJ 5 11::[]
def Qmu:List Item:=mJ 6 13::[]
def Qmv:List Item:=mJ 7 24::[]
def Qacn:SC:=(.reg ( mJ 36 0::mJ 37 4::fI 38 (.bsl 1 [.t 37])::mJ 39 6::aJ 40 Qa1 [.t 36,kI 1,kI 0,.t 38,.t 39]::[]) [])
def Qaco:SC:=(.seq (.reg ( mJ 32 0::fJ 33 3 3::lJ 34 33::aJ 35 Qb9 [.t 32,.t 34]::[]) [0,4,6]) Qacn)
def Qacp:SC:=(.seq (.reg ( mJ 25 0::mJ 26 7::mJ 27 5::mJ 28 6::fI 29 (.bsl 1 [.t 27,.t 28])::mJ 30 5::aJ 31 Qa1 [.t 25,kI 2,.t 26,.t 29,.t 30]::[]) [0,3,4,6]) Qaco)
def Qacq:SC:=(.seq (.reg ( mJ 19 0::fJ 20 2 3::lJ 21 20::fI 22 (.iad 4 (.t 21) (kI 0))::tJ 23 4 22::aJ 24 Qb4 [.t 19,.t 23]::Qmv) [0,3,4,5,6,7]) Qacp)
def Qacr:SC:=(.seq (.reg ( mJ 14 0::mJ 15 4::fI 16 (.bsl 1 [.t 15])::mJ 17 4::aJ 18 Qa1 [.t 14,kI 1,kI 0,.t 16,.t 17]::[]) [0,3,4,5,6]) Qacq)
def Qacs:SC:=(.seq (.reg ( mJ 12 0::aJ 13 Qao [.t 12]::Qmu) [0,3,4,5,6]) Qacr)
def Q8e:SC:=(.seq (.reg ( mJ 10 0::aJ 11 Qao [.t 10]::Qmt) [0,3,4,5]) Qacs)
def Q8f:SC:=(.seq (.reg ( mJ 8 0::aJ 9 Qao [.t 8]::Qms) [0,3,4]) Q8e)
def Qaq1:SC:=(.seq (.reg ( fI 3 (.box (.t 1))::[]) [0,3]) Q8f)
def Qwk:List RS:=[]
theorem Qaj8:mFn prog Qim 2 41 Qaq1 Qwk=true:=by kernel_rfl
def Qmm:List Item:=mJ 4 17::[]
def Qmn:List Item:=.chk 15 none (.ld 1 false (.t 14))::aJ 17 Qav [.t 11,kI 1,.t 13,.t 15,.t 16]::Qmm
def Qmo:List Item:=mJ 4 23::[]
def Qmp:List Item:=mJ 4 28::[]
def Qacf:SC:=(.cond (.t 24) (.seq (.reg ( mJ 26 0::tJ 27 4 3::aJ 28 Qk3 [.t 26,.t 27]::Qmp) [4]) .ret) .skip)
def Qacg:SC:=(.cond (.t 18) (.seq (.reg ( mJ 20 0::fJ 21 2 3::lJ 22 21::aJ 23 Qfv [.t 20,.t 22]::Qmo) [4]) .ret) (.seq (.reg ( cJ 25 .eql 8 10::mJ 24 25::[]) [0,3,24]) Qacf))
def Qach:SC:=(.cond (.t 9) (.seq (.dreg 8 [0,1,3,4,5,2,4,6,7] ( mJ 11 0::mJ 12 0::fJ 14 1 3::lJ 15 14::fI 16 (.bsl 1 [])::aJ 13 Qa4 [.t 12]::Qmn) [4]) .ret) (.seq (.reg ( cJ 19 .eql 8 2::mJ 18 19::[]) [0,3,8,18]) Qacg))
def Qaci:SC:=(.block 0 (.seq (.reg ( cJ 10 .eql 8 1::mJ 9 10::[]) [0,3,8,9]) Qach))
def Qmq:List Item:=mJ 5 46::[]
def Qmr:List Item:=fI 45 (.bsl 1 [.t 44])::eI 46 (.app 1 (.t 37) (.t 45))::Qmq
def Q71:SC:=(.reg ( mJ 35 6::cJ 36 .add 35 1::mJ 6 36::[]) [0,3,5,6])
def Q72:SC:=(.seq (.block 2 (.reg ( mJ 37 5::mJ 38 0::fJ 39 3 3::lJ 40 39::mJ 41 6::iJ 42 4 40 41::tJ 43 4 42::aJ 44 Qb4 [.t 38,.t 43]::Qmr) [0,3,5,6])) Q71)
def Q0z:SC:=(.seq (.seq (.reg ( mJ 30 6::fJ 31 3 3::lJ 32 31::nJ 33 32::bJ 34 .lss 30 33::[]) [0,3,5,6,34]) (.cond (.t 34) .skip (.exit 1))) Q72)
def Qj0:List Item:=mJ 4 55::[]
def Qj1:List Item:=mJ 54 5::aJ 55 Qav [.t 51,kI 10,.t 53,kI 0,.t 54]::Qj0
def Qj2:List Item:=mJ 4 62::[]
def Qj3:List Item:=mJ 61 5::aJ 62 Qav [.t 58,kI 11,.t 60,kI 0,.t 61]::Qj2
def Qj4:List Item:=mJ 4 76::[]
def Qj5:List Item:=aJ 76 Qav [.t 65,kI 14,.t 67,.t 74,.t 75]::Qj4
def Qj6:List Item:=.chk 71 none (.ld 1 true (.t 70))::.chk 73 none (.ld 1 false (.t 72))::aJ 74 Qux [.t 71,.t 73]::Qj5
def Q73:SC:=(.cond (.t 63) (.seq (.dreg 13 [0,1,3,4,5,6,7,8,10,2,6,8,9,11,12] ( mJ 65 0::mJ 66 0::mJ 68 0::kJ 69 68::fJ 70 0 69::tJ 71 1 70::fJ 72 2 3::lJ 73 72::mJ 75 5::aJ 67 Qa4 [.t 66]::Qj6) [4]) .ret) .skip)
def Q74:SC:=(.cond (.t 56) (.seq (.reg ( mJ 58 0::mJ 59 0::aJ 60 Qa4 [.t 59]::Qj3) [4]) .ret) (.seq (.reg ( cJ 64 .eql 48 13::mJ 63 64::[]) [0,3,5,63]) Q73))
def Q75:SC:=(.cond (.t 49) (.seq (.reg ( mJ 51 0::mJ 52 0::aJ 53 Qa4 [.t 52]::Qj1) [4]) .ret) (.seq (.reg ( cJ 57 .eql 48 12::mJ 56 57::[]) [0,3,5,48,56]) Q74))
def Q76:SC:=(.block 3 (.seq (.reg ( cJ 50 .eql 48 11::mJ 49 50::[]) [0,3,5,48,49]) Q75))
def Qj7:List Item:=mJ 4 83::[]
def Qj8:List Item:=.chk 79 none (.ld 1 false (.t 78))::aJ 83 Qav [.t 77,.t 79,.t 81,kI 0,.t 82]::Qj7
def Q77:SC:=(.seq (.dreg 8 [0,1,2,3,5,4,2,6,7] ( mJ 77 0::fJ 78 0 3::lJ 79 78::mJ 80 0::mJ 82 5::aJ 81 Qa4 [.t 80]::Qj8) [4]) .ret)
def Q78:SC:=(.seq (.seq (.seq .gh (.reg ( fJ 47 0 3::lJ 48 47::[]) [0,3,5,48])) Q76) Q77)
def Q79:SC:=(.seq (.seq (.reg ( fI 6 (.mv (kI 0))::[]) [0,3,5,6]) (.block 1 (.loop Q0z))) Q78)
def Q8a:SC:=(.seq (.reg ( fI 29 (.bsl 1 [])::mJ 5 29::[]) [0,3,5]) Q79)
def Q8b:SC:=(.seq (.seq (.reg ( fJ 7 0 3::lJ 8 7::[]) [0,3,8]) Qaci) Q8a)
def Qaqz:SC:=(.seq (.reg ( fI 3 (.box (.t 1))::fI 4 (.mv (kI 0))::[]) [0,3]) Q8b)
def Qlc:List RS:=[.tmp 4]
theorem Qaj6:mFn prog Qb4 2 84 Qaqz Qlc=true:=by kernel_rfl
def Qaim:SC:=(.cond (.t 25) (.seq (.reg ( mJ 26 0::kJ 27 26::fJ 28 5 27::lJ 29 28::mJ 30 5::iJ 31 3 29 30::fJ 32 1 31::lJ 33 32::mJ 4 33::[]) [4]) .ret) .skip)
def Qain:SC:=(.reg ( mJ 14 5::cJ 15 .sub 14 1::mJ 5 15::[]) [0,1,5])
def Qaio:SC:=(.seq (.block 1 (.seq (.reg ( mJ 16 0::kJ 17 16::fJ 18 5 17::lJ 19 18::mJ 20 5::iJ 21 3 19 20::fJ 22 0 21::lJ 23 22::mJ 24 1::bJ 25 .eql 23 24::[]) [0,1,5,25]) Qaim)) Qain)
def Qact:SC:=(.seq (.seq (.reg ( mJ 12 5::cJ 13 .geq 12 0::[]) [0,1,5,13]) (.cond (.t 13) .skip (.exit 0))) Qaio)
def Qaip:SC:=(.seq (.reg ( fI 4 (.mv (kI (-1)))::[]) [4]) .ret)
def Qaiq:SC:=(.seq (.seq (.reg ( mJ 6 0::kJ 7 6::fJ 8 5 7::lJ 9 8::nJ 10 9::cJ 11 .sub 10 1::mJ 5 11::[]) [0,1,5]) (.block 0 (.loop Qact))) Qaip)
def Qayu:SC:=(.seq (.reg ( fI 4 (.mv (kI 0))::[]) [0,1]) Qaiq)
def Qp8:List RS:=[.tmp 4]
theorem Qaso:mFn prog Qfv 2 34 Qayu Qp8=true:=by kernel_rfl
def Qtu:List Item:=iJ 10 1 5 9::lJ 11 10::mJ 4 11::[]
def Qapn:SC:=(.seq (.reg ( mJ 5 1::mJ 6 0::mJ 7 1::nJ 8 7::aJ 9 Ql [.t 6,.t 8]::Qtu) [4]) .ret)
def Qa2p:SC:=(.seq (.reg ( fI 4 (.mv (.k (.c (.str []))))::[]) [0,1]) Qapn)
def Qadw:List RS:=[.tmp 4]
theorem Qa1m:mFn prog Qe8 2 12 Qa2p Qadw=true:=by kernel_rfl
def Qpe:List Item:=mJ 5 7::[]
def Qpf:List Item:=kJ 18 8::fJ 19 2 18::.e none none (.sto 1 (.t 19) (.t 17))::[]
def Qpg:List Item:=mJ 15 5::fI 16 (.bsl 1 [.t 15])::eI 17 (.app 1 (.t 14) (.t 16))::Qpf
def Qah7:SC:=(.seq (.reg ( mJ 20 5::tJ 21 4 3::fI 22 (.bsl 4 [.t 21])::fI 23 (.bld [.int .i64 0,.str [],.sl true 4 [],.sl true 5 [],.sl true 5 []] [(0,1,kI 1),(1,1,.t 20),(2,1,.t 22)])::.e none none (.sto 5 (.t 4) (.t 23))::[]) [4]) .ret)
def Qah8:SC:=(.seq (.reg ( mJ 8 0::fI 9 (.bsl 1 [])::mJ 10 0::kJ 11 10::fJ 12 2 11::lJ 13 12::eI 14 (.app 1 (.t 9) (.t 13))::Qpg) [3,4,5]) Qah7)
def Qah9:SC:=(.seq (.reg ( mJ 6 0::aJ 7 Qgj [.t 6]::Qpe) [0,3,4,5]) Qah8)
def Qav4:SC:=(.seq (.reg ( fI 3 (.box (.t 1))::eI 4 (.alloc [.int .i64 0,.str [],.sl true 4 [],.sl true 5 [],.sl true 5 []])::[]) [0,3,4]) Qah9)
def Q37:List RS:=[.cell 4 5 true]
theorem Qasl:mFn prog Qfu 2 24 Qav4 Q37=true:=by kernel_rfl
def Qlo:List Item:=fI 11 (.bld [.int .i64 0,.int .i64 0,.str [],.sl true 4 []] [(0,1,kI 1),(1,1,.t 10)])::fI 12 (.bsl 4 [.t 4,.t 11])::fI 13 (.bld [.int .i64 0,.int .i64 0,.str [],.sl true 4 []] [(0,1,kI 7),(3,1,.t 12)])::.e none none (.sto 4 (.t 2) (.t 13))::[]
def Qlp:List Item:=.chk 8 none (.ld 1 false (.t 7))::aJ 10 Q8 [.t 8,.t 9]::Qlo
def Qabx:SC:=(.seq (.dreg 12 [0,2,3,4,5,6,1,5,7,8,9,10,11] ( mJ 3 0::mJ 5 0::kJ 6 5::fJ 7 0 6::lJ 8 7::fI 9 (.bsl 1 [kI 16,kI 16,kI 16,kI 8,kI 17,kI 0])::aJ 4 Qbd [.t 3,kI 2]::Qlp) [2]) .ret)
def Qaps:SC:=(.seq (.reg ( eI 2 (.alloc [.int .i64 0,.int .i64 0,.str [],.sl true 4 []])::[]) [0,2]) Qabx)
def Qwg:List RS:=[.cell 2 4 true]
theorem Qaj1:mFn prog Qeo 1 14 Qaps Qwg=true:=by kernel_rfl
def Qlz:List Item:=.e none none (.sto 5 (.t 5) (.t 17))::[]
def Ql0:List Item:=eI 5 (.alloc [.int .i64 0,.str [],.sl true 4 [],.sl true 5 [],.sl true 5 []])::Qlz
def Ql1:List Item:=fI 16 (.bld [.int .i64 0,.int .i64 0,.str [],.sl true 4 []] [(0,1,kI 1),(1,1,.t 15)])::aJ 17 Qfu [.t 9,.t 16]::Ql0
def Ql2:List Item:=.e none none (.sto 4 (.t 6) (.t 20))::[]
def Ql3:List Item:=mJ 7 24::[]
def Ql4:List Item:=.e none none (.sto 5 (.t 8) (.t 32))::[]
def Ql5:List Item:=.chk 41 none (.ld 5 true (.t 5))::.chk 42 none (.ld 4 true (.t 6))::fI 48 (.bld [.int .i64 0,.str [],.sl true 4 [],.sl true 5 [],.sl true 5 []] [(0,1,kI 6),(2,1,.t 43),(3,1,.t 47)])::fI 49 (.bsl 5 [.t 41,.t 48])::mJ 4 49::[]
def Qabz:SC:=(.seq (.dreg 10 [0,1,2,3,4,5,6,0,1,7,8,9] ( tJ 41 5 5::tJ 42 4 6::fI 43 (.bsl 4 [.t 42])::mJ 44 7::tJ 45 5 8::fI 46 (.bsl 5 [.t 45])::eI 47 (.app 5 (.t 44) (.t 46))::Ql5) [4]) .ret)
def Qab0:SC:=(.seq (.reg ( mJ 33 0::mJ 34 0::kJ 35 34::fJ 36 4 35::lJ 37 36::cJ 38 .sub 37 2::kJ 39 33::fJ 40 4 39::.e none none (.sto 1 (.t 40) (.t 38))::[]) [5,6,7,8]) Qabz)
def Qab1:SC:=(.seq (.reg ( fJ 25 1 5::lJ 26 25::tJ 27 4 6::fI 28 (.bld [.int .i64 0,.int .i64 0,.str [],.sl true 4 []] [(0,1,kI 1),(1,1,kI 1)])::fI 29 (.bsl 4 [.t 27,.t 28])::fI 30 (.bld [.int .i64 0,.int .i64 0,.str [],.sl true 4 []] [(0,1,kI 4),(3,1,.t 29)])::fI 31 (.bsl 4 [.t 30])::fI 32 (.bld [.int .i64 0,.str [],.sl true 4 [],.sl true 5 [],.sl true 5 []] [(0,1,kI 2),(1,1,.t 26),(2,1,.t 31)])::eI 8 (.alloc [.int .i64 0,.str [],.sl true 4 [],.sl true 5 [],.sl true 5 []])::Ql4) [0,5,6,7,8]) Qab0)
def Q50:SC:=(.seq (.reg ( mJ 21 0::mJ 22 1::cJ 23 .sub 22 1::aJ 24 Qb7 [.t 21,.t 23]::Ql3) [0,5,6,7]) Qab1)
def Q51:SC:=(.seq (.reg ( fJ 18 1 5::lJ 19 18::fI 20 (.bld [.int .i64 0,.int .i64 0,.str [],.sl true 4 []] [(0,1,kI 2),(2,1,.t 19)])::eI 6 (.alloc [.int .i64 0,.int .i64 0,.str [],.sl true 4 []])::Ql2) [0,1,5,6]) Q50)
def Q52:SC:=(.seq (.reg ( mJ 9 0::mJ 10 0::kJ 11 10::fJ 12 0 11::lJ 13 12::fI 14 (.bsl 1 [kI 2,kI 3,kI 1,kI 0,kI 5])::aJ 15 Q8 [.t 13,.t 14]::Ql1) [0,1,5]) Q51)
def Qapw:SC:=(.seq (.reg ( fI 4 (.mv (.k (.c (.sl true 5 []))))::[]) [0,1]) Q52)
def Qwh:List RS:=[.tmp 4]
theorem Qaj3:mFn prog Qij 2 50 Qapw Qwh=true:=by kernel_rfl
def Qq3:List Item:=gF 11 8 (.bin 0 .eql (.t 10) (kI 0))::fI 12 (.pick (.t 8) (.k (.c (.bool true))) (.t 11))::[]
def Q5e:List Item:=fI 16 (.bld [.int .i64 0,.int .i64 0,.str [],.sl true 4 []] [(0,1,kI 1),(1,1,.t 15)])::.e none none (.sto 4 (.t 4) (.t 16))::[]
def s_l2Leaf_2:SC:=(.cond (.t 12) (.seq (.reg ( mJ 13 0::fI 14 (.bsl 1 [kI 0,kI 1,kI 2,kI 3,kI 5,kI 7,kI 15,kI 16,kI 100,kI 255])::aJ 15 Q8 [.t 13,.t 14]::Q5e) [4]) .ret) .skip)
def Q5f:List Item:=fI 20 (.bld [.int .i64 0,.int .i64 0,.str [],.sl true 4 []] [(0,1,kI 2),(2,1,.t 19)])::.e none none (.sto 4 (.t 4) (.t 20))::[]
def Qad2:SC:=(.seq (.reg ( mJ 17 0::mJ 18 1::aJ 19 Qe8 [.t 17,.t 18]::Q5f) [4]) .ret)
def Qa2o:SC:=(.seq (.seq (.reg ( mJ 5 1::nJ 6 5::cJ 7 .eql 6 0::mJ 8 7::gFm 9 8 0::.e (some 10) (some (8,false)) (.call Ql [.t 9,kI 3])::Qq3) [0,1,4,12]) s_l2Leaf_2) Qad2)
def Qbbn:SC:=(.seq (.reg ( eI 4 (.alloc [.int .i64 0,.int .i64 0,.str [],.sl true 4 []])::[]) [0,1,4]) Qa2o)
def Q2b:List RS:=[.cell 4 4 true]
theorem Qbas:mFn prog Q22 2 21 Qbbn Q2b=true:=by kernel_rfl
def Qady:List Item:=mJ 16 1::bJ 17 .neq 15 16::[]
def Qa7p:SC:=(.cond (.t 17) (.seq (.reg ( fI 4 (.mv (.k (.c (.bool false))))::[]) [4]) .ret) .skip)
def Qa7q:SC:=(.reg ( mJ 10 5::cJ 11 .add 10 1::mJ 5 11::[]) [0,1,5])
def Qa7r:SC:=(.seq (.block 1 (.seq (.reg ( mJ 12 0::mJ 13 5::fI 14 (.idx (.t 12) (.t 13))::aJ 15 Qus [.t 14]::Qady) [0,1,5,17]) Qa7p)) Qa7q)
def Qa2e:SC:=(.seq (.seq (.reg ( mJ 6 5::mJ 7 0::fI 8 (.lens (.t 7))::bJ 9 .lss 6 8::[]) [0,1,5,9]) (.cond (.t 9) .skip (.exit 0))) Qa7r)
def Qa7s:SC:=(.seq (.reg ( mJ 18 0::fI 19 (.lens (.t 18))::cJ 20 .gtr 19 0::mJ 4 20::[]) [4]) .ret)
def Qa7t:SC:=(.seq (.seq (.reg ( fI 5 (.mv (kI 0))::[]) [0,1,5]) (.block 0 (.loop Qa2e))) Qa7s)
def Qbe0:SC:=(.seq (.reg ( fI 4 (.mv (.k (.c (.bool false))))::[]) [0,1]) Qa7t)
def Qas2:List RS:=[.tmp 4]
theorem Qbek:mFn prog Qaem 2 21 Qbe0 Qas2=true:=by kernel_rfl
def Qadz:List Item:=mJ 3 5::[]
def Qa7v:SC:=(.cond (.t 17) (.seq (.reg ( fI 2 (.mv (.k (.c (.bool true))))::[]) [2]) .ret) .skip)
def Qa7w:SC:=(.reg ( mJ 10 4::cJ 11 .add 10 1::mJ 4 11::[]) [0,3,4])
def Qa7x:SC:=(.seq (.block 1 (.seq (.reg ( mJ 12 3::mJ 13 4::iJ 14 1 12 13::lJ 15 14::mJ 16 0::bJ 17 .eql 15 16::[]) [0,3,4,17]) Qa7v)) Qa7w)
def Qa2f:SC:=(.seq (.seq (.reg ( mJ 6 4::mJ 7 3::nJ 8 7::bJ 9 .lss 6 8::[]) [0,3,4,9]) (.cond (.t 9) .skip (.exit 0))) Qa7x)
def Qa7y:SC:=(.seq (.reg ( fI 2 (.mv (.k (.c (.bool false))))::[]) [2]) .ret)
def Qa7z:SC:=(.seq (.seq (.reg ( fI 4 (.mv (kI 0))::[]) [0,3,4]) (.block 0 (.loop Qa2f))) Qa7y)
def Qa70:SC:=(.seq (.reg ( aJ 5 Qgl []::Qadz) [0,3]) Qa7z)
def Qbe1:SC:=(.seq (.reg ( fI 2 (.mv (.k (.c (.bool false))))::[]) [0]) Qa70)
def Qas3:List RS:=[.tmp 2]
theorem Qbel:mFn prog Qaen 1 18 Qbe1 Qas3=true:=by kernel_rfl
def Qiz:List Item:=.chk 17 (some (15,false)) (.ld 1 false (.t 16))::.chk 18 (some (15,false)) (.len (.t 17))::gF 22 15 (.bin 0 .neq (.t 18) (.t 21))::fI 23 (.pick (.t 15) (.k (.c (.bool true))) (.t 22))::[]
def Qq4:List Item:=gF 13 9 (.not (.t 12))::fI 14 (.pick (.t 9) (.k (.c (.bool true))) (.t 13))::mJ 15 14::gFf 16 15 2 2::gFl 17 15 16::gF 18 15 (.len (.t 17))::gFf 19 15 0 2::gFl 20 15 19::.e (some 21) (some (15,false)) (.call Q23 [.t 20])::Qiz
def s_l3Stmt_2:SC:=(.cond (.t 23) (.seq (.reg ( fI 4 (.mv (.k (.c (.bool false))))::[]) [4]) .ret) .skip)
def Q6m:List Item:=fI 36 (.bin 1 .neq (.t 32) (.t 35))::mJ 37 36::gFm 38 37 5::gF 39 37 (.not (.t 38))::gFm 40 37 39::gTf 41 40 1 2::gTl 42 40 41::gT 43 40 (.bin 0 .neq (.t 42) (.k (.c (.str []))))::gF 44 37 (.pick (.t 40) (.t 43) (.k (.c (.bool false))))::fI 45 (.pick (.t 37) (.k (.c (.bool true))) (.t 44))::[]
def Qa2y:SC:=(.cond (.t 45) (.seq (.reg ( fI 4 (.mv (.k (.c (.bool false))))::[]) [4]) .ret) .skip)
def Q6n:List Item:=oJ 59 58::[]
def Qa2z:SC:=(.cond (.t 59) (.seq (.reg ( fI 4 (.mv (.k (.c (.bool false))))::[]) [4]) .ret) .skip)
def Qa20:SC:=(.reg ( mJ 51 6::cJ 52 .add 51 1::mJ 6 52::[]) [1,2,6])
def Qa21:SC:=(.seq (.block 1 (.seq (.reg ( fJ 53 2 2::lJ 54 53::mJ 55 6::iJ 56 4 54 55::tJ 57 4 56::aJ 58 Qfa [.t 57]::Q6n) [1,2,6,59]) Qa2z)) Qa20)
def Qawk:SC:=(.seq (.seq (.reg ( mJ 46 6::fJ 47 2 2::lJ 48 47::nJ 49 48::bJ 50 .lss 46 49::[]) [1,2,6,50]) (.cond (.t 50) .skip (.exit 0))) Qa21)
def Qawc:SC:=(.cond (.t 70) (.seq (.reg ( fI 4 (.mv (.k (.c (.bool false))))::[]) [4]) .ret) .skip)
def Qawd:SC:=(.cond (.t 95) (.seq (.reg ( fI 4 (.mv (.k (.c (.bool false))))::[]) [4]) .ret) .skip)
def Qmi:List Item:=fI 107 (.pick (.t 101) (.t 106) (.k (.c (.bool false))))::mJ 4 107::[]
def Qyl:List Item:=mJ 101 100::gTf 102 101 4 2::gTl 103 101 102::gTm 104 101 1::gT 105 101 (.bin 0 .sub (.t 104) (kI 1))::.e (some 106) (some (101,true)) (.call Qg2 [.t 103,.t 105])::Qmi
def Qawe:SC:=(.seq (.reg ( fJ 96 3 2::lJ 97 96::mJ 98 1::cJ 99 .sub 98 1::aJ 100 Qg2 [.t 97,.t 99]::Qyl) [4]) .ret)
def Qawf:SC:=(.seq (.seq (.reg ( fJ 71 4 2::lJ 72 71::nJ 73 72::cJ 74 .gtr 73 0::mJ 75 74::gTf 76 75 0 2::gTl 77 75 76::gT 78 75 (.bin 0 .neq (.t 77) (kI 5))::fI 79 (.pick (.t 75) (.t 78) (.k (.c (.bool false))))::mJ 80 79::gFf 81 80 3 2::gFl 82 80 81::gF 83 80 (.len (.t 82))::gF 84 80 (.bin 0 .gtr (.t 83) (kI 0))::gFm 85 80 84::gTf 86 85 0 2::gTl 87 85 86::gT 88 85 (.bin 0 .neq (.t 87) (kI 5))::gF 89 80 (.pick (.t 85) (.t 88) (.k (.c (.bool false))))::gFm 90 80 89::gTf 91 90 0 2::gTl 92 90 91::gT 93 90 (.bin 0 .neq (.t 92) (kI 6))::gF 94 80 (.pick (.t 90) (.t 93) (.k (.c (.bool false))))::fI 95 (.pick (.t 80) (.k (.c (.bool true))) (.t 94))::[]) [1,2,95]) Qawd) Qawe)
def Qawg:SC:=(.seq (.seq (.reg ( fJ 60 0 2::lJ 61 60::cJ 62 .eql 61 8::mJ 63 62::gTf 64 63 2 2::gTl 65 63 64::gT 66 63 (.iad 4 (.t 65) (kI 0))::gTf 67 63 0 66::gTl 68 63 67::gT 69 63 (.bin 0 .neq (.t 68) (kI 13))::fI 70 (.pick (.t 63) (.t 69) (.k (.c (.bool false))))::[]) [1,2,70]) Qawc) Qawf)
def Qawh:SC:=(.seq (.seq (.reg ( fI 6 (.mv (kI 0))::[]) [1,2,6]) (.block 0 (.loop Qawk))) Qawg)
def Qawi:SC:=(.seq (.seq (.reg ( mJ 32 5::fJ 33 1 2::lJ 34 33::aJ 35 Qc3 [.t 34]::Q6m) [1,2,45]) Qa2y) Qawh)
def Q6l:SC:=(.seq (.reg ( fJ 24 0 2::lJ 25 24::cJ 26 .eql 25 1::mJ 27 26::gFf 28 27 0 2::gFl 29 27 28::gF 30 27 (.bin 0 .eql (.t 29) (kI 2))::fI 31 (.pick (.t 27) (.k (.c (.bool true))) (.t 30))::mJ 5 31::[]) [1,2,5]) Qawi)
def Qawj:SC:=(.seq (.seq (.dreg 17 [0,1,2,3,4,5,6,7,8,9,10,11,12,13,14,10,11,15,16] ( mJ 7 1::cJ 8 .lss 7 1::mJ 9 8::gFf 10 9 0 2::gFl 11 9 10::.e (some 12) (some (9,false)) (.call Qbh [.t 11,kI 1,kI 8])::Qq4) [1,2,23]) s_l3Stmt_2) Q6l)
def Qbbv:SC:=(.seq (.reg ( fI 2 (.box (.t 0))::fI 4 (.mv (.k (.c (.bool false))))::[]) [1,2]) Qawj)
def Q2c:List RS:=[.tmp 4]
theorem Qbav:mFn prog Q25 2 108 Qbbv Q2c=true:=by kernel_rfl
def Qph:List Item:=mJ 5 16::[]
def Qpi:List Item:=mJ 6 21::[]
def Qpj:List Item:=fI 20 (.bsl 1 [])::aJ 21 Qav [.t 17,kI 1,.t 19,kI 0,.t 20]::Qpi
def Qpk:List Item:=mJ 7 23::[]
def Qpl:List Item:=mJ 8 25::[]
def Qpm:List Item:=mJ 9 38::[]
def Qpn:List Item:=mJ 10 44::[]
def Qpo:List Item:=mJ 42 9::fI 43 (.bsl 1 [.t 42])::aJ 44 Qav [.t 39,kI 10,.t 41,kI 0,.t 43]::Qpn
def Qaif:SC:=(.seq (.reg ( mJ 55 6::mJ 4 55::[]) [4]) .ret)
def Qaig:SC:=(.seq (.reg ( mJ 50 0::mJ 51 8::fI 52 (.bsl 1 [.t 51])::mJ 53 8::aJ 54 Qa1 [.t 50,kI 1,kI 0,.t 52,.t 53]::[]) [6]) Qaif)
def Qab7:SC:=(.seq (.reg ( mJ 45 0::mJ 46 6::mJ 47 10::fI 48 (.bsl 1 [.t 47])::aJ 49 Qav [.t 45,kI 10,.t 46,kI 0,.t 48]::[]) [0,6,8]) Qaig)
def Qab8:SC:=(.seq (.reg ( mJ 39 0::mJ 40 0::aJ 41 Qa4 [.t 40]::Qpo) [0,6,8,10]) Qab7)
def Qab9:SC:=(.seq (.reg ( mJ 33 0::fJ 34 3 3::lJ 35 34::fI 36 (.iad 4 (.t 35) (kI 1))::tJ 37 4 36::aJ 38 Qb4 [.t 33,.t 37]::Qpm) [0,6,8,9]) Qab8)
def Qaca:SC:=(.seq (.reg ( mJ 26 0::mJ 27 5::mJ 28 7::mJ 29 8::fI 30 (.bsl 1 [.t 28,.t 29])::mJ 31 7::aJ 32 Qa1 [.t 26,kI 2,.t 27,.t 30,.t 31]::[]) [0,3,6,8]) Qab9)
def Qacb:SC:=(.seq (.reg ( mJ 24 0::aJ 25 Qao [.t 24]::Qpl) [0,3,5,6,7,8]) Qaca)
def Qacc:SC:=(.seq (.reg ( mJ 22 0::aJ 23 Qao [.t 22]::Qpk) [0,3,5,6,7]) Qacb)
def Qacd:SC:=(.seq (.reg ( mJ 17 0::mJ 18 0::aJ 19 Qa4 [.t 18]::Qpj) [0,3,5,6]) Qacc)
def Qace:SC:=(.seq (.reg ( mJ 11 0::fJ 12 3 3::lJ 13 12::fI 14 (.iad 4 (.t 13) (kI 0))::tJ 15 4 14::aJ 16 Qb4 [.t 11,.t 15]::Qph) [0,3,5]) Qacd)
def Qays:SC:=(.seq (.reg ( fI 3 (.box (.t 1))::fI 4 (.mv (kI 0))::[]) [0,3]) Qace)
def Q4c:List RS:=[.tmp 4]
theorem Qasm:mFn prog Qk3 2 56 Qays Q4c=true:=by kernel_rfl
def Qayw:SC:=(.cond (.t 20) (.seq (.reg ( mJ 21 5::mJ 4 21::[]) [4]) .ret) .skip)
def Qayx:SC:=(.reg ( mJ 11 5::cJ 12 .add 11 1::mJ 5 12::[]) [1,2,5])
def Qayy:SC:=(.seq (.block 1 (.seq (.reg ( fJ 13 0 2::lJ 14 13::mJ 15 5::iJ 16 3 14 15::fJ 17 0 16::lJ 18 17::mJ 19 1::bJ 20 .eql 18 19::[]) [1,2,5,20]) Qayw)) Qayx)
def Qara:SC:=(.seq (.seq (.reg ( mJ 6 5::fJ 7 0 2::lJ 8 7::nJ 9 8::bJ 10 .lss 6 9::[]) [1,2,5,10]) (.cond (.t 10) .skip (.exit 0))) Qayy)
def Qayz:SC:=(.seq (.reg ( fI 4 (.mv (kI (-1)))::[]) [4]) .ret)
def Qay0:SC:=(.seq (.seq (.reg ( fI 5 (.mv (kI 0))::[]) [1,2,5]) (.block 0 (.loop Qara))) Qayz)
def Qa8r:SC:=(.seq (.reg ( fI 2 (.box (.t 0))::fI 4 (.mv (kI 0))::[]) [1,2]) Qay0)
def Q4e:List RS:=[.tmp 4]
theorem Qa6m:mFn prog Qux 2 22 Qa8r Q4e=true:=by kernel_rfl
def Qjk:List Item:=cJ 16 .eql 15 0::mJ 17 16::gTm 18 17 0::gT 19 17 (.nck (.t 18))::gTf 20 17 2 19::gTl 21 17 20::gT 22 17 (.len (.t 21))::gT 23 17 (.bin 0 .gtr (.t 22) (kI 0))::fI 24 (.pick (.t 17) (.t 23) (.k (.c (.bool false))))::[]
def Qjl:List Item:=mJ 2 33::[]
def Q5w:SC:=(.cond (.t 24) (.seq (.dreg 10 [0,1,2,3,4,5,6,7,8,9] ( mJ 25 0::kJ 26 25::fJ 27 0 26::lJ 28 27::mJ 29 0::kJ 30 29::fJ 31 2 30::lJ 32 31::aJ 33 Qe8 [.t 28,.t 32]::Qjl) [2]) .ret) .skip)
def Q5x:SC:=(.seq (.dreg 13 [0,1,2,3,4,5,6,7,8,9,10,11,12] ( mJ 34 0::kJ 35 34::fJ 36 3 35::lJ 37 36::cJ 38 .rem 37 24::mJ 39 0::kJ 40 39::fJ 41 3 40::lJ 42 41::cJ 43 .rem 42 24::cJ 44 .add 43 1::fI 45 (.slis (.k (.c (.str [97,98,99,100,101,103,104,105,106,107,108,109,110,112,113,114,115,116,117,118,119,120,121,122]))) (some (.t 38)) (some (.t 44)))::mJ 2 45::[]) [2]) .ret)
def Q5y:SC:=(.seq (.seq (.reg ( mJ 11 0::kJ 12 11::fJ 13 0 12::lJ 14 13::aJ 15 Ql [.t 14,kI 9]::Qjk) [0,24]) Q5w) Q5x)
def Q5z:SC:=(.seq (.reg ( mJ 3 0::mJ 4 0::kJ 5 4::fJ 6 3 5::lJ 7 6::cJ 8 .add 7 1::kJ 9 3::fJ 10 3 9::.e none none (.sto 1 (.t 10) (.t 8))::[]) [0]) Q5y)
def Qah6:SC:=(.seq (.reg ( fI 2 (.mv (.k (.c (.str []))))::[]) [0]) Q5z)
def Qiq:List RS:=[.tmp 2]
theorem Qafa:mFn prog Qgj 1 46 Qah6 Qiq=true:=by kernel_rfl
def Qx9:List Item:=cJ 20 .geq 19 0::mJ 17 20::[]
def Qau8:SC:=(.cond (.t 21) (.seq (.reg ( fI 2 (.mv (kI 4))::[]) [2]) .ret) .skip)
def Qau9:SC:=(.cond (.t 17) (.seq (.reg ( fI 2 (.mv (kI 3))::[]) [2]) .ret) (.seq (.reg ( mJ 22 0::fI 23 (.bin 0 .eql (.t 22) (.k (.c (.int .u8 32))))::mJ 24 23::gFm 25 24 0::gF 26 24 (.bin 0 .eql (.t 25) (.k (.c (.int .u8 10))))::fI 27 (.pick (.t 24) (.k (.c (.bool true))) (.t 26))::mJ 21 27::[]) [21]) Qau8))
def Qava:SC:=(.cond (.t 10) (.seq (.reg ( fI 2 (.mv (kI 2))::[]) [2]) .ret) (.seq (.reg ( mJ 18 0::eI 19 (.call Qut [.k (.c (.str [40,41,123,125,59,44,43,45,42,47,37,60,61,38,33,64])),.t 18])::Qx9) [0,17]) Qau9))
def Qavb:SC:=(.cond (.t 3) (.seq (.reg ( fI 2 (.mv (kI 1))::[]) [2]) .ret) (.seq (.reg ( mJ 11 0::fI 12 (.bin 0 .geq (.t 11) (.k (.c (.int .u8 48))))::mJ 13 12::gTm 14 13 0::gT 15 13 (.bin 0 .leq (.t 14) (.k (.c (.int .u8 57))))::fI 16 (.pick (.t 13) (.t 15) (.k (.c (.bool false))))::mJ 10 16::[]) [0,10]) Qava))
def Qavc:SC:=(.seq (.reg ( fI 2 (.mv (kI 0))::[]) [2]) .ret)
def Qavd:SC:=(.seq (.block 0 (.seq (.reg ( mJ 4 0::fI 5 (.bin 0 .geq (.t 4) (.k (.c (.int .u8 97))))::mJ 6 5::gTm 7 6 0::gT 8 6 (.bin 0 .leq (.t 7) (.k (.c (.int .u8 122))))::fI 9 (.pick (.t 6) (.t 8) (.k (.c (.bool false))))::mJ 3 9::[]) [0,3]) Qavb)) Qavc)
def Qa7u:SC:=(.seq (.reg ( fI 2 (.mv (kI 0))::[]) [0]) Qavd)
def Qhb:List RS:=[.tmp 2]
theorem Qa6c:mFn prog Qus 1 28 Qa7u Qhb=true:=by kernel_rfl
def Q9a:SC:=(.seq (.reg ( fI 1 (.bsl 1 [.k (.c (.str [102,110])),.k (.c (.str [108,101,116])),.k (.c (.str [115,97,121])),.k (.c (.str [112,117,116])),.k (.c (.str [105,102])),.k (.c (.str [101,108,115,101])),.k (.c (.str [108,111,111,112])),.k (.c (.str [98,97,99,107])),.k (.c (.str [100,111]))])::mJ 0 1::[]) [0]) .ret)
def Qaiw:SC:=(.seq (.reg ( fI 0 (.mv (.k (.c (.sl true 1 []))))::[]) []) Q9a)
def Qsb:List RS:=[.tmp 0]
theorem Qafh:mFn prog Qgl 0 2 Qaiw Qsb=true:=by kernel_rfl
def Qa2r:SC:=(.cond (.t 4) (.seq (.reg ( fI 2 (.mv (kI 2))::[]) [2]) .ret) .skip)
def Qa2s:SC:=(.seq (.reg ( fI 2 (.mv (kI 1))::[]) [2]) .ret)
def Qa2t:SC:=(.seq (.seq (.reg ( mJ 3 0::cJ 4 .eql 3 4::[]) [4]) Qa2r) Qa2s)
def Qbbo:SC:=(.seq (.reg ( fI 2 (.mv (kI 0))::[]) [0]) Qa2t)
def Qafo:List RS:=[.tmp 2]
theorem Qbat:mFn prog Q23 1 5 Qbbo Qafo=true:=by kernel_rfl
def Qdl:List Item:=gT 8 5 (.bin 0 .leq (.t 7) (kI 30))::fI 9 (.pick (.t 5) (.t 8) (.k (.c (.bool false))))::mJ 2 9::[]
def Qhy:List Item:=mJ 5 4::gT 6 5 (.ld 4 true (.t 1))::.e (some 7) (some (5,true)) (.call Qng [.t 6])::Qdl
def Q1w:SC:=(.seq (.reg ( tJ 3 4 1::aJ 4 Qrk [.t 3,kI 6]::Qhy) [2]) .ret)
def Qac0:SC:=(.seq (.reg ( fI 1 (.box (.t 0))::fI 2 (.mv (.k (.c (.bool false))))::[]) [1]) Q1w)
def Qgq:List RS:=[.tmp 2]
theorem Q9y:mFn prog Qfa 1 10 Qac0 Qgq=true:=by kernel_rfl
def Qavr:SC:=(.cond (.t 16) (.seq (.reg ( mJ 17 5::mJ 4 17::[]) [4]) .ret) .skip)
def Qavs:SC:=(.reg ( mJ 10 5::cJ 11 .add 10 1::mJ 5 11::[]) [0,1,5])
def Qavt:SC:=(.seq (.block 1 (.seq (.reg ( mJ 12 0::mJ 13 5::fI 14 (.idx (.t 12) (.t 13))::mJ 15 1::bJ 16 .eql 14 15::[]) [0,1,5,16]) Qavr)) Qavs)
def Qapm:SC:=(.seq (.seq (.reg ( mJ 6 5::mJ 7 0::fI 8 (.lens (.t 7))::bJ 9 .lss 6 8::[]) [0,1,5,9]) (.cond (.t 9) .skip (.exit 0))) Qavt)
def Qavu:SC:=(.seq (.reg ( fI 4 (.mv (kI (-1)))::[]) [4]) .ret)
def Qavv:SC:=(.seq (.seq (.reg ( fI 5 (.mv (kI 0))::[]) [0,1,5]) (.block 0 (.loop Qapm))) Qavu)
def Qa72:SC:=(.seq (.reg ( fI 4 (.mv (kI 0))::[]) [0,1]) Qavv)
def Q34:List RS:=[.tmp 4]
theorem Qa6e:mFn prog Qut 2 18 Qa72 Q34=true:=by kernel_rfl
def Q5b:List Item:=mJ 9 12::fI 13 (.ext (.t 9) 0)::fI 14 (.ext (.t 9) 1)::mJ 5 13::mJ 6 14::[]
def Qix:List Item:=gF 30 23 (.not (.t 29))::fI 31 (.pick (.t 23) (.k (.c (.bool true))) (.t 30))::[]
def Qq1:List Item:=gF 21 17 (.not (.t 20))::fI 22 (.pick (.t 17) (.k (.c (.bool true))) (.t 21))::mJ 23 22::gFf 24 23 3 2::gFl 25 23 24::gF 26 23 (.len (.t 25))::gFm 27 23 5::gFm 28 23 6::.e (some 29) (some (23,false)) (.call Qbh [.t 26,.t 27,.t 28])::Qix
def s_l2Form_3:SC:=(.cond (.t 31) (.seq (.reg ( fI 4 (.mv (.k (.c (.bool false))))::[]) [4]) .ret) .skip)
def Qq2:List Item:=gF 58 54 (.not (.t 57))::fI 59 (.pick (.t 54) (.k (.c (.bool true))) (.t 58))::mJ 60 59::gFf 61 60 0 2::gFl 62 60 61::gF 63 60 (.bin 0 .neq (.t 62) (kI 1))::gFm 64 60 63::gTf 65 64 1 2::gTl 66 64 65::gT 67 64 (.bin 0 .neq (.t 66) (kI 0))::gF 68 60 (.pick (.t 64) (.t 67) (.k (.c (.bool false))))::fI 69 (.pick (.t 60) (.k (.c (.bool true))) (.t 68))::[]
def Q5c:List Item:=fI 44 (.bin 1 .neq (.t 40) (.t 43))::mJ 45 44::gFm 46 45 7::gF 47 45 (.not (.t 46))::gFm 48 45 47::gTf 49 48 2 2::gTl 50 48 49::gT 51 48 (.bin 0 .neq (.t 50) (.k (.c (.str []))))::gF 52 45 (.pick (.t 48) (.t 51) (.k (.c (.bool false))))::fI 53 (.pick (.t 45) (.k (.c (.bool true))) (.t 52))::mJ 54 53::gFf 55 54 1 2::gFl 56 54 55::.e (some 57) (some (54,false)) (.call Qbh [.t 56,kI 0,kI 255])::Qq2
def s_l2Form_6:SC:=(.cond (.t 69) (.seq (.reg ( fI 4 (.mv (.k (.c (.bool false))))::[]) [4]) .ret) .skip)
def Q5d:List Item:=oJ 85 84::[]
def Qa2h:SC:=(.cond (.t 85) (.seq (.reg ( fI 4 (.mv (.k (.c (.bool false))))::[]) [4]) .ret) .skip)
def Qa2i:SC:=(.reg ( mJ 75 8::cJ 76 .add 75 1::mJ 8 76::[]) [1,2,8])
def Qavh:SC:=(.seq (.block 1 (.seq (.reg ( fJ 77 3 2::lJ 78 77::mJ 79 8::iJ 80 4 78 79::tJ 81 4 80::mJ 82 1::cJ 83 .sub 82 1::aJ 84 Qrk [.t 81,.t 83]::Q5d) [1,2,8,85]) Qa2h)) Qa2i)
def Qapk:SC:=(.seq (.seq (.reg ( mJ 70 8::fJ 71 3 2::lJ 72 71::nJ 73 72::bJ 74 .lss 70 73::[]) [1,2,8,74]) (.cond (.t 74) .skip (.exit 0))) Qavh)
def Qavi:SC:=(.seq (.reg ( fI 4 (.mv (.k (.c (.bool true))))::[]) [4]) .ret)
def Q49:SC:=(.seq (.seq (.reg ( fI 8 (.mv (kI 0))::[]) [1,2,8]) (.block 0 (.loop Qapk))) Qavi)
def Qavj:SC:=(.seq (.seq (.reg ( mJ 40 7::fJ 41 2 2::lJ 42 41::aJ 43 Qc3 [.t 42]::Q5c) [1,2,69]) s_l2Form_6) Q49)
def Q5a:SC:=(.seq (.reg ( fJ 32 0 2::lJ 33 32::cJ 34 .eql 33 2::mJ 35 34::gFf 36 35 0 2::gFl 37 35 36::gF 38 35 (.bin 0 .eql (.t 37) (kI 13))::fI 39 (.pick (.t 35) (.k (.c (.bool true))) (.t 38))::mJ 7 39::[]) [1,2,7]) Qavj)
def Qavk:SC:=(.seq (.seq (.reg ( mJ 15 1::cJ 16 .lss 15 1::mJ 17 16::gFf 18 17 0 2::gFl 19 17 18::.e (some 20) (some (17,false)) (.call Qbh [.t 19,kI 1,kI 13])::Qq1) [1,2,31]) s_l2Form_3) Q5a)
def Qavl:SC:=(.seq (.reg ( fJ 10 0 2::lJ 11 10::aJ 12 Q21 [.t 11]::Q5b) [1,2,5,6]) Qavk)
def Qbbl:SC:=(.seq (.reg ( fI 2 (.box (.t 0))::fI 4 (.mv (.k (.c (.bool false))))::[]) [1,2]) Qavl)
def Qr3:List RS:=[.tmp 4]
theorem Qbaq:mFn prog Qrk 2 86 Qbbl Qr3=true:=by kernel_rfl
def Qya:List Item:=bJ 19 .add 12 18::mJ 3 19::[]
def Qavm:SC:=(.reg ( mJ 10 4::cJ 11 .add 10 1::mJ 4 11::[]) [1,3,4])
def Qavn:SC:=(.seq (.block 1 (.reg ( mJ 12 3::fJ 13 3 1::lJ 14 13::mJ 15 4::iJ 16 4 14 15::tJ 17 4 16::aJ 18 Qng [.t 17]::Qya) [1,3,4])) Qavm)
def Qapl:SC:=(.seq (.seq (.reg ( mJ 5 4::fJ 6 3 1::lJ 7 6::nJ 8 7::bJ 9 .lss 5 8::[]) [1,3,4,9]) (.cond (.t 9) .skip (.exit 0))) Qavn)
def Qavo:SC:=(.seq (.reg ( mJ 20 3::mJ 2 20::[]) [2]) .ret)
def Qavp:SC:=(.seq (.seq (.reg ( fI 4 (.mv (kI 0))::[]) [1,3,4]) (.block 0 (.loop Qapl))) Qavo)
def Qavq:SC:=(.seq (.reg ( fI 3 (.mv (kI 1))::[]) [1,3]) Qavp)
def Qa71:SC:=(.seq (.reg ( fI 1 (.box (.t 0))::fI 2 (.mv (kI 0))::[]) [1]) Qavq)
def Qakr:List RS:=[.tmp 2]
theorem Qa6d:mFn prog Qng 1 21 Qa71 Qakr=true:=by kernel_rfl
def Qa2j:SC:=(.cond (.t 5) .skip (.reg ( cJ 7 .eql 4 2::mJ 5 7::[]) [4,5]))
def Qa2k:SC:=(.cond (.t 8) .skip (.reg ( cJ 10 .eql 4 12::mJ 8 10::[]) [4,8]))
def Qa2l:SC:=(.cond (.t 11) (.seq (.reg ( fI 2 (.mv (kI 0))::fI 3 (.mv (kI 3))::[]) [2,3]) .ret) .skip)
def Qad0:SC:=(.cond (.t 8) (.seq (.reg ( fI 2 (.mv (kI 1))::fI 3 (.mv (kI 1))::[]) [2,3]) .ret) (.seq (.reg ( cJ 12 .eql 4 13::mJ 11 12::[]) [11]) Qa2l))
def Qad1:SC:=(.cond (.t 5) (.seq (.reg ( fI 2 (.mv (kI 0))::fI 3 (.mv (kI 0))::[]) [2,3]) .ret) (.seq (.seq (.reg ( cJ 9 .eql 4 11::mJ 8 9::[]) [4,8]) Qa2k) Qad0))
def Qa2m:SC:=(.block 0 (.seq (.seq (.reg ( cJ 6 .eql 4 1::mJ 5 6::[]) [4,5]) Qa2j) Qad1))
def Qvo:SC:=(.seq (.reg ( fI 2 (.mv (kI 2))::fI 3 (.mv (kI 2))::[]) [2,3]) .ret)
def Qa2n:SC:=(.seq (.seq (.reg ( mJ 4 0::[]) [4]) Qa2m) Qvo)
def Qbbm:SC:=(.seq (.reg ( fI 2 (.mv (kI 0))::fI 3 (.mv (kI 0))::[]) [0]) Qa2n)
def Qr4:List RS:=[.tmp 2,.tmp 3]
theorem Qbar:mFn prog Q21 1 13 Qbbm Qr4=true:=by kernel_rfl
end Go.AE.Y

namespace Go.AE.Y
open Go.Proofs.Tryz
def Qkl:List Item:=cJ 8 .geq 7 0::mJ 4 8::[]
def Q88:SC:=(.seq (.reg ( mJ 5 0::mJ 6 1::aJ 7 Qp4 [.t 5,.t 6]::Qkl) [4]) .ret)
def Qait:SC:=(.seq (.reg ( fI 4 (.mv (.k (.c (.bool false))))::[]) [0,1]) Q88)
def Qr9:List RS:=[.tmp 4]
theorem Qafg:mFn prog Qgk 2 9 Qait Qr9=true:=by kernel_rfl
def Qa64:SC:=(.cond (.t 17) (.seq (.reg ( mJ 18 5::mJ 4 18::[]) [4]) .ret) .skip)
def Qa65:SC:=(.reg ( mJ 10 5::cJ 11 .add 10 1::mJ 5 11::[]) [0,1,5])
def Qa66:SC:=(.seq (.block 1 (.seq (.reg ( mJ 12 0::mJ 13 5::iJ 14 1 12 13::lJ 15 14::mJ 16 1::bJ 17 .eql 15 16::[]) [0,1,5,17]) Qa64)) Qa65)
def Qa15:SC:=(.seq (.seq (.reg ( mJ 6 5::mJ 7 0::nJ 8 7::bJ 9 .lss 6 8::[]) [0,1,5,9]) (.cond (.t 9) .skip (.exit 0))) Qa66)
def Qa67:SC:=(.seq (.reg ( fI 4 (.mv (kI (-1)))::[]) [4]) .ret)
def Qa68:SC:=(.seq (.seq (.reg ( fI 5 (.mv (kI 0))::[]) [0,1,5]) (.block 0 (.loop Qa15))) Qa67)
def Qbez:SC:=(.seq (.reg ( fI 4 (.mv (kI 0))::[]) [0,1]) Qa68)
def Qas1:List RS:=[.tmp 4]
theorem Qbej:mFn prog Qm9 2 19 Qbez Qas1=true:=by kernel_rfl
def Qxc:List Item:=mJ 5 15::[]
def Qxd:List Item:=mJ 7 26::[]
def Qat2:SC:=(.reg ( mJ 36 7::mJ 37 6::iJ 38 1 36 37::.e none none (.sto 1 (.t 38) (.k (.c (.bool false))))::[]) [1,3,4,5,6,7])
def Qat3:SC:=(.cond (.t 31) (.seq (.reg ( tJ 32 3 1::mJ 33 7::fI 34 (.bsl 1 [])::aJ 35 Qdg [.t 32,kI 0,.t 33,.t 34]::[]) [1,3,4,5,6,7]) Qat2) (.reg ( mJ 39 7::mJ 40 6::iJ 41 1 39 40::.e none none (.sto 1 (.t 41) (.k (.c (.bool false))))::[]) [1,3,4,5,6,7]))
def Qxe:List Item:=mJ 8 43::[]
def Qat4:SC:=(.reg ( mJ 47 9::cJ 48 .add 47 1::mJ 9 48::[]) [1,3,4,5,6,7,8,9])
def Qat5:SC:=(.seq (.block 3 (.reg ( mJ 49 8::mJ 50 9::mJ 51 5::mJ 52 6::iJ 53 1 51 52::lJ 54 53::mJ 55 54::gTm 56 55 5::gTm 57 55 9::gT 58 55 (.iad 1 (.t 56) (.t 57))::gTl 59 55 58::fI 60 (.pick (.t 55) (.t 59) (.k (.c (.bool false))))::mJ 61 60::gTm 62 61 7::gTm 63 61 9::gT 64 61 (.iad 1 (.t 62) (.t 63))::gTl 65 61 64::gT 66 61 (.not (.t 65))::fI 67 (.pick (.t 61) (.t 66) (.k (.c (.bool false))))::iJ 68 1 49 50::.e none none (.sto 1 (.t 68) (.t 67))::[]) [1,3,4,5,6,7,8,9])) Qat4)
def Qana:SC:=(.seq (.seq (.reg ( mJ 44 9::mJ 45 3::bJ 46 .lss 44 45::[]) [1,3,4,5,6,7,8,9,46]) (.cond (.t 46) .skip (.exit 2))) Qat5)
def Qxf:List Item:=mJ 4 72::[]
def Qat6:SC:=(.reg ( mJ 69 4::mJ 70 8::fI 71 (.bsl 1 [.t 70])::eI 72 (.app 1 (.t 69) (.t 71))::Qxf) [1,3,4,5,6])
def Qamz:SC:=(.seq (.seq (.reg ( fI 9 (.mv (kI 0))::[]) [1,3,4,5,6,7,8,9]) (.block 2 (.loop Qana))) Qat6)
def Qxb:SC:=(.seq (.reg ( mJ 42 3::eI 43 (.mks 1 [.bool false] (.t 42))::Qxe) [1,3,4,5,6,7,8]) Qamz)
def Qam0:SC:=(.seq (.seq (.reg ( mJ 30 6::cJ 31 .neq 30 0::[]) [1,3,4,5,6,7,31]) Qat3) Qxb)
def Qam1:SC:=(.seq (.reg ( mJ 27 7::mJ 28 6::iJ 29 1 27 28::.e none none (.sto 1 (.t 29) (.k (.c (.bool true))))::[]) [1,3,4,5,6,7]) Qam0)
def Qam2:SC:=(.reg ( mJ 23 6::cJ 24 .add 23 1::mJ 6 24::[]) [1,3,4,5,6])
def Qam3:SC:=(.seq (.block 1 (.seq (.reg ( mJ 25 3::eI 26 (.mks 1 [.bool false] (.t 25))::Qxd) [1,3,4,5,6,7]) Qam1)) Qam2)
def Qagu:SC:=(.seq (.seq (.reg ( mJ 20 6::mJ 21 3::bJ 22 .lss 20 21::[]) [1,3,4,5,6,22]) (.cond (.t 22) .skip (.exit 0))) Qam3)
def Qam4:SC:=(.seq (.reg ( mJ 73 4::mJ 2 73::[]) [2]) .ret)
def Qam5:SC:=(.seq (.seq (.reg ( fI 6 (.mv (kI 0))::[]) [1,3,4,5,6]) (.block 0 (.loop Qagu))) Qam4)
def Qam6:SC:=(.seq (.reg ( tJ 16 3 1::mJ 17 5::fI 18 (.bsl 1 [])::aJ 19 Qdg [.t 16,kI 0,.t 17,.t 18]::[]) [1,3,4,5]) Qam5)
def Qam7:SC:=(.seq (.reg ( mJ 14 3::eI 15 (.mks 1 [.bool false] (.t 14))::Qxc) [1,3,4,5]) Qam6)
def Qam8:SC:=(.seq (.reg ( fI 13 (.bsl 1 [])::mJ 4 13::[]) [1,3,4]) Qam7)
def Qam9:SC:=(.seq (.reg ( fJ 10 2 1::lJ 11 10::nJ 12 11::mJ 3 12::[]) [1,3]) Qam8)
def Qa7g:SC:=(.seq (.reg ( fI 1 (.box (.t 0))::fI 2 (.mv (.k (.c (.sl true 1 []))))::[]) [1]) Qam9)
def Qakk:List RS:=[.tmp 2]
theorem Qa53:mFn prog Qne 1 74 Qa7g Qakk=true:=by kernel_rfl
def Qavw:SC:=(.cond (.t 5) (.reg ( mJ 6 0::fI 7 (.sli 1 (.t 6) none (some (kI 2000)))::mJ 0 7::[]) [0]) .skip)
def Qyb:List Item:=mJ 2 10::[]
def Q5g:SC:=(.seq (.reg ( mJ 8 0::fI 9 (.bld [.sl true 1 [],.int .i64 0] [(0,1,.t 8)])::eI 10 (.boxm (.t 9))::Qyb) [2]) .ret)
def Qavx:SC:=(.seq (.seq (.reg ( mJ 3 0::nJ 4 3::cJ 5 .gtr 4 2000::[]) [0,5]) Qavw) Q5g)
def Qa73:SC:=(.seq (.reg ( fI 2 (.mv (.k (.c .pnil)))::[]) [0]) Qavx)
def Q35:List RS:=[.tmp 2]
theorem Qa6f:mFn prog Quu 1 11 Qa73 Q35=true:=by kernel_rfl
def Qaq4:SC:=(.cond (.t 16) (.seq (.reg ( mJ 17 5::mJ 4 17::[]) [4]) .ret) .skip)
def Qaq5:SC:=(.seq (.reg ( mJ 11 1::mJ 12 0::mJ 13 5::iJ 14 1 12 13::lJ 15 14::bJ 16 .eql 11 15::[]) [0,1,5,7,8,16]) Qaq4)
def Qaq6:SC:=(.reg ( cJ 18 .add 8 1::mJ 8 18::[]) [0,1,7,8])
def Qaq7:SC:=(.seq (.block 1 (.seq (.reg ( mJ 10 8::mJ 5 10::[]) [0,1,5,7,8]) Qaq5)) Qaq6)
def Qaiu:SC:=(.seq (.reg ( bJ 9 .lss 8 7::[]) [0,1,7,8,9]) (.seq (.cond (.t 9) .skip (.exit 0)) Qaq7))
def Qaq8:SC:=(.seq (.reg ( fI 4 (.mv (kI (-1)))::[]) [4]) .ret)
def Qaq9:SC:=(.seq (.seq (.reg ( mJ 6 0::nJ 7 6::fI 8 (.mv (kI 0))::[]) [0,1,7,8]) (.block 0 (.loop Qaiu))) Qaq8)
def Qa35:SC:=(.seq (.reg ( fI 4 (.mv (kI 0))::[]) [0,1]) Qaq9)
def Qu9:List RS:=[.tmp 4]
theorem Qa1p:mFn prog Qp4 2 19 Qa35 Qu9=true:=by kernel_rfl
def Qlh:List Item:=oJ 14 13::[]
def Q93:SC:=(.cond (.t 14) (.seq (.reg ( fI 4 (.mv (.k (.c (.sl true 1 []))))::[]) [4]) .ret) .skip)
def Qli:List Item:=mJ 6 20::.e none none (.sto 5 (.t 7) (.t 22))::[]
def Qlj:List Item:=mJ 5 30::[]
def Q94:SC:=(.cond (.t 26) (.reg ( mJ 27 5::mJ 28 6::fI 29 (.bsl 1 [.t 28])::eI 30 (.app 1 (.t 27) (.t 29))::Qlj) [1,5,16,17,18]) .skip)
def Q95:SC:=(.seq (.reg ( fJ 23 4 7::lJ 24 23::mJ 25 1::aJ 26 Qgk [.t 24,.t 25]::[]) [1,5,6,16,17,18,26]) Q94)
def Q96:SC:=(.reg ( cJ 31 .add 18 1::mJ 18 31::[]) [1,5,16,17,18])
def Q97:SC:=(.seq (.block 1 (.seq (.reg ( mJ 20 18::iJ 21 5 16 18::tJ 22 5 21::eI 7 (.alloc [.sl true 2 [],.sl true 4 [],.int .i64 0,.int .i64 0,.sl true 1 []])::Qli) [1,5,6,7,16,17,18]) Q95)) Q96)
def Q4k:SC:=(.seq (.reg ( bJ 19 .lss 18 17::[]) [1,5,16,17,18,19]) (.seq (.cond (.t 19) .skip (.exit 0)) Q97))
def Q98:SC:=(.seq (.reg ( mJ 32 5::mJ 4 32::[]) [4]) .ret)
def Q4h:SC:=(.seq (.seq (.reg ( fJ 15 2 2::lJ 16 15::nJ 17 16::fI 18 (.mv (kI 0))::[]) [1,5,16,17,18]) (.block 0 (.loop Q4k))) Q98)
def Q4i:SC:=(.seq (.seq (.reg ( mJ 8 1::fJ 9 2 2::lJ 10 9::nJ 11 10::cJ 12 .sub 11 1::aJ 13 Qau [.t 8,kI 0,.t 12]::Qlh) [1,2,5,14]) Q93) Q4h)
def Q4j:SC:=(.seq (.reg ( fI 5 (.mv (.k (.c (.sl true 1 []))))::[]) [1,2,5]) Q4i)
def Qakz:SC:=(.seq (.reg ( fI 2 (.box (.t 0))::fI 4 (.mv (.k (.c (.sl true 1 []))))::[]) [1,2]) Q4j)
def Qlb:List RS:=[.tmp 4]
theorem Qajy:mFn prog Qie 2 33 Qakz Qlb=true:=by kernel_rfl
def Qeh:List Item:=cJ 8 .geq 7 0::mJ 4 8::[]
def Qq7:SC:=(.seq (.reg ( mJ 5 0::mJ 6 1::aJ 7 Qe9 [.t 5,.t 6]::Qeh) [4]) .ret)
def Qvv:SC:=(.seq (.reg ( fI 4 (.mv (.k (.c (.bool false))))::[]) [0,1]) Qq7)
def Qhe:List RS:=[.tmp 4]
theorem Qu1:mFn prog Qbs 2 9 Qvv Qhe=true:=by kernel_rfl
def Qwy:List Item:=oJ 37 36::[]
def Qatm:SC:=(.cond (.t 37) (.seq (.reg ( fI 2 (.mv (.k (.c (.bool false))))::[]) [2]) .ret) .skip)
def Qatn:SC:=(.reg ( mJ 21 4::cJ 22 .add 21 1::mJ 4 22::[]) [1,3,4])
def Qato:SC:=(.seq (.block 3 (.seq (.dreg 15 [0,1,2,3,4,5,6,7,8,9,10,11,12,13,14] ( fJ 23 2 1::lJ 24 23::mJ 25 3::iJ 26 5 24 25::fJ 27 4 26::lJ 28 27::mJ 29 4::iJ 30 1 28 29::lJ 31 30::fJ 32 2 1::lJ 33 32::nJ 34 33::cJ 35 .sub 34 1::aJ 36 Qbh [.t 31,kI 0,.t 35]::Qwy) [1,3,4,37]) Qatm)) Qatn)
def Qala:SC:=(.seq (.seq (.reg ( mJ 12 4::fJ 13 2 1::lJ 14 13::mJ 15 3::iJ 16 5 14 15::fJ 17 4 16::lJ 18 17::nJ 19 18::bJ 20 .lss 12 19::[]) [1,3,4,20]) (.cond (.t 20) .skip (.exit 2))) Qato)
def Qatp:SC:=(.reg ( mJ 10 3::cJ 11 .add 10 1::mJ 3 11::[]) [1,3])
def Qatq:SC:=(.seq (.block 1 (.seq (.reg ( fI 4 (.mv (kI 0))::[]) [1,3,4]) (.block 2 (.loop Qala)))) Qatp)
def Qalb:SC:=(.seq (.seq (.reg ( mJ 5 3::fJ 6 2 1::lJ 7 6::nJ 8 7::bJ 9 .lss 5 8::[]) [1,3,9]) (.cond (.t 9) .skip (.exit 0))) Qatq)
def Qatr:SC:=(.seq (.reg ( fJ 38 2 1::lJ 39 38::nJ 40 39::cJ 41 .gtr 40 0::mJ 2 41::[]) [2]) .ret)
def Qats:SC:=(.seq (.seq (.reg ( fI 3 (.mv (kI 0))::[]) [1,3]) (.block 0 (.loop Qalb))) Qatr)
def Qa7c:SC:=(.seq (.reg ( fI 1 (.box (.t 0))::fI 2 (.mv (.k (.c (.bool false))))::[]) [1]) Qats)
def Q3y:List RS:=[.tmp 2]
theorem Qa5z:mFn prog Quj 1 42 Qa7c Q3y=true:=by kernel_rfl
def Qaqh:SC:=(.block 1 (.reg ( mJ 19 5::cJ 20 .add 19 1::mJ 5 20::[]) [0,1,5]))
def Qaie:SC:=(.seq (.seq (.reg ( mJ 7 5::mJ 8 0::nJ 9 8::bJ 10 .lss 7 9::mJ 11 10::gTm 12 11 0::gTm 13 11 5::gT 14 11 (.iad 1 (.t 12) (.t 13))::gTl 15 11 14::gTm 16 11 1::gT 17 11 (.bin 0 .lss (.t 15) (.t 16))::fI 18 (.pick (.t 11) (.t 17) (.k (.c (.bool false))))::[]) [0,1,5,18]) (.cond (.t 18) .skip (.exit 0))) Qaqh)
def Qaqi:SC:=(.cond (.t 32) (.seq (.reg ( mJ 33 0::mJ 4 33::[]) [4]) .ret) .skip)
def Qt2:List Item:=mJ 6 38::[]
def Qt3:List Item:=mJ 4 46::[]
def Qt4:List Item:=.chk 45 none (.sli 1 (.t 43) (some (.t 44)) none)::eI 46 (.app 1 (.t 42) (.t 45))::Qt3
def Qaqj:SC:=(.seq (.dreg 9 [0,1,2,4,5,6,3,6,7,8] ( mJ 39 6::mJ 40 1::fI 41 (.bsl 1 [.t 40])::mJ 43 0::mJ 44 5::fI 45 (.sli 1 (.t 43) (some (.t 44)) none)::eI 42 (.app 1 (.t 39) (.t 41))::Qt4) [4]) .ret)
def Qy4:SC:=(.seq (.reg ( fI 34 (.bsl 1 [])::mJ 35 0::mJ 36 5::fI 37 (.sli 1 (.t 35) none (some (.t 36)))::eI 38 (.app 1 (.t 34) (.t 37))::Qt2) [0,1,5,6]) Qaqj)
def Qy5:SC:=(.seq (.seq (.reg ( mJ 21 5::mJ 22 0::nJ 23 22::bJ 24 .lss 21 23::mJ 25 24::gTm 26 25 0::gTm 27 25 5::gT 28 25 (.iad 1 (.t 26) (.t 27))::gTl 29 25 28::gTm 30 25 1::gT 31 25 (.bin 0 .eql (.t 29) (.t 30))::fI 32 (.pick (.t 25) (.t 31) (.k (.c (.bool false))))::[]) [0,1,5,32]) Qaqi) Qy4)
def Qaqk:SC:=(.seq (.reg ( fI 5 (.mv (kI 0))::[]) [0,1,5]) (.seq (.block 0 (.loop Qaie)) Qy5))
def Qa3j:SC:=(.seq (.reg ( fI 4 (.mv (.k (.c (.sl true 1 []))))::[]) [0,1]) Qaqk)
def Qhd:List RS:=[.tmp 4]
theorem Qa1o:mFn prog Qdh 2 47 Qa3j Qhd=true:=by kernel_rfl
def Qsw:List Item:=mJ 3 49::[]
def Qamt:SC:=(.cond (.t 36) (.dreg 14 [0,1,2,3,4,5,6,7,8,9,10,11,12,13] ( tJ 37 3 4::fJ 38 2 4::lJ 39 38::mJ 40 1::iJ 41 5 39 40::fJ 42 4 41::lJ 43 42::mJ 44 9::iJ 45 1 43 44::lJ 46 45::mJ 47 2::mJ 48 3::aJ 49 Qdg [.t 37,.t 46,.t 47,.t 48]::Qsw) [1,2,3,4,9]) .skip)
def Qamu:SC:=(.reg ( mJ 22 9::cJ 23 .add 22 1::mJ 9 23::[]) [1,2,3,4,9])
def Qamv:SC:=(.seq (.block 1 (.seq (.reg ( mJ 24 2::fJ 25 2 4::lJ 26 25::mJ 27 1::iJ 28 5 26 27::fJ 29 4 28::lJ 30 29::mJ 31 9::iJ 32 1 30 31::lJ 33 32::iJ 34 1 24 33::lJ 35 34::oJ 36 35::[]) [1,2,3,4,9,36]) Qamt)) Qamu)
def Qagt:SC:=(.seq (.seq (.reg ( mJ 13 9::fJ 14 2 4::lJ 15 14::mJ 16 1::iJ 17 5 15 16::fJ 18 4 17::lJ 19 18::nJ 20 19::bJ 21 .lss 13 20::[]) [1,2,3,4,9,21]) (.cond (.t 21) .skip (.exit 0))) Qamv)
def Qsx:List Item:=mJ 8 53::[]
def Qamw:SC:=(.seq (.reg ( mJ 50 3::mJ 51 1::fI 52 (.bsl 1 [.t 51])::eI 53 (.app 1 (.t 50) (.t 52))::Qsx) [8]) .ret)
def Qamx:SC:=(.seq (.seq (.reg ( fI 9 (.mv (kI 0))::[]) [1,2,3,4,9]) (.block 0 (.loop Qagt))) Qamw)
def Qamy:SC:=(.seq (.reg ( mJ 10 2::mJ 11 1::iJ 12 1 10 11::.e none none (.sto 1 (.t 12) (.k (.c (.bool true))))::[]) [1,2,3,4]) Qamx)
def Qa18:SC:=(.seq (.reg ( fI 4 (.box (.t 0))::fI 8 (.mv (.k (.c (.sl true 1 []))))::[]) [1,2,3,4]) Qamy)
def Qads:List RS:=[.tmp 8]
theorem Qa1i:mFn prog Qdg 4 54 Qa18 Qads=true:=by kernel_rfl
def Qagc:SC:=(.seq (.reg ( mJ 7 1::mJ 8 0::bJ 9 .leq 7 8::mJ 10 9::gTm 11 10 0::gTm 12 10 2::gT 13 10 (.bin 0 .leq (.t 11) (.t 12))::fI 14 (.pick (.t 10) (.t 13) (.k (.c (.bool false))))::mJ 6 14::[]) [6]) .ret)
def Qate:SC:=(.seq (.reg ( fI 6 (.mv (.k (.c (.bool false))))::[]) [0,1,2]) Qagc)
def Q3w:List RS:=[.tmp 6]
theorem Qasg:mFn prog Qau 3 15 Qate Q3w=true:=by kernel_rfl
def Q1q:SC:=(.cond (.t 16) (.seq (.reg ( mJ 17 5::mJ 4 17::[]) [4]) .ret) .skip)
def Q1r:SC:=(.seq (.reg ( mJ 11 1::mJ 12 0::mJ 13 5::iJ 14 1 12 13::lJ 15 14::eI 16 (.callv (.t 11) [.t 15])::[]) [0,1,5,7,8,16]) Q1q)
def Q1s:SC:=(.reg ( cJ 18 .add 8 1::mJ 8 18::[]) [0,1,7,8])
def Q1t:SC:=(.seq (.block 1 (.seq (.reg ( mJ 10 8::mJ 5 10::[]) [0,1,5,7,8]) Q1r)) Q1s)
def Qvw:SC:=(.seq (.reg ( bJ 9 .lss 8 7::[]) [0,1,7,8,9]) (.seq (.cond (.t 9) .skip (.exit 0)) Q1t))
def Q1u:SC:=(.seq (.reg ( fI 4 (.mv (kI (-1)))::[]) [4]) .ret)
def Q1v:SC:=(.seq (.seq (.reg ( mJ 6 0::nJ 7 6::fI 8 (.mv (kI 0))::[]) [0,1,7,8]) (.block 0 (.loop Qvw))) Q1u)
def Qacz:SC:=(.seq (.reg ( fI 4 (.mv (kI 0))::[]) [0,1]) Q1v)
def Qgp:List RS:=[.tmp 4]
theorem Q9x:mFn prog Qe9 2 19 Qacz Qgp=true:=by kernel_rfl
end Go.AE.Y

