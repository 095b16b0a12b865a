/- Part 2 of the proof: the engine, codes, walks and plain laws, each named where it stands. -/
import Derived.Test.YtlfdcfggpccakaaGreatDoorZA
import Derived.Test.YtlfdcfggpccakaaGreatDoorProg
open Nat (reduceEqDiff reduceAdd reduceLeDiff reduceLT)
set_option linter.unusedVariables false
set_option linter.unusedSimpArgs false
set_option maxRecDepth 4000
open Array renaming getD_eq_getD_getElem?->Jh,getElem?_eq_some_iff->Jm,getElem?_eq_getElem->Jq
open Bool renaming and_eq_true->Js,not_eq_true'->Jad,true_and->Jau
open Int renaming eq_ofNat_of_zero_le->Jae
open List renaming mem_of_getElem?->Ja,mem_append_left->Jb,mem_append->Jc,mem_append_right->Jd,getD_eq_getElem?_getD->Je,nodup_append->Jg,mem_map->Ji,mem_cons->Jj,append_assoc->Jk,map_append->Jl,mem_or_eq_of_mem_set->Jn,perm_append_comm->Jo,nil_append->Jp,map_cons->Jr,getElem?_eq_some_iff->Jt,mem_cons_of_mem->Ju,getElem?_eq_getElem->Jv,length_eq_zero_iff->Jw,cons_append->Jx,take_of_length_le->Jy,mem_cons_self->Jz,all_cons->J0,length_map->J1,mem_singleton->J2,getElem?_set->J3,all_nil->J4,map_nil->J5,map_set->J6,getElem_set->J7,not_mem_nil->J8,map_eq_nil_iff->J9,append_of_mem->Jaa,drop_zero->Jab,pairwise_iff_getElem->Jac,ext_getElem->Jaf,getElem_mem->Jag,length_eq_one_iff->Jah,append_nil->Jai,contains_iff_mem->Jaj,length_nil->Jak,length_singleton->Jal,flatMap_append->Jam,getElem?_drop->Jan,set_cons_zero->Jao,all_eq_true->Jaq,countP_cons->Jar,count_cons->Jas
open Nat renaming zero_add->Jap,le_refl->Jat,zero_le->Jaw
open Option.some renaming injEq->Jf
open Prod.mk renaming injEq->Jav
namespace Go.AE
variable {P:Program}{H:Heap}{g:G}{w:World}{e:Env}{a:Act}
theorem GJ {d:Option Nat}{v:V}{e:Env}{t:Nat}(h:d≠some t):lk t (putE d v e)=lk t e:=by
 cases d with
 |none=>rfl
 |some s=>
  simp only[putE,lk];rw[if_neg];intro k;subst k;exact h rfl
theorem LH {d:Option Nat}{v:V}{e:Env}{t:Nat}(h:d=some t):lk t (putE d v e)=v:=by
 subst h;simp[putE,lk]
theorem Em {a:Act}{d:Option Nat}{u:Value}{t:Nat}(h:d≠some t):(a.put d u).tmps.getD t undef=a.tmps.getD t undef:=by
 cases d with
 |none=>rfl
 |some s=>
  have:s≠t:=fun k=>by subst k;exact h rfl
  simp only[Act.put];rw[Jh,Array.getElem?_setIfInBounds_ne this,←Jh]
theorem EJ {a:Act}{d:Option Nat}{u:Value}{t:Nat}(h:d=some t)(ht:t<a.tmps.size):(a.put d u).tmps.getD t undef=u:=by
 subst h;simp only[Act.put];rw[Jh,Array.getElem?_setIfInBounds_self_of_lt ht];rfl
theorem AI {listed:Array Bool}{i j:Nat}(hi:i<listed.size):dn (listed.setIfInBounds i true) j↔j=i∨dn listed j:=by
 by_cases h:j=i
 ·subst h;simp[dn,hi]
 ·simp only[dn,getD_set_ne false (Ne.symm h),h,false_or]
theorem FO {n:Nat}{ops:Array Oper}{o:Oper}{x:Item}(h:AX P n ops o x=true):∀t,x.dst=some t→t<n:=by
 intro t ht;cases x <;> simp only[AX,Js]at h
 case f d gd op=>obtain⟨h1,h2⟩:=Dd h.1.1;simp only[Item.dst]at ht;exact h2 t (h1.trans ht)
 case p d gd f xs=>obtain⟨h1,h2⟩:=Dd h.1.1;simp only[Item.dst]at ht;exact h2 t (h1.trans ht)
 case e d gd op=>obtain⟨h1,h2⟩:=Dd h.1.1;simp only[Item.dst]at ht;exact h2 t (h1.trans ht)
 case chk=>simp at h
theorem DInv.passE {F:Fix}(hF:FixOk F){listed:Array Bool}{pre r:List Row}{y:Row}(hI:DInv F listed a w pre (y::r) e H g)(hy:y.2.isE=true)(ly:¬dn listed y.1)(lh:y.1≠F.fa)
  (dJ:∀j,F.anc y.1 j→dn listed j) {v:V} {u:Value} {w':World} {H':Heap} {g':G}
  (bU:Bu F.P (r.map Prod.snd) (putE y.2.dst v e) H' F.KP F.K) (aL:Stp H g w H' g' w') (hv:RepV w' g' v u) :
  DInv F (listed.setIfInBounds y.1 true) (a.put y.2.dst u) w' (pre++[y]) r (putE y.2.dst v e) H' g':=by
 obtain⟨cE,lf⟩:=CG hy;obtain⟨o,ho⟩:=hF.row hI.split cE;have ae:y.1<listed.size:=Zao
 have fQ:∀z∈pre,z∈F.L:=fun z hz=>ZP
 have mr:∀z∈pre,BT F z y:=fun z hz=>Ci hI.split hz Zz;refine⟨by rw[hI.split];simp,bU,hI.stp.trans aL,by rw[(Bz _ _ _).1];exact hI.size,by rw[(Bz _ _ _).2];exact hI.defers,by simp[hI.lsz],?_,?_,?_,?_,?_⟩
 ·intro i hi j hj;rw[AI ae]at hi⊢;rcases hi with rfl|hi
  ·exact .inr (dJ j hj)
  ·exact .inr (hI.closed i hi j hj)
 ·intro z hz iL;rw[AI ae];rcases Jc.1 hz with k|k
  ·exact .inr (hI.eDone z k iL)
  ·simp at k;subst k;exact .inl rfl
 ·intro z hz cN j6;have nK:=hF.pair (GT hI.split hz) cE cN;rw[AI ae]at j6;obtain⟨k1,k2⟩:=hI.postDone z Zba cN (j6.resolve_left (Ne.symm nK.ne));exact⟨k1,k2.mono aL fun d hd=>Em fun h=>nK.dst d h hd⟩
 ·intro z hz ev eP;obtain⟨cN,qD⟩:=Ec ev;rw[AI ae]at eP;have fK:¬dn listed z.1:=fun h=>eP (.inr h);have k:z∈pre:=by
   rcases Jc.1 hz with k|k
   ·exact k
   ·simp at k;subst k;rw[lf]at ev;simp at ev
  have hp:=hF.pair (mr z k) cN cE;by_cases hh:z.2.hf=true
  ·right;rcases hI.pend z k ev fK with h|h
   ·have:=(HA h).1;rw[cE]at this;simp at this
   ·obtain⟨o',x,ei,u',p1,p2,p3,p4,p5,p6,p7,p8⟩:=h;refine⟨o',x,ei,u',p1,p2,p3,p4,p5,p6.hcongr (p5 hh),?_,?_⟩
    ·intro d hd;rw[GJ fun h=>hp.dst d hd h];exact p7 d hd
    ·intro t ht;obtain⟨q1,q2⟩:=p8 t ht;have gC:y.2.dst≠some t:=fun h=>by
      have:=hp.war t h ht;exact fK (dJ _ this)
     have hb:∀z',BJ F (listed.setIfInBounds y.1 true) (pre++[y]) z t z'↔BJ F listed pre z t z':=by
      intro z';constructor
      ·rintro⟨b1,b2,b3,b4,b5⟩;rw[AI ae]at b3;refine⟨?_,b2,fun h=>b3 (.inr h),b4,b5⟩;rcases Jc.1 b1 with b|b
       ·exact b
       ·simp at b;subst b;exact absurd b4 gC
      ·rintro⟨b1,b2,b3,b4,b5⟩;refine⟨by simp[b1],b2,?_,b4,b5⟩;rw[AI ae];rintro (h|h)
       ·exact (hF.pair (mr z' b1) b2 cE).ne h
       ·exact b3 h
     simp only[hb,GJ gC,Em gC];exact⟨q1,fun h=>(q2 h).mono aL.le⟩
  ·left;have:=ho.cover hy z k cN (by simpa using hh);refine this ?_
   cases hx:(F.ms.getD y.1 0).testBit z.1 with
   |false=>rfl
   |true=>exact absurd (dJ _ hx) fK
 ·intro t;by_cases ht:y.2.dst=some t
  ·right;right;rw[LH ht,EJ ht ZaH];exact hv
  ·rw[GJ ht,Em ht];rcases hI.temps t with ⟨y',k1,k2,k3,k4⟩|⟨y',k1,k2,k3,k4,k5⟩|k
   ·refine .inl ⟨y',Zay,k2,?_,k4⟩;rw[AI ae];rintro (h|h)
    ·exact (hF.pair (mr y' k1) k2 cE).ne h
    ·exact k3 h
   ·rcases Jj.1 k1 with h|h
    ·subst h;exact absurd k3 lh
    ·exact .inr (.inl ⟨y',h,k2,k3,(AI ae).2 (.inr k4),k5⟩)
   ·exact .inr (.inr (k.mono aL.le))
theorem DInv.passFa {F:Fix}(hF:FixOk F){listed:Array Bool}{pre r:List Row}{y:Row}(hI:DInv F listed a w pre (y::r) e H g)(cE:y.2.aS=false)(ly:dn listed y.1) :
  ∃e' H',DInv F listed a w (pre++[y]) r e' H' g:=by
 obtain⟨lh,pz⟩:=hI.postDone y Zz cE ly;obtain⟨d,cells,l,h1,h2,h3,h4⟩:=Qbm4 hI.stp pz;obtain⟨o,ho⟩:=hF.row hI.split cE;have hy:y.2.isE=true:=by rw[h1];rfl
 have lf:=(CG hy).2;have sX:y.2.dst=some d:=by rw[h1];rfl
 have mr:∀z∈pre,BT F z y:=fun z hz=>Ci hI.split hz Zz;have bU:=hI.rest;simp only[Jr,h1,Bu,gdO,gdB,true_and,EOp.eff]at bU;have oF:=bU.1 trivial l h2;refine⟨putE (some d) (.c (.ptr l 0)) e,H.set l (.st cells),?_⟩;refine⟨by rw[hI.split];simp,oF,h3,hI.size,hI.defers,hI.lsz,hI.closed,?_,?_,?_,?_⟩
 ·intro z hz iL;rcases Jc.1 hz with k|k
  ·exact hI.eDone z k iL
  ·simp at k;subst k;exact ly
 ·intro z hz cN j6;obtain⟨k1,k2⟩:=hI.postDone z Zba cN j6;exact absurd (lh.trans k1.symm) (hF.pair (GT hI.split hz) cE cN).ne
 ·intro z hz ev eP;obtain⟨cN,qD⟩:=Ec ev;have k:z∈pre:=by
   rcases Jc.1 hz with k|k
   ·exact k
   ·simp at k;subst k;rw[lf]at ev;simp at ev
  have hp:=hF.pair (mr z k) cN cE;by_cases hh:z.2.hf=true
  ·right;rcases hI.pend z k ev eP with h|h
   ·have:=(HA h).1;rw[cE]at this;simp at this
   ·obtain⟨o',x,ei,u',p1,p2,p3,p4,p5,p6,p7,p8⟩:=h;refine⟨o',x,ei,u',p1,p2,p3,p4,p5,p6.hcongr (p5 hh),?_,?_⟩
    ·intro d' fh;rw[GJ fun h=>hp.dst d' fh (by rw[sX];exact h)];exact p7 d' fh
    ·intro t ht;obtain⟨q1,q2⟩:=p8 t ht;have gC:some d≠some t:=fun h=>by
      have:=hp.war t (by rw[sX];exact h) ht;exact eP (hI.closed _ ly _ this)
     have hb:∀z',BJ F listed (pre++[y]) z t z'↔BJ F listed pre z t z':=by
      intro z';constructor
      ·rintro⟨b1,b2,b3,b4,b5⟩;refine⟨?_,b2,b3,b4,b5⟩;rcases Jc.1 b1 with b|b
       ·exact b
       ·simp at b;subst b;rw[sX]at b4;exact absurd b4 gC
      ·rintro⟨b1,b2⟩;exact⟨by simp[b1],b2⟩
     simp only[hb,GJ gC];exact⟨q1,q2⟩
  ·left;refine ho.cover hy z k cN (by simpa using hh) ?_
   cases hx:(F.ms.getD y.1 0).testBit z.1 with
   |false=>rfl
   |true=>exact absurd (hI.closed _ ly _ hx) eP
 ·intro t;by_cases ht:some d=some t
  ·right;right;rw[LH ht];simp at ht;subst ht;exact h4
  ·rw[GJ ht];rcases hI.temps t with ⟨y',k1,k2,k3,k4⟩|⟨y',k1,k2,k3,k4,k5⟩|k
   ·exact .inl ⟨y',Zay,k2,k3,k4⟩
   ·rcases Jj.1 k1 with h|h
    ·subst h;rw[sX]at k5;exact absurd k5 ht
    ·exact .inr (.inl ⟨y',h,k2,k3,k4,k5⟩)
   ·exact .inr (.inr k)
theorem DInv.doneFl {F:Fix}(hF:FixOk F){listed:Array Bool}{pre post:List Row}{y:Row}(hI:DInv F listed a w pre post e H g)(fL:y∈pre)(hy:y.2.isFl=true)(ly:¬dn listed y.1)
  (dJ:∀j,F.anc y.1 j→dn listed j) {v:V} {u:Value} {w':World} {g':G} (qe:∀d,y.2.dst=some d→lk d e=v)
  (aL:Stp H g w H g' w') (hv:RepV w' g' v u) :
  DInv F (listed.setIfInBounds y.1 true) (a.put y.2.dst u) w' pre post e H g':=by
 obtain⟨cE,xX⟩:=Ec hy;have jH:y∈F.L:=by rw[hI.split];simp[fL]
 obtain⟨A,B,lu⟩:=Jaa jH;obtain⟨o,ho⟩:=hF.row lu cE;have ae:y.1<listed.size:=Zao
 have fQ:∀z∈pre,z∈F.L:=fun z hz=>ZP
 refine⟨hI.split,hI.rest,hI.stp.trans aL,by rw[(Bz _ _ _).1];exact hI.size,by rw[(Bz _ _ _).2];exact hI.defers,by simp[hI.lsz],?_,?_,?_,?_,?_⟩
 ·intro i hi j hj;rw[AI ae]at hi⊢;rcases hi with rfl|hi
  ·exact .inr (dJ j hj)
  ·exact .inr (hI.closed i hi j hj)
 ·intro z hz iL;rw[AI ae];exact .inr (hI.eDone z hz iL)
 ·intro z hz cN j6;have nK:=hF.pair (Ci hI.split fL hz) cE cN;rw[AI ae]at j6;obtain⟨k1,k2⟩:=hI.postDone z hz cN (j6.resolve_left (Ne.symm nK.ne));exact⟨k1,k2.mono aL fun d hd=>Em fun h=>nK.dst d h hd⟩
 ·intro z hz ev eP;obtain⟨cN,qD⟩:=Ec ev;rw[AI ae]at eP;have fK:¬dn listed z.1:=fun h=>eP (.inr h);have nK:z≠y:=fun h=>eP (.inl (by rw[h]));rcases hI.pend z hz ev fK with h|h
  ·exact .inl h
  ·right;obtain⟨o',x,ei,u',p1,p2,p3,p4,p5,p6,p7,p8⟩:=h;refine⟨o',x,ei,u',p1,p2,p3,p4,p5,p6,p7,?_⟩;intro t ht;obtain⟨q1,q2⟩:=p8 t ht;have hb:∀z',BJ F (listed.setIfInBounds y.1 true) pre z t z'→BJ F listed pre z t z':=by
    rintro z' ⟨b1,b2,b3,b4,b5⟩;rw[AI ae]at b3;exact⟨b1,b2,fun h=>b3 (.inr h),b4,b5⟩
   refine⟨fun z' gc=>q1 z' (hb z' gc),fun cd=>?_⟩;by_cases gC:y.2.dst=some t
   ·have je:BJ F listed pre z t y:=by
     refine⟨fL,cE,ly,gC,?_⟩;rcases LB jH (fQ z hz)with k|k|k
     ·exact absurd k.symm nK
     ·exact (hF.pair k cE cN).raw t gC ht
     ·exact absurd (dJ _ ((hF.pair k cN cE).war t gC ht)) fK
    rw[q1 y je,qe t gC,EJ gC (by rw[hI.size];exact FO ho.item t gC)];exact hv
   ·rw[Em gC];refine (q2 fun ⟨z',b⟩=>cd ⟨z',?_⟩).mono aL.le;obtain⟨b1,b2,b3,b4,b5⟩:=b;refine⟨b1,b2,?_,b4,b5⟩;rw[AI ae];rintro (h|h)
    ·have:=hF.inj (fQ _ b1) jH b2 cE h;subst this;exact gC b4
    ·exact b3 h
 ·intro t;by_cases ht:y.2.dst=some t
  ·right;right;rw[qe t ht,EJ ht ZaH];exact hv
  ·rw[Em ht];rcases hI.temps t with ⟨y',k1,k2,k3,k4⟩|⟨y',k1,k2,k3,k4,k5⟩|k
   ·refine .inl ⟨y',k1,k2,?_,k4⟩;rw[AI ae];rintro (h|h)
    ·have:=hF.inj (fQ _ k1) jH k2 cE h;subst this;exact ht k4
    ·exact k3 h
   ·exact .inr (.inl ⟨y',k1,k2,k3,(AI ae).2 (.inr k4),k5⟩)
   ·exact .inr (.inr (k.mono aL.le))
theorem DInv.doneFa {F:Fix}(hF:FixOk F){listed:Array Bool}{pre post:List Row}{y:Row}(hI:DInv F listed a w pre post e H g)(fL:y∈post)(cE:y.2.aS=false)(lh:y.1=F.fa)(ly:¬dn listed y.1)
  (dJ:∀j,F.anc y.1 j→dn listed j) {u:Value} {w':World} {g':G}
  (aL:Stp H g w H g' w') (hv:Early F.g0 H g' w' (a.put y.2.dst u) y.2) :
  DInv F (listed.setIfInBounds y.1 true) (a.put y.2.dst u) w' pre post e H g':=by
 have jH:y∈F.L:=by rw[hI.split];simp[fL]
 obtain⟨A,B,lu⟩:=Jaa jH;obtain⟨o,ho⟩:=hF.row lu cE;have ae:y.1<listed.size:=Zao
 have fQ:∀z∈pre,z∈F.L:=fun z hz=>ZP
 have kg:∀z∈post,z∈F.L:=fun z hz=>ZP
 refine⟨hI.split,hI.rest,hI.stp.trans aL,by rw[(Bz _ _ _).1];exact hI.size,by rw[(Bz _ _ _).2];exact hI.defers,by simp[hI.lsz],?_,?_,?_,?_,?_⟩
 ·intro i hi j hj;rw[AI ae]at hi⊢;rcases hi with rfl|hi
  ·exact .inr (dJ j hj)
  ·exact .inr (hI.closed i hi j hj)
 ·intro z hz iL;rw[AI ae];exact .inr (hI.eDone z hz iL)
 ·intro z hz cN j6;rw[AI ae]at j6;rcases j6 with h|h
  ·have:=hF.inj (kg _ hz) jH cN cE h;subst this;exact⟨lh,hv⟩
  ·obtain⟨k1,k2⟩:=hI.postDone z hz cN h;have:=hF.inj (kg _ hz) jH cN cE (k1.trans lh.symm);subst this;exact absurd h ly
 ·intro z hz ev eP;obtain⟨cN,qD⟩:=Ec ev;rw[AI ae]at eP;have fK:¬dn listed z.1:=fun h=>eP (.inr h);rcases hI.pend z hz ev fK with h|h
  ·exact .inl h
  ·right;obtain⟨o',x,ei,u',p1,p2,p3,p4,p5,p6,p7,p8⟩:=h;refine⟨o',x,ei,u',p1,p2,p3,p4,p5,p6,p7,?_⟩;intro t ht;obtain⟨q1,q2⟩:=p8 t ht;have gC:y.2.dst≠some t:=fun h=>by
    have:=(hF.pair (Ci hI.split hz fL) cN cE).war t h ht;exact fK (dJ _ this)
   have hb:∀z',BJ F (listed.setIfInBounds y.1 true) pre z t z'↔BJ F listed pre z t z':=by
    intro z';constructor
    ·rintro⟨b1,b2,b3,b4,b5⟩;rw[AI ae]at b3;exact⟨b1,b2,fun h=>b3 (.inr h),b4,b5⟩
    ·rintro⟨b1,b2,b3,b4,b5⟩;refine⟨b1,b2,?_,b4,b5⟩;rw[AI ae];rintro (h|h)
     ·exact (hF.pair (Ci hI.split b1 fL) b2 cE).ne h
     ·exact b3 h
   simp only[hb,Em gC];exact⟨q1,fun h=>(q2 h).mono aL.le⟩
 ·intro t;by_cases ht:y.2.dst=some t
  ·exact .inr (.inl ⟨y,fL,cE,lh,(AI ae).2 (.inl lh.symm),ht⟩)
  ·rw[Em ht];rcases hI.temps t with ⟨y',k1,k2,k3,k4⟩|⟨y',k1,k2,k3,k4,k5⟩|k
   ·refine .inl ⟨y',k1,k2,?_,k4⟩;rw[AI ae];rintro (h|h)
    ·exact (hF.pair (Ci hI.split k1 fL) k2 cE).ne h
    ·exact k3 h
   ·exact .inr (.inl ⟨y',k1,k2,k3,(AI ae).2 (.inr k4),k5⟩)
   ·exact .inr (.inr (k.mono aL.le))
def EA (listed:Array Bool)(post:List Row):Prop:=post=[]∨∃y r,post=y::r∧y.2.isE=true∧¬dn listed y.1
theorem Hf {F:Fix}(hF:FixOk F){listed:Array Bool}:∀(post pre:List Row) (e:Env) (H:Heap),DInv F listed a w pre post e H g→
  ∃pre' post' e' H',DInv F listed a w pre' post' e' H' g∧EA listed post'
 |[],pre,e,H,hI=>⟨pre,[],e,H,hI,.inl rfl⟩
 |(i,x)::r,pre,e,H,hI=>by
  have y7:x.isE=false→x.aS=false→¬dn listed i:=by
   intro hx hc hd;obtain⟨_,pz⟩:=hI.postDone (i,x) Zz hc hd;obtain⟨d,cells,l,b,sz,T,cs,h1,_⟩:=pz.ok;simp only at h1;rw[h1]at hx;simp[Item.isE]at hx
  have bU:=hI.rest
  cases x with
  |chk d gd op=>exact Hf hF r _ e H (hI.passChk hF)
  |f d gd op=>
   simp only[Jr,Bu]at bU;exact Hf hF r _ _ H (hI.passFl hF rfl _ ⟨bU.1,bU.2.1,rfl⟩ bU.2.2 (y7 rfl rfl))
  |p d gd f xs=>
   simp only[Jr,Bu]at bU;obtain⟨r1,v,r2,r3⟩:=bU;exact Hf hF r _ _ H (hI.passFl hF rfl _ ⟨r1,v,r2,rfl⟩ r3 (y7 rfl rfl))
  |e d gd op=>
   by_cases hd:dn listed i
   ·obtain⟨e',H',xH⟩:=hI.passFa hF rfl hd;exact Hf hF r _ e' H' xH
   ·exact⟨pre,_,e,H,hI,.inr ⟨_,r,rfl,rfl,hd⟩⟩
theorem KM {α:Type}{p q:α→Bool}:∀(l:List α),(∀x∈l,q x=true→p x=true)→(∃x∈l,p x=true∧q x=false)→l.countP q<l.countP p
 |[],_,h=>ZF
 |x::r,h1,h2=>by
  have aU:r.countP q≤r.countP p:=List.countP_mono_left fun y hy=>h1 y (by simp[hy]);obtain⟨y,hy,k1,k2⟩:=h2;rcases Jj.1 hy with rfl|hy
  ·simp only[Jar,k1,k2];simp;omega
  ·have:=KM r (fun y hy=>h1 y (by simp[hy])) ⟨y,hy,k1,k2⟩;have hx:=h1 x Zz;simp only[Jar]
   cases hq:q x with
   |true=>rw[hx hq];simp;omega
   |false=>simp;split <;> omega
def unl (F:Fix)(listed:Array Bool):Nat:=(List.range F.ops.size).countP fun i=>!listed.getD i false
theorem Kv {F:Fix}(hF:FixOk F){listed:Array Bool}(bz:listed.size=F.ops.size)(hr:Region.ready .any F.ops listed=[]):∀(B A:List Row),F.L=A++B→
  (∀y∈A,y.2.aS=false→dn listed y.1)→∀y∈B,y.2.aS=false→dn listed y.1
 |[],A,h,hA,y,hy,hc=>by simp at hy
 |x::r,A,h,hA,y,hy,hc=>by
  have hx:x.2.aS=false→dn listed x.1:=by
   intro ta;obtain⟨o,ho⟩:=hF.row h ta;have ae:x.1<listed.size:=by rw[bz];exact (Jm.1 ho.op).1
   by_cases hd:dn listed x.1
   ·exact hd
   ·exfalso;have:x.1∈Region.ready .any F.ops listed:=by
     rw[mem_ready];refine⟨?_,o,ho.op,fun ed sk hb=>?_⟩
     ·simp only[dn]at hd;rw[Jh,Jq ae]at hd⊢;simpa using hd
     ·obtain⟨z,hz,h1,h2⟩:=ho.aft ed sk hb;rw[←h2];exact hA z hz h1
    rw[hr]at this;simp at this
  rcases Jj.1 hy with rfl|hy
  ·exact hx hc
  ·refine Kv hF bz hr r (A++[x]) (by rw[h];simp) ?_ y hy hc;intro z hz cN;rcases Jc.1 hz with k|k
   ·exact hA z k cN
   ·simp at k;subst k;exact hx cN
theorem Kl {F:Fix}(hF:FixOk F){listed:Array Bool}{pre post:List Row}(hI:DInv F listed a w pre post e H g)(aL:EA listed post)(hr:Region.ready .any F.ops listed=[]) :
  Post F.n F.H0 F.g0 F.w0 F.K a w:=by
 have cq:=Kv hF hI.lsz hr F.L [] rfl Zz;rcases aL with rfl|⟨y,r,rfl,hy,hd⟩
 ·refine⟨e,H,g,hI.rest,hI.stp,fun t=>?_,hI.defers,hI.size⟩;rcases hI.temps t with ⟨y',k1,k2,k3,k4⟩|⟨y',k1,_⟩|k
  ·exact absurd (cq y' (by rw[hI.split];simp[k1]) k2) k3
  ·simp at k1
  ·exact k
 ·exact absurd (cq y ZaT (CG hy).1) hd
theorem Qbm1 {F:Fix}(hF:FixOk F){Q:Exit→Act→World→Prop}(hQ:∀a' w',Post F.n F.H0 F.g0 F.w0 F.K a' w'→Q .normal a' w')(hP:∀v a' w' H' g',F.KP v H'→Stp F.H0 F.g0 F.w0 H' g' w'→a'.defers=[]→a'.tmps.size=F.n→Q (.panic [{ v:=v,recovered:=false }]) a' w') :
  ∀(fuel:Nat) (listed:Array Bool) (a:Act) (w:World) (pre post:List Row) (e:Env) (H:Heap) (g:G),DInv F listed a w pre post e H g→EA listed post→unl F listed≤fuel→
   wpAny F.P .any F.ops Q fuel listed a w:=by
 intro fuel
 induction fuel with
 |zero=>
  intro listed a w pre post e H g hI aL hu;have hr:Region.ready .any F.ops listed=[]:=by
   rw[List.eq_nil_iff_forall_not_mem];intro i hi;rw[mem_ready]at hi;obtain⟨h1,o,h2,h3⟩:=hi;have ae:i<F.ops.size:=(Jm.1 h2).1;have:0<unl F listed:=by
    unfold unl;rw[List.countP_pos_iff];refine⟨i,by simp[ae],?_⟩;have dW:i<listed.size:=(by rw[hI.lsz];exact ae);rw[Jh,Jq dW]at h1⊢;simpa using h1
   omega
  exact⟨hr,hQ _ _ (Kl hF hI aL hr)⟩
 |succ fuel ih=>
  intro listed a w pre post e H g hI aL hu;refine⟨fun hr=>hQ _ _ (Kl hF hI aL hr),?_⟩;intro i hi;rw[mem_ready]at hi;obtain⟨h1,o,h2,h3⟩:=hi;have ae:i<F.ops.size:=(Jm.1 h2).1;have dW:i<listed.size:=by rw[hI.lsz];exact ae
  have cr:¬dn listed i:=by
   simp only[dn];rw[Jh,Jq dW]at h1⊢;simpa using h1
  have gE:unl F (listed.setIfInBounds i true)≤fuel:=by
   have:unl F (listed.setIfInBounds i true)<unl F listed:=by
    refine KM _ ?_ ⟨i,by simp[ae],?_,?_⟩
    ·intro j hj hq;by_cases fV:i=j
     ·subst fV;simp[dW]at hq
     ·rw[getD_set_ne false fV]at hq;exact hq
    ·simpa[dn]using cr
    ·simp[dW]
   omega
  obtain⟨y,jH,cE,hY⟩:=hF.all i ae;subst hY;obtain⟨A,B,lu⟩:=Jaa jH;obtain⟨o',ho⟩:=hF.row lu cE;have f0:o'=o:=by have:=ho.op;rw[h2]at this;simpa using this.symm
  subst f0;have dJ:∀j,F.anc y.1 j→dn listed j:=by
   intro j hj;obtain⟨ed,k1,k2,k3⟩:=ho.anc j hj;rcases k3 with k3|k3
   ·rw[←k3];exact h3 ed k1 k2
   ·exact hI.closed _ (h3 ed k1 k2) j k3
  have df:∀a' w' pre' post' e' H' g',DInv F (listed.setIfInBounds y.1 true) a' w' pre' post' e' H' g'→wpAny F.P .any F.ops Q fuel (listed.setIfInBounds y.1 true) a' w':=by
   intro a' w' pre' post' e' H' g' xH;obtain⟨p2,q2,e2,H2,xG,dS⟩:=Hf hF post' pre' e' H' xH;exact ih _ a' w' p2 q2 e2 H2 g' xG dS gE
  have bZ:y∈pre∨y∈post:=by
   have:y∈pre++post:=hI.split▸jH;exact Jc.1 this
  have py:y.1=F.fa→y∈post→wpOp F.P F.ops Q y.1 (wpAny F.P .any F.ops Q fuel (listed.setIfInBounds y.1 true)) a w:=by
   intro jC fL;refine Qbir h2 ho.item (ho.isFa jC) hI.stp.sat (fun l z hz=>hI.stp.le.io l z hz) hI.size (g0:=F.g0) fun u w' g' k1 k2=>?_;exact df _ _ _ _ _ _ _ (hI.doneFa hF fL cE jC cr dJ k1 k2)
  rcases bZ with fL|fL
  ·
   have gA:y.2.isFl=true:=by
    have hE:=hI.eDone y fL;revert hE cE;cases y.2 <;> simp_all[Item.isFl,Item.aS,Item.isE]
   rcases hI.pend y fL gA cr with h|h
   ·exfalso;rcases aL with rfl|⟨z,r,rfl,hz,_⟩
    ·simp[Bp]at h
    ·have:=(HA h).1;rw[(CG hz).1]at this;simp at this
   ·obtain⟨o2,x,ei,v,p1,p2,p3,p4,p5,p6,p7,p8⟩:=h;rw[h2]at p1;simp only[Jf]at p1;subst p1;have cd:∀t,¬∃z,BJ F listed pre y t z:=by
     rintro t ⟨z,b1,b2,b3,b4,b5⟩;exact b3 (dJ _ b5)
    refine Xj (n:=F.n) h2 p2 p6 hI.stp.sat ?_ fun u w' g' k1 k2=>?_
    ·intro t;rw[DI];split
     ·rename_i ht
      rw[p4]at ht;exact (p8 t ht).2 (cd t)
     ·exact .unk _
    ·rw[p3];exact df _ _ _ _ _ _ _ (hI.doneFl hF fL gA cr dJ p7 k1 k2)
  ·by_cases jC:y.1=F.fa
   ·exact py jC fL
   ·rcases aL with rfl|⟨z,r,rfl,hz,j6⟩
    ·simp at fL
    ·have hyz:y=z:=by
      rcases Jj.1 fL with k|k
      ·exact k
      ·exfalso;have:=(hF.pair (GT hI.split k) (CG hz).1 cE).ord hz jC;exact j6 (dJ _ this)
     subst hyz;have bU:=hI.rest;have wy:=ho.item;have yy:=@DInv.passE;obtain⟨yi,yx⟩:=y
     cases yx with
     |e d gd op=>
      simp only[Jr,Bu]at bU;obtain⟨r1,r2,r3⟩:=bU;refine XM (n:=F.n) h2 wy hI.stp.sat ?_ r1 r2 r3 (fun x u w' H' g' k1 k2 k3=>?_) fun v w' H' g' k1 k2=>hP v a w' H' g' k1 (hI.stp.trans k2) hI.defers hI.size
      ·intro t;rw[DI];split
       ·rename_i ht
        rcases hI.temps t with ⟨y',b1,b2,b3,b4⟩|⟨y',b1,b2,b3,b4,b5⟩|k
        ·exfalso;exact b3 (dJ _ ((hF.pair (Ci hI.split b1 Zz) b2 cE).raw t b4 ht))
        ·exfalso;rcases Jj.1 b1 with h|h
         ·subst h;exact cr (by rw[b3];exact b4)
         ·have:=(hF.pair (GT hI.split h) cE b2).war t b5 ht;rw[b3]at this;exact cr (hI.closed _ b4 _ this)
        ·exact k
       ·exact .unk _
      ·exact df _ _ _ _ _ _ _ (hI.passE hF hz cr jC dJ (PG k1 k3) k2 k3)
     |f=>simp[Item.isE]at hz
     |p=>simp[Item.isE]at hz
     |chk=>simp[Item.isE]at hz
theorem PF (hs:Sat H g w)(k:Nat):Stp H g w H g { w with drawn:=k }:=by
 have aU:Le g w g { w with drawn:=k }:=⟨fun _ h=>⟨h,rfl⟩,fun _ _ h=>h,Jat _,fun _ _ _ h=>h,rfl,rfl,rfl⟩;have hk:∀l,C0 g w g { w with drawn:=k } l:=fun l b q hb=>⟨hb,rfl⟩;exact⟨aU,fun l _ hn=>⟨hn,fun b p hb=>⟨hb,rfl⟩⟩,hs.fresh,hs.names,hs.excl,hs.named,fun l=>SatObj.keep_all hs aU hk l⟩
theorem Qbio {n id fa:Nat}{ord:List Nat}{ops:Array Oper}{its:List Item}{KP:Value→Heap→Prop}{K:Env→Heap→Prop}{Q:Exit→Act→World→Prop}(Ab:P.follows .mixedOrders=true)(hm:E6 P n ops fa ord its=true)(hs:Sat H g w)(he:EnvOk w g e a)(hn:a.tmps.size=n)(hd:a.defers=[])
  (hr:Bu P its e H KP K) (hQ:∀a' w',Post n H g w K a' w'→Q .normal a' w') (hP:∀v a' w',Post n H g w (fun _ H'=>KP v H') a' w'→Q (.panic [{ v:=v,recovered:=false }]) a' w'):(Code.region id ops true).wp P Q a w:=by
 simp only[E6,Js,beq_iff_eq,Jaq,List.mem_range,List.any_eq_true,Jad]at hm;obtain⟨⟨⟨m1,m2⟩,m3⟩,m4⟩:=hm;let F:Fix:={ P,n,ops,ms:=E5 ops.toList [],fa,L:=ord.zip its,H0:=H,g0:=g,w0:=w,KP,K };have hF:FixOk F:=⟨m3,fun i hi=>m4 i hi⟩;have fR:(ord.zip its).map Prod.snd=its:=by
  rw[List.map_snd_zip];omega
 have aL:=PF hs (w.drawn+1);have ce:∀i,¬dn (Array.replicate ops.size false) i:=by
  intro i h;simp only[dn,Jh,Array.getElem?_replicate]at h;split at h <;> simp at h
 have hI:DInv F (Array.replicate ops.size false) a { w with drawn:=w.drawn+1 } [] (ord.zip its) e H g:=by
  refine⟨rfl,by rw[fR];exact hr,aL,hn,hd,by simp[F],fun i hi=>absurd hi (ce i),Zz,fun y _ _ h=>absurd h (ce _),Zz,fun t=>?_⟩;exact .inr (.inr ((he t).mono aL.le))
 obtain⟨p2,q2,e2,H2,xG,dS⟩:=Hf hF _ _ _ _ hI;refine wp_region_any Ab ?_;refine Qbm1 hF hQ (fun v a' w' H' g' k1 k2 k3 k4=>hP v a' w' ⟨[],H',g',k1,k2,fun t=>.unk _,k3,k4⟩) ops.size _ a _ p2 q2 e2 H2 g xG dS ?_;exact Nat.le_trans List.countP_le_length (by simp[F])
theorem Qbme {c:Code}{Q:Exit→Act→World→Prop}(I:Nat→Act→World→Prop)(h₀:∃n,I n a w)
  (round:∀n a w,I n a w→c.wp P (Exit.then (fun a' w'=>∃m,m<n∧I m a' w') Q) a w):(Code.loop c).wp P Q a w:=by
 intro b k cs;have key:∀n a w,I n a w→∃e a' w',Q e a' w'∧Arrives P (lone (b.at a (.code c::.inLoop c::k)) cs w) b k cs e a' w':=by
  intro n
  induction n using Nat.strongRecOn with
  |_ n ih=>
   intro a w hI;obtain⟨e,a₁,w₁,hq,dI⟩:=round n a w hI b (.inLoop c::k) cs
   cases e with
   |normal=>
    obtain⟨m,ae,hI₁⟩:=hq;obtain⟨e₂,a₂,w₂,hq₂,sD⟩:=ih m ae a₁ w₁ hI₁;exact⟨e₂,a₂,w₂,hq₂,.of_steps (Steps.trans dI (.one step_inLoop)) sD⟩
   |exit id=>exact⟨_,a₁,w₁,hq,.pass (x:=.inLoop c) rfl (fun _ _=>.inl Zz) dI⟩
   |goto l=>exact⟨_,a₁,w₁,hq,.pass (x:=.inLoop c) rfl (fun _ _=>.inl Zz) dI⟩
   |ret=>exact⟨_,a₁,w₁,hq,.pass (x:=.inLoop c) rfl (fun _ _=>.inl Zz) dI⟩
   |panic ch=>exact⟨_,a₁,w₁,hq,.pass (x:=.inLoop c) rfl (fun _ _=>.inl Zz) dI⟩
   |outgrown=>exact⟨_,a₁,w₁,hq,.pass (x:=.inLoop c) rfl (fun _ _=>.inl Zz) dI⟩
 obtain⟨n,hn⟩:=h₀;obtain⟨e,a',w',hq,dI⟩:=key n a w hn;exact⟨e,a',w',hq,.of_steps (.one step_loop) dI⟩
def xm:Exit→Option X
 |.normal=>some .nrm
 |.exit id=>some (.exit id)
 |.ret=>some .ret
 |.panic [{ v:=v,recovered:=false,goexit:=false }]=>some (.pan v)
 |_=>none
theorem D7 {ch:List PanicEntry}{x:X}(h:xm (.panic ch)=some x):∃v,x=.pan v∧ch=[{ v:=v,recovered:=false }]:=by
 unfold xm at h;split at h <;> simp_all
def CD (n:Nat)(H:Heap)(g:G)(w:World)(Q:X→Env→Heap→Prop)(x:Exit)(a:Act)(w':World):Prop:=
 ∃x',xm x=some x'∧Post n H g w (Q x') a w'
def mC (P:Program)(n:Nat):Code→SC→Bool
 |c,.seq .gh s=>mC P n c s
 |.skip,.skip=>true
 |.region _ ops false,.reg its _=>mIts P n ops 0 its
 |.region _ ops true,.aA fa ord its _=>E6 P n ops fa ord its
 |.seq c d,.seq s t=>mC P n c s&&mC P n d t
 |.cond x c d,.cond y s t=>mO y x&&mC P n c s&&mC P n d t
 |.block i c,.block j s=>i == j&&mC P n c s
 |.loop c,.loop s=>mC P n c s
 |.exit i,.exit j=>i == j
 |.ret,.ret=>true
 |.scope c,.scope s=>mC P n c s
 |.label _,.skip=>true
 |_,_=>false
theorem Ir {ks:List Nat}(h:EnvOk w g e a):EnvOk w g (trim ks e) a:=by
 intro t;unfold trim
 induction ks with
 |nil=>exact .unk _
 |cons k ks ih=>
  simp only[Jr,lk];split
  ·rename_i ht;subst ht;exact h t
  ·exact ih
theorem Post.trans {n:Nat}{H':Heap}{g':G}{w' w'':World}{K:Env→Heap→Prop}(h:Stp H g w H' g' w')(k:Post n H' g' w' K a w''):Post n H g w K a w'':=by
 obtain⟨e2,H2,g2,k1,k2,k3,k4,k5⟩:=k;exact⟨e2,H2,g2,k1,h.trans k2,k3,k4,k5⟩
theorem Qbil (Ab:P.follows .mixedOrders=true){n:Nat}:∀(s:SC) (c:Code) (Q:X→Env→Heap→Prop) (e:Env) (H:Heap),mC P n c s=true→Ac P s Q e H→
  ∀(g:G) (w:World) (a:Act),Sat H g w→EnvOk w g e a→a.defers=[]→a.tmps.size=n→c.wp P (CD n H g w Q) a w:=by
 intro s
 induction s with
 |skip=>
  intro c Q e H hm hc g w a hs he hd hn
  cases c with
  |skip=>exact wp_skip ⟨.nrm,rfl,e,H,g,hc,.refl hs,he,hd,hn⟩
  |label l=>exact wp_label ⟨.nrm,rfl,e,H,g,hc,.refl hs,he,hd,hn⟩
  |_=>simp[mC]at hm
 |reg its keep=>
  intro c Q e H hm hc g w a hs he hd hn
  cases c with
  |region id ops dr'=>
   cases dr' with
   |true=>simp[mC]at hm
   |false=>
    simp only[mC]at hm;simp only[Ac]at hc;have hQ:∀a' w',Post n H g w (fun e' H'=>Q .nrm (trim keep e') H') a' w'→CD n H g w Q .normal a' w':=by
     rintro a' w' ⟨e2,H2,g2,k1,k2,k3,k4,k5⟩;exact⟨.nrm,rfl,_,H2,g2,k1,k2,Ir k3,k4,k5⟩
    have hP:∀v a' w',Post n H g w (fun _ H'=>X.panK Q v H') a' w'→CD n H g w Q (.panic [{ v:=v,recovered:=false }]) a' w':=by
     rintro v a' w' ⟨e2,H2,g2,k1,k2,k3,k4,k5⟩;exact⟨.pan v,rfl,[],H2,g2,k1,k2,fun t=>.unk _,k4,k5⟩
    have hl:=Kz its 0 hm;refine wp_region ?_;rw[List.range_eq_range',←hl,Jap];exact Pm hQ hP its 0 e H g w a hm (.refl hs) he hn hd hc
  |_=>simp[mC]at hm
 |aA fa ord its keep=>
  intro c Q e H hm hc g w a hs he hd hn
  cases c with
  |region id ops dr'=>
   cases dr' with
   |false=>simp[mC]at hm
   |true=>
    simp only[mC]at hm;simp only[Ac]at hc;have hQ:∀a' w',Post n H g w (fun e' H'=>Q .nrm (trim keep e') H') a' w'→CD n H g w Q .normal a' w':=by
     rintro a' w' ⟨e2,H2,g2,k1,k2,k3,k4,k5⟩;exact⟨.nrm,rfl,_,H2,g2,k1,k2,Ir k3,k4,k5⟩
    have hP:∀v a' w',Post n H g w (fun _ H'=>X.panK Q v H') a' w'→CD n H g w Q (.panic [{ v:=v,recovered:=false }]) a' w':=by
     rintro v a' w' ⟨e2,H2,g2,k1,k2,k3,k4,k5⟩;exact⟨.pan v,rfl,[],H2,g2,k1,k2,fun t=>.unk _,k4,k5⟩
    exact Qbio Ab hm hs he hn hd hc hQ hP
  |_=>simp[mC]at hm
 |seq s t ihs iht=>
  intro c Q e H hm hc g w a hs he hd hn;by_cases hg:s=.gh
  ·subst hg;have de:mC P n c t=true:=by simpa[mC]using hm
   simp only[Ac]at hc;obtain⟨e1,H1,h1,h2⟩:=hc;obtain⟨g1,k1,k2⟩:=h1 g w (fun t=>a.tmps.getD t undef) hs he;refine wp_mono (iht c Q e1 H1 de h2 g1 w a k1.sat k2 hd hn) ?_;rintro x a' w' ⟨x',q1,q2⟩;exact⟨x',q1,q2.trans k1⟩
  ·cases c with
   |seq c d=>
    have de:mC P n c s=true∧mC P n d t=true:=by
     cases s <;> first|(exact absurd rfl hg)|simpa[mC]using hm
    simp only[Ac]at hc;refine wp_seq (wp_mono (ihs c _ e H de.1 hc g w a hs he hd hn) ?_);rintro x a' w' ⟨x',q1,e2,H2,g2,k1,k2,k3,k4,k5⟩
    cases x with
    |normal=>
     simp only[xm,Jf]at q1;subst q1;refine wp_mono (iht d Q e2 H2 de.2 k1 g2 w' a' k2.sat k3 k4 k5) ?_;rintro x2 a2 w2 ⟨x2',r1,r2⟩;exact⟨x2',r1,r2.trans k2⟩
    |exit id=>
     simp only[xm,Jf]at q1;subst q1;exact⟨_,rfl,e2,H2,g2,k1,k2,k3,k4,k5⟩
    |ret=>
     simp only[xm,Jf]at q1;subst q1;exact⟨_,rfl,e2,H2,g2,k1,k2,k3,k4,k5⟩
    |panic ch=>
     obtain⟨v,rfl,rfl⟩:=D7 q1;exact⟨_,rfl,e2,H2,g2,k1,k2,k3,k4,k5⟩
    |_=>simp[xm]at q1
   |_=>cases s <;> first|(exact absurd rfl hg)|simp[mC]at hm
 |cond y s t ihs iht=>
  intro c Q e H hm hc g w a hs he hd hn;cases c <;> simp[mC]at hm
  rename_i x c d
  obtain⟨⟨h1,h2⟩,h3⟩:=hm;simp only[Ac]at hc;obtain⟨b,k1,k2,k3⟩:=hc;have hr:=Ig he h1;rw[k1]at hr;have hb:=hr.aR.bu;exact wp_cond_split hb (fun mz=>ihs c Q e H h2 (k2 mz) g w a hs he hd hn) (fun mz=>iht d Q e H h3 (k3 mz) g w a hs he hd hn)
 |block id s ih=>
  intro c Q e H hm hc g w a hs he hd hn;cases c <;> simp[mC]at hm
  rename_i id' c
  obtain⟨rfl,h2⟩:=hm;simp only[Ac]at hc;refine wp_block (wp_mono (ih c _ e H h2 hc g w a hs he hd hn) ?_);rintro x a' w' ⟨x',q1,e2,H2,g2,k1,k2⟩
  cases x with
  |normal=>
   simp only[xm,Jf]at q1;subst q1;exact⟨.nrm,rfl,e2,H2,g2,k1,k2⟩
  |exit id2=>
   simp only[xm,Jf]at q1;subst q1;simp only[X.inBlock]at k1;simp only[Exit.inBlock];split
   ·rename_i h;subst h;rw[if_pos rfl]at k1;exact⟨.nrm,rfl,e2,H2,g2,k1,k2⟩
   ·rename_i h;rw[if_neg h]at k1;exact⟨.exit id2,rfl,e2,H2,g2,k1,k2⟩
  |ret=>
   simp only[xm,Jf]at q1;subst q1;exact⟨.ret,rfl,e2,H2,g2,k1,k2⟩
  |panic ch=>
   obtain⟨v,rfl,rfl⟩:=D7 q1;exact⟨.pan v,rfl,e2,H2,g2,k1,k2⟩
  |_=>simp[xm]at q1
 |loop s ih=>
  intro c Q e H hm hc g w a hs he hd hn;cases c <;> simp[mC]at hm
  rename_i c
  simp only[Ac]at hc;obtain⟨I,⟨m0,h0⟩,oE⟩:=hc;refine Qbme (fun m a' w'=>Post n H g w (I m) a' w') ⟨m0,e,H,g,h0,.refl hs,he,hd,hn⟩ ?_;rintro m a1 w1 ⟨e1,H1,g1,k1,k2,k3,k4,k5⟩;refine wp_mono (ih c _ e1 H1 hm (oE m e1 H1 k1) g1 w1 a1 k2.sat k3 k4 k5) ?_;rintro x a' w' ⟨x',q1,e2,H2,g2,r1,r2,r3,r4,r5⟩
  cases x with
  |normal=>
   simp only[xm,Jf]at q1;subst q1;obtain⟨m',ae,hI⟩:=r1;exact⟨m',ae,e2,H2,g2,hI,k2.trans r2,r3,r4,r5⟩
  |exit id=>
   simp only[xm,Jf]at q1;subst q1;exact⟨_,rfl,e2,H2,g2,r1,k2.trans r2,r3,r4,r5⟩
  |ret=>
   simp only[xm,Jf]at q1;subst q1;exact⟨_,rfl,e2,H2,g2,r1,k2.trans r2,r3,r4,r5⟩
  |panic ch=>
   obtain⟨v,rfl,rfl⟩:=D7 q1;exact⟨_,rfl,e2,H2,g2,r1,k2.trans r2,r3,r4,r5⟩
  |_=>simp[xm]at q1
 |exit id=>
  intro c Q e H hm hc g w a hs he hd hn;cases c <;> simp[mC]at hm;subst hm;exact wp_exit ⟨.exit _,rfl,e,H,g,hc,.refl hs,he,hd,hn⟩
 |ret=>
  intro c Q e H hm hc g w a hs he hd hn;cases c <;> simp[mC]at hm;exact wp_ret ⟨.ret,rfl,e,H,g,hc,.refl hs,he,hd,hn⟩
 |gh=>
  intro c Q e H hm hc g w a hs he hd hn;cases c <;> simp[mC]at hm
 |scope s ih=>
  intro c Q e H hm hc g w a hs he hd hn;cases c <;> simp[mC]at hm
  rename_i c
  simp only[Ac]at hc;refine wp_scope_straight (wp_mono (ih c Q e H hm hc g w a hs he hd hn) ?_);rintro x a' w' ⟨x',q1,q2⟩
  cases x with
  |goto l=>simp[xm]at q1
  |_=>exact⟨x',q1,q2⟩
def mR (P:Program):ResultVar→RS→Bool
 |.tmp t,.tmp t'=>t == t'
 |.cell t ty,.cell t' n agg=>t == t'&&BU P ty n agg
 |_,_=>false
def mRs (P:Program):List ResultVar→List RS→Bool
 |[],[]=>true
 |x::r,y::s=>mR P x y&&mRs P r s
 |_,_=>false
def mFn (P:Program)(f:FuncId)(nargs n:Nat)(s:SC)(rs:List RS):Bool:=
 fnOk P f&&(match P.funcs[f]? with
  |some fn=>(match fn.body with
   |some c=>fn.ntmps == n&&decide (nargs≤n)&&mC P n c s&&mRs P fn.results.toList rs
   |none=>false)
  |none=>false)
theorem Qb1w {n:Nat}{x:ResultVar}{y:RS}(hm:mR P x y=true)(hs:Sat H g w)(he:EnvOk w g e a)(ho:y.op.obl true e H) :
  ∃v,(match x with
   |.tmp t=>(pure (a.tmps.getD t undef):Sem Value)
   |.cell t ty=>do loadVar ty (←asAddr (a.tmps.getD t undef))).run P w=.ok v w∧RepV w g (y.op.val e H) v:=by
 cases x with
 |tmp t=>
  cases y with
  |tmp t'=>
   simp[mR]at hm;subst hm;have hr:=An (x:=.t t) (y:=.tmp t) he (by simp[mO]) rfl ho;exact⟨a.tmps.getD t undef,rfl,hr⟩
  |cell=>simp[mR]at hm
 |cell t ty=>
  cases y with
  |tmp=>simp[mR]at hm
  |cell t' n agg=>
   simp only[mR,Js,beq_iff_eq]at hm;obtain⟨rfl,h2⟩:=hm;obtain⟨d,i,k1,k2,k3,k4,k5⟩:=Hy h2;obtain ⟨v, w', g', r1, r2, r3, _⟩ := s_ld (o := { dst := none, op := .load ty (.tmp t), type := 0, pos := "", after := #[], guard := none }) (x := .t t) (x' := .tmp t) rfl k1 k2 k3 k4 k5 (by simp [mO]) hs he rfl ho
   simp only[RS.op,FOp.obl]at ho;obtain⟨o1,o2,o3,o4,o5⟩:=ho;have uZ:=An (x:=.t t) (y:=.tmp t) he (by simp[mO]) rfl o1;rw[Bv o2]at uZ;obtain⟨b,q,hv,_⟩:=LA hs uZ.aR o3;have iw:a.tmps.getD t undef=.pointer (some ⟨b,q,none⟩):=hv;have bW := P7 (P := P) (o := { dst := none, op := .load ty (.tmp t), type := 0, pos := "", after := #[], guard := none }) (x := .t t) (x' := .tmp t) rfl k1 k2 k3 k4 k5 (by simp [mO]) hs he rfl ⟨o1, o2, o3, o4, o5⟩
   obtain⟨v2,q1,q2⟩:=bW;refine⟨v2,?_,q2⟩;simp only[execOp,Instr.loadAt,Act.eval,iw,Instr.sureAddr,Sem.run_bind,Sem.run_pure,Result.andThen_ok]at q1;simp only[iw,asAddr,Sem.run_bind,Sem.run_pure,Result.andThen_ok]
   cases hl:(loadVar ty ⟨b,q,none⟩).run P w with
   |ok u w2=>rw[hl]at q1;simp at q1;obtain⟨rfl,rfl⟩:=q1;rfl
   |halt h w2=>rw[hl]at q1;simp at q1
def rRun (tmps:Array Value):ResultVar→Sem Value
 |.tmp t=>pure (tmps.getD t undef)
 |.cell a t=>do loadVar t (←asAddr (tmps.getD a undef))
theorem Qa91 {P:Program}{w:World}{tmps:Array Value}:∀(l:List ResultVar) (vs:List Value),l.length=vs.length→
  (∀(j:Nat) (x:ResultVar) (v:Value),l[j]? = some x→vs[j]? = some v→(rRun tmps x).run P w=.ok v w)→(l.mapM (rRun tmps)).run P w=.ok vs w:=by
 intro l
 induction l with
 |nil=>intro vs hl _;cases vs with
  |nil=>simp
  |cons=>simp at hl
 |cons x r ih=>
  intro vs hl h
  cases vs with
  |nil=>simp at hl
  |cons v vs=>
   have h0:=h 0 x v rfl rfl;have ih':=ih vs Zaa fun j y u h1 h2=>h (j+1) y u Zah ZT;simp only[List.mapM_cons,Sem.run_bind,h0,Result.andThen_ok,ih',Sem.run_pure]
theorem VN {n:Nat}:∀(l:List ResultVar) (rs:List RS),mRs P l rs=true→Sat H g w→EnvOk w g e a→(∀r∈rs,r.op.obl true e H)→
  ∃vs:List Value,l.length=vs.length∧vs.length=rs.length∧(∀(j:Nat) (x:ResultVar) (v:Value),l[j]? = some x→vs[j]? = some v→(rRun a.tmps x).run P w=.ok v w)∧
   (∀(j:Nat) (x:V) (u:Value),(rs.map fun r=>r.op.val e H)[j]? = some x→vs[j]? = some u→RepV w g x u):=by
 intro l
 induction l with
 |nil=>
  intro rs hm hs he ho
  cases rs with
  |nil=>exact⟨[],rfl,rfl,Zz,Zz⟩
  |cons=>simp[mRs]at hm
 |cons x r ih=>
  intro rs hm hs he ho
  cases rs with
  |nil=>simp[mRs]at hm
  |cons y rs=>
   simp only[mRs,Js]at hm;obtain⟨v,h1,h2⟩:=Qb1w (n:=n) hm.1 hs he (ho y Zz);obtain⟨vs,k1,k2,k3,k4⟩:=ih rs hm.2 hs he fun z hz=>ho z Zba;refine⟨v::vs,Zay,by simp[k2],?_,?_⟩
   ·intro j z u hz hu
    cases j with
    |zero=>
     simp at hz hu;subst hz;subst hu;exact h1
    |succ j=>exact k3 j z u ZaM (by simpa using hu)
   ·intro j z u hz hu
    cases j with
    |zero=>
     simp at hz hu;subst hz;subst hu;exact h2
    |succ j=>exact k4 j z u ZaM (by simpa using hu)
theorem Qbjt {fn:Func}{rs:List RS}(hm:mRs P fn.results.toList rs=true)(hs:Sat H g w)(he:EnvOk w g e a){K:V→Heap→Prop}(ho:Aa rs e H K) :
  ∃v x,(results fn a.tmps).run P w=.ok v w∧K x H∧RepV w g x v:=by
 obtain⟨h1,h2⟩:=ho;obtain⟨vs,k1,k2,k3,k4⟩:=VN (n:=0) _ _ hm hs he h1;have hr:=Qa91 (P:=P) (w:=w) (tmps:=a.tmps) _ _ k1 k3;have cH:(results fn a.tmps).run P w=.ok (if h:vs.toArray.size=1 then vs.toArray[0]else .tuple vs.toArray) w:=by
  have:results fn a.tmps=(do let vs ←fn.results.mapM (rRun a.tmps);pure (if h:vs.size=1 then vs[0]else .tuple vs)):=by
   unfold results;rfl
  rw[this,Array.mapM_eq_mapM_toList];simp only[Sem.run_bind,Sem.run_map,hr,Result.andThen_ok,Sem.run_pure]
 by_cases hl:vs.length=1
 ·obtain⟨v,rfl⟩:∃v,vs=[v]:=Jah.mp hl;obtain⟨r,rfl⟩:∃r,rs=[r]:=Jah.mp Zx;exact⟨v,_,by simpa using cH,h2,k4 0 _ v Zz rfl⟩
 ·have bz:¬vs.toArray.size=1:=Zaa
  rw[dif_neg bz]at cH;refine⟨_,.tup (rs.map fun r=>r.op.val e H),cH,?_,.tup _ _ (by simp[k2]) k4⟩;split at h2
  ·rename_i r;simp at k2;omega
  ·exact h2
def Q6 (rs:List RS)(K:V→Heap→Prop):X→Env→Heap→Prop
 |.nrm,e,H=>Aa rs e H K
 |.ret,e,H=>Aa rs e H K
 |.exit _,_,_=>False
 |.pan v,_,H=>K (.pn v) H
theorem Qb02:∀(args:List V) (i t:Nat),lk t (zipE i args)=if i≤t then args.getD (t-i) .unk else .unk:=by
 intro args
 induction args with
 |nil=>intro i t;simp[zipE,lk]
 |cons v r ih=>
  intro i t;simp only[zipE,lk,ih];split
  ·rename_i h;subst h;simp
  ·rename_i h
   split
   ·rw[if_pos Zx];have:t-i=(t-(i+1))+1:=Zx;rw[this];simp
   ·rw[if_neg Zx]
theorem Qc (Ab:P.follows .mixedOrders=true){f n:Nat}{s:SC}{rs:List RS}{args:List V}{H:Heap}{K:V→Heap→Prop}
  (hm:mFn P f args.length n s rs=true) (hc:Ac P s (Q6 rs K) (zipE 0 args) H):Qs P f args H K:=by
 simp only[mFn,Js]at hm;obtain⟨au,hm⟩:=hm;refine⟨au,?_⟩;intro g w vs hs hl hv
 cases hf:P.funcs[f]? with
 |none=>rw[hf]at hm;simp at hm
 |some fn=>
  rw[hf]at hm;simp only at hm
  cases hb:fn.body with
  |none=>rw[hb]at hm;simp at hm
  |some c=>
   rw[hb]at hm;simp only[Js,beq_iff_eq,decide_eq_true_eq]at hm;obtain⟨⟨⟨h1,h2⟩,h3⟩,h4⟩:=hm;refine calls_of_wp hf hb ?_;have he:EnvOk w g (zipE 0 args) { tmps:=vs.toArray++Array.replicate (fn.ntmps-vs.toArray.size) undef,defers:=[] }:=by
    intro t;rw[Qb02,if_pos (Jaw _),Nat.sub_zero];by_cases ht:t<args.length
    ·have yn:t<vs.length:=Zx;have hg:(vs.toArray++Array.replicate (fn.ntmps-vs.toArray.size) undef).getD t undef=vs[t]:=by
      simp[Array.getD,yn,Array.getElem_append];intro h;omega
     rw[hg];exact hv t _ _ (by rw[Je,Jv ht];rfl) (Jv yn)
    ·rw[Je,List.getElem?_eq_none Zx];exact .unk _
   refine wp_mono (Qbil Ab s c _ (zipE 0 args) H h3 hc g w _ hs he rfl ZD) ?_;rintro x a' w' ⟨x',q1,e2,H2,g2,k1,k2,k3,k4,k5⟩;have key:Aa rs e2 H2 K→a'.defers=[]∧∃v,(results fn a'.tmps).run P w'=.ok v w'∧((∃v' x H' g',Ending.returned v=.returned v'∧K x H'∧Stp H g w H' g' w'∧RepV w' g' x v')∨(∃v' H' g',Ending.returned v=.panicked [{ v:=v',recovered:=false }]∧K (.pn v') H'∧Stp H g w H' g' w')):=by
    intro ve;obtain⟨v,x,r1,r2,r3⟩:=Qbjt h4 k2.sat k3 ve;exact⟨k4,v,r1,.inl ⟨v,x,H2,g2,rfl,r2,k2,r3⟩⟩
   cases x with
   |normal=>
    simp only[xm,Jf]at q1;subst q1;exact key k1
   |ret=>
    simp only[xm,Jf]at q1;subst q1;exact key k1
   |exit id=>
    simp only[xm,Jf]at q1;subst q1;exact k1.elim
   |panic ch=>
    obtain⟨v,rfl,rfl⟩:=D7 q1;exact⟨k4,.inr ⟨v,H2,g2,rfl,k1,k2⟩⟩
   |_=>simp[xm]at q1
end Go.AE
namespace Go.AE
variable {P:Program}{H:Heap}{e:Env}
def X.sq (P:Program)(b:SC)(Q:X→Env→Heap→Prop):X→Env→Heap→Prop:=X.next (Ac P b Q) Q
theorem Qb0n {KP:Value→Heap→Prop}{K:V→Heap→Prop}{x:C}:BE KP K (.c x) H=K (.c x) H:=rfl
theorem Yh {KP:Value→Heap→Prop}{K:V→Heap→Prop}{x:List C}:BE KP K (.ag x) H=K (.ag x) H:=rfl
theorem F7 {KP:Value→Heap→Prop}{K:V→Heap→Prop}{x:List V}:BE KP K (.tup x) H=K (.tup x) H:=rfl
theorem Qbsa {KP:Value→Heap→Prop}{K:V→Heap→Prop}:BE KP K .unk H=K .unk H:=rfl
theorem Yg {KP:Value→Heap→Prop}{K:V→Heap→Prop}{v:Value}:BE KP K (.pn v) H=KP v H:=rfl
theorem Qb2j {b:SC}{Q:X→Env→Heap→Prop}:X.sq P b Q .nrm e H=Ac P b Q e H:=rfl
theorem Qb2l {b:SC}{Q:X→Env→Heap→Prop}:X.sq P b Q .ret e H=Q .ret e H:=rfl
theorem Qb0h {b:SC}{Q:X→Env→Heap→Prop}{i:Nat}:X.sq P b Q (.exit i) e H=Q (.exit i) e H:=rfl
theorem Qb1o {i:Nat}{Q:X→Env→Heap→Prop}:X.inBlock i Q .nrm e H=Q .nrm e H:=rfl
theorem Qb1q {i:Nat}{Q:X→Env→Heap→Prop}:X.inBlock i Q .ret e H=Q .ret e H:=rfl
theorem Xh {i:Nat}{Q:X→Env→Heap→Prop}:X.inBlock i Q (.exit i) e H=Q .nrm e H:=by simp[X.inBlock]
theorem Qbto {i j:Nat}{Q:X→Env→Heap→Prop}(h:(j == i)=false):X.inBlock i Q (.exit j) e H=Q (.exit j) e H:=by
 have:j≠i:=ZI
 simp[X.inBlock,this]
theorem Qh {a b:SC}{Q:X→Env→Heap→Prop}(h:Ac P a (X.sq P b Q) e H):Ac P (.seq a b) Q e H:=h
theorem Qbpq {K K':Env→Heap→Prop}{Q:X→Env→Heap→Prop}:X.next K (X.next K' Q)=X.next K Q:=by
 funext x e H
 cases x <;> rfl
theorem Q1 {a b c:SC}{Q:X→Env→Heap→Prop}(h:Ac P (.seq a (.seq b c)) Q e H):Ac P (.seq (.seq a b) c) Q e H:=by
 simp only[Ac]at h⊢;rw[Qbpq];exact h
theorem Qp {its:List Item}{keep:List Nat}{Q:X→Env→Heap→Prop}(h:regT P its e H (X.panK Q) fun e' H'=>Q .nrm (trim keep e') H'):Ac P (.reg its keep) Q e H:=h
theorem Au {fa:Nat}{ord:List Nat}{its:List Item}{keep:List Nat}{Q:X→Env→Heap→Prop}(h:Bu P its e H (X.panK Q) fun e' H'=>Q .nrm (trim keep e') H'):Ac P (.aA fa ord its keep) Q e H:=h
theorem Qa {its:List Item}{keep:List Nat}{b:SC}{Q:X→Env→Heap→Prop}(h:regT P its e H (X.panK Q) fun e' H'=>Ac P b Q (trim keep e') H'):Ac P (.seq (.reg its keep) b) Q e H:=h
theorem Aj {fa:Nat}{ord:List Nat}{its:List Item}{keep:List Nat}{b:SC}{Q:X→Env→Heap→Prop}(h:Bu P its e H (X.panK Q) fun e' H'=>Ac P b Q (trim keep e') H'):Ac P (.seq (.aA fa ord its keep) b) Q e H:=h
theorem Qe {t:Opd}{a b:SC}{Q:X→Env→Heap→Prop}{c:Bool}(hc:t.raw e=.c (.bool c))(h1:c=true→Ac P a Q e H)(h2:c=false→Ac P b Q e H):Ac P (.cond t a b) Q e H:=⟨c,hc,h1,h2⟩
theorem Qd {i:Nat}{a:SC}{Q:X→Env→Heap→Prop}(h:Ac P a (X.inBlock i Q) e H):Ac P (.block i a) Q e H:=h
theorem Qu {i:Nat}{Q:X→Env→Heap→Prop}(h:Q (.exit i) e H):Ac P (.exit i) Q e H:=h
theorem Ql {Q:X→Env→Heap→Prop}(h:Q .ret e H):Ac P .ret Q e H:=h
theorem Qi {Q:X→Env→Heap→Prop}(h:Q .nrm e H):Ac P .skip Q e H:=h
theorem Qw {a:SC}{Q:X→Env→Heap→Prop}(I:Nat→Env→Heap→Prop)(n:Nat)(h0:I n e H)
  (h:∀n e1 H1,I n e1 H1→Ac P a (X.next (fun e2 H2=>∃m,m<n∧I m e2 H2) Q) e1 H1):Ac P (.loop a) Q e H:=⟨I,⟨n,h0⟩,h⟩
theorem Qbti {e:Env}:gdO e none=True:=rfl
theorem Qbth {e:Env}:gdB e none=true:=rfl
theorem Qbtj {p:Bool}{v:V}:gdV none p v=v:=rfl
theorem Qbtk {p:Bool}{v:V}{x:Nat×Bool}:gdV (some x) p v=.gd p v:=rfl
theorem Ya {e:Env}:trim [] e=[]:=rfl
theorem Qbsi {k:Nat}{ks:List Nat}{e:Env}:trim (k::ks) e=(k,lk k e)::trim ks e:=rfl
theorem Y8 {a:Prop}:(true=true→a)=a:=Zz
theorem Qbm9 {a:Prop}:(false=true→a)=True:=Zz
theorem Qbsk {a:Prop}:(true=false→a)=True:=Zz
theorem Qbiu {a:Prop}:(false=false→a)=a:=Zz
theorem Qb20 {a:Prop}:(a∧True)=a:=Zz
theorem Qb34 {a:Prop}:(True∧a)=a:=Zz
theorem Qb35 {a:Prop}:(True→a)=a:=Zz
theorem Qb3b {a:Prop}:(a→True)=True:=Zz
theorem b_f {b:Bool}:(b == false) = !b:=by cases b <;> rfl
theorem b_t {b:Bool}:(b == true)=b:=by cases b <;> rfl
theorem Qbtp {a:Prop}:(a→a)=True:=Zz
theorem Qbnl {a b:Prop}:(a→b→a)=True:=propext ⟨fun _=>trivial,fun _ h _=>h⟩
theorem Qbnm {a b:Prop}:(a→a∧b)=(a→b):=propext ⟨fun h x=>(h x).2,fun h x=>⟨x,h x⟩⟩
theorem Xg {a b:Prop}:(a→a→b)=(a→b):=Zz
theorem Qa9t {α:Type}{p:α→Prop}:(∀x∈([]:List α),p x)=True:=Zz
def CU (H:Heap)(p:C)(vs:List C)(K:V→Heap→Prop):Prop:=
 match p with
 |.ptr l k=>match H l with
  |.st cells=>k+vs.length≤cells.length∧∀H',H'=H.set l (.st (Dl cells k vs))→K .unk H'
  |_=>False
 |.ep (.af l sz st n) z i k=>match H l with
  |.vec y rows=>y=sz∧z=sz∧i<n∧st+n≤rows.length∧k+vs.length≤sz∧
    ∀H',H'=H.set l (.vec sz (rows.set (st+i) (Dl (rows.getD (st+i) []) k vs)))→K .unk H'
  |_=>False
 |_=>False
def appQ (H:Heap)(sz:Nat)(a b:C)(K:V→Heap→Prop):Prop:=
 bh H b∧b.aO=sz∧match a with
 |.sl true z rows=>z=sz∧(rows=[]∨rowsOf H b≠[])∧(∀r∈rows++rowsOf H b,ak r=true)∧rows.length+ay b≤LIM∧
   ∀l,H l=.none→∀H',H'=H.set l (.vec sz (rows++rowsOf H b))→K (.c (.af l sz 0 (rows.length+ay b))) H'
 |.af l z st n=>match H l with
  |.vec y rows=>z=sz∧y=sz∧st+n≤rows.length∧(∀r∈rowsOf H b,ak r=true)∧n+ay b≤LIM∧
    ∀l',(H.set l .none) l'=.none→∀H',H'=(H.set l .none).set l' (.vec sz ((rows.drop st).take n++rowsOf H b))→
     K (.c (.af l' sz 0 (n+ay b))) H'
  |_=>False
 |_=>False
def updQ (H:Heap)(tag:Nat)(m k:C)(v:V)(K:V→Heap→Prop):Prop:=
 match m with
 |.mp l=>match H l with
  |.map n es=>B3 tag k es∧es.length+1≤LIM∧∀H',H'=H.set l (.map (n+1) (updE k v es))→K .unk H'
  |_=>False
 |_=>False
def delQ (H:Heap)(tag:Nat)(m k:C)(K:V→Heap→Prop):Prop:=
 match m with
 |.mp l=>match H l with
  |.map n es=>B3 tag k es∧∀H',H'=H.set l (.map (n+1) (delE k es))→K .unk H'
  |_=>False
 |.mnil=>B3 tag k []∧K .unk H
 |_=>False
theorem BF {α:Type}{a:α}{p:α→Prop}:(∀x,x=a→p x)=p a:=propext ⟨fun h=>h a rfl,fun h x hx=>hx▸h⟩
section
variable {p:Bool}{K:V→Heap→Prop}
theorem Qbsc {a:C}{vs:List C}:BQ H a vs K=CU H a vs K:=by
 cases a with
 |ptr l k=>simp only[BQ,CU];cases hh:H l <;> simp only[hh,BF]
 |ep s z i k=>
  cases s with
  |af l sz st n=>simp only[BQ,CU];cases hh:H l <;> simp only[hh,BF]
  |_=>rfl
 |_=>rfl
theorem XJ {sz:Nat}{a b:C}:appT H sz a b K=appQ H sz a b K:=by
 unfold appT appQ;refine congrArg (And _) (congrArg (And _) ?_)
 cases a with
 |sl fl z rows=>cases fl <;> simp only[BF]
 |af l z st n=>simp only[];cases hh:H l <;> simp only[hh,BF]
 |_=>rfl
theorem Qb0w {tag:Nat}{m k:C}{v:V}:updT H tag m k v K=updQ H tag m k v K:=by
 cases m with
 |mp l=>simp only[updT,updQ];cases hh:H l <;> simp only[hh,BF]
 |_=>rfl
theorem X5 {tag:Nat}{m k:C}:delT H tag m k K=delQ H tag m k K:=by
 cases m with
 |mp l=>simp only[delT,delQ];cases hh:H l <;> simp only[hh,BF]
 |_=>rfl
theorem Qbm5 {cells:List C}:(EOp.alloc cells).eff P p e H K=∀l,H l=.none→∀H',H'=H.set l (.st cells)→K (.c (.ptr l 0)) H':=Zaf
theorem Qbs3 {a:Opd}:(EOp.boxm a).eff P p e H K=(a.fine p e∧(a.v e).cells≠[]∧∀l,H l=.none→∀H',H'=H.set l (.st (a.v e).cells)→K (.c (.ptr l 0)) H'):=Zaf
theorem Xo {n:Nat}{a v:Opd}:(EOp.sto n a v).eff P p e H K=(a.fine p e∧v.fine p e∧(a.v e).isC∧(v.v e).cells.length=n∧0<n∧CU H (a.v e).c1 (v.v e).cells K):=by simp only[EOp.eff,Qbsc]
theorem Xx {sz:Nat}{a b:Opd}:(EOp.app sz a b).eff P p e H K=(a.fine p e∧b.fine p e∧(a.v e).isC∧(b.v e).isC∧appQ H sz (a.v e).c1 (b.v e).c1 K):=by simp only[EOp.eff,XJ]
theorem Xr {sz:Nat}{zero:List C}{n:Opd}:(EOp.mks sz zero n).eff P p e H K=(n.fine p e∧BG (n.v e)∧0≤Ag (n.v e)∧Ag (n.v e)≤LIM∧
   ∀l,H l=.none→∀H',H'=H.set l (.vec sz (List.replicate (Ag (n.v e)).toNat zero))→K (.c (.af l sz 0 (Ag (n.v e)).toNat)) H'):=Zaf
theorem Xt:EOp.mkm.eff P p e H K=∀l,H l=.none→∀H',H'=H.set l (.map 0 [])→K (.c (.mp l)) H':=Zaf
theorem Xn {tag:Nat}{m k v:Opd}:(EOp.upd tag m k v).eff P p e H K=(m.fine p e∧k.fine p e∧v.fine p e∧(m.v e).isC∧(k.v e).isC∧(v.v e).cells≠[]∧updQ H tag (m.v e).c1 (k.v e).c1 (v.v e) K):=by simp only[EOp.eff,Qb0w]
theorem Xv {tag:Nat}{m k:Opd}:(EOp.del tag m k).eff P p e H K=(m.fine p e∧k.fine p e∧(m.v e).isC∧(k.v e).isC∧delQ H tag (m.v e).c1 (k.v e).c1 K):=by simp only[EOp.eff,X5]
theorem Qbs6 {m:Opd}:(EOp.clrm m).eff P p e H K=(m.fine p e∧match m.v e with
  |.c (.mp l)=>match H l with
   |.map n _=>∀H',H'=H.set l (.map (n+1) [])→K .unk H'
   |_=>False
  |_=>False):=by
 simp only[EOp.eff];refine congrArg (And _) ?_
 cases m.v e with
 |c x=>cases x with
  |mp l=>simp only[];cases hh:H l <;> simp only[hh,BF]
  |_=>rfl
 |_=>rfl
theorem Qbs7 {sz:Nat}{zero:List C}{m:Opd}:(EOp.clrs sz zero m).eff P p e H K=(m.fine p e∧match m.v e with
  |.c (.af l z st n)=>z=sz∧match H l with
   |.vec y rows=>y=sz∧st+n≤rows.length∧∀H',H'=H.set l (.vec sz (rows.take st++List.replicate n zero++rows.drop (st+n)))→K .unk H'
   |_=>False
  |_=>False):=by
 simp only[EOp.eff];refine congrArg (And _) ?_
 cases m.v e with
 |c x=>cases x with
  |af l z st n=>simp only[];refine congrArg (And _) ?_;cases hh:H l <;> simp only[hh,BF]
  |_=>rfl
 |_=>rfl
theorem Qbs5 {f:Nat}{args:List Opd}:(EOp.call f args).eff P p e H K=((∀x∈args,x.fine p e)∧Qs P f (args.map fun x=>x.v e) H K):=rfl
theorem Qbm6 {f:Opd}{args:List Opd}:(EOp.ba f args).eff P p e H K=(f.fine p e∧(∀x∈args,x.fine p e)∧match f.v e with
  |.c (.fn n caps)=>Qs P n ((args.map fun x=>x.v e)++caps.map .c) H K
  |_=>False):=rfl
theorem Xp {m:Opd}:(EOp.rng m).eff P p e H K=(m.fine p e∧match m.v e with
  |.c (.mp l)=>match H l with
   |.map n es=>es.Nodup∧∀i,H i=.none→∀H',H'=H.set i (.iter (some (l,n)) es none)→K (.c (.itr i)) H'
   |_=>False
  |.c .mnil=>∀i,H i=.none→∀H',H'=H.set i (.iter none [] none)→K (.c (.itr i)) H'
  |_=>False):=by
 simp only[EOp.eff];refine congrArg (And _) ?_
 cases m.v e with
 |c x=>cases x with
  |mp l=>simp only[];cases hh:H l <;> simp only[hh,BF]
  |mnil=>simp only[BF]
  |_=>rfl
 |_=>rfl
theorem Xq {it:Opd}:(EOp.nxt it).eff P p e H K=(it.fine p e∧match it.v e with
  |.c (.itr i)=>match H i with
   |.iter none left _=>K (.tup [.c (.bool false)]) H
   |.iter (some (l,n)) left cur=>(∃es,H l=.map n es)∧(left=[]→K (.tup [.c (.bool false)]) H)∧
     ∀x left',x∈left→(∀y,y∈left'↔y∈left∧y≠x)→left'.Nodup→left'.length+1=left.length→
      ∀H',H'=H.set i (.iter (some (l,n)) left' (some x))→K (.tup [.c (.bool true),.c x.1,x.2]) H'
   |_=>False
  |_=>False):=by
 simp only[EOp.eff];refine congrArg (And _) ?_
 cases it.v e with
 |c x=>cases x with
  |itr i=>
   simp only[]
   cases hh:H i with
   |iter m left cur=>cases m with
    |none=>rfl
    |some y=>simp only[BF]
   |_=>rfl
  |_=>rfl
 |_=>rfl
theorem Xu {it:Opd}:(EOp.ent it).eff P p e H K=(it.fine p e∧match it.v e with
  |.c (.itr i)=>match H i with
   |.iter (some (l,n)) left (some x)=>(∃es,H l=.map n es)∧K (.tup [.c x.1,x.2]) H
   |_=>False
  |_=>False):=rfl
def cpyQ (H:Heap)(sz:Nat)(a b:C)(K:V→Heap→Prop):Prop:=
 bh H b∧b.aO=sz∧match a with
 |.af l z st n=>match H l with
  |.vec y rows=>z=sz∧y=sz∧st+n≤rows.length∧ay b≤n∧(∀r∈rowsOf H b,ak r=true)∧
    ∀H',H'=H.set l (.vec sz (rows.take st++rowsOf H b++rows.drop (st+ay b)))→K (.c (.int .i64 (ay b))) H'
  |_=>False
 |_=>False
theorem XQ {sz:Nat}{a b:C}:cpyT H sz a b K=cpyQ H sz a b K:=by
 unfold cpyT cpyQ;refine congrArg (And _) (congrArg (And _) ?_)
 cases a with
 |af l z st n=>simp only[];cases hh:H l <;> simp only[hh,BF]
 |_=>rfl
theorem Xw {sz:Nat}{a b:Opd}:(EOp.cpy sz a b).eff P p e H K=(a.fine p e∧b.fine p e∧(a.v e).isC∧(b.v e).isC∧cpyQ H sz (a.v e).c1 (b.v e).c1 K):=by simp only[EOp.eff,XQ]
theorem Qbs4 {sz:Nat}{parts:List Opd}:(EOp.bslm sz parts).eff P p e H K=((∀x∈parts,x.fine p e∧(x.v e).cells.length=sz)∧∀l,H l=.none→∀H',H'=H.set l (.vec sz (parts.map fun x=>(x.v e).cells))→K (.c (.af l sz 0 parts.length)) H'):=Zaf
theorem Qbs8 {a:Opd}:(EOp.nilq a).eff P p e H K=(a.fine p e∧match a.v e with
  |.c (.sl _ _ rows)=>∀b:Bool,(b=true→rows=[])→K (.c (.bool b)) H
  |_=>False):=rfl
end
theorem Qbtu {k:IntKind}{n:Int}:(C.int k n).ah=false:=rfl
theorem Qbnq {b:Bool}:(C.bool b).ah=false:=rfl
theorem Qbtx {s:List UInt8}:(C.str s).ah=false:=rfl
theorem X9 {f:Bool}{sz:Nat}{r:List (List C)}:(C.sl f sz r).ah=false:=rfl
theorem XA {c:List C}:(C.pp c).ah=false:=rfl
theorem XF {c:C}{a i k:Nat}:(C.ep c a i k).ah=false:=rfl
theorem Qbnt:C.pnil.ah=false:=rfl
theorem Qbtw {l k:Nat}:(C.ptr l k).ah=false:=rfl
theorem Eb {l a b c:Nat}:(C.af l a b c).ah=false:=rfl
theorem XD {l:Nat}:(C.mp l).ah=false:=rfl
theorem Qbns:C.mnil.ah=false:=rfl
theorem XE {f:Nat}{c:List C}:(C.fn f c).ah=false:=rfl
theorem Qbnr:C.fnil.ah=false:=rfl
theorem Qbtv {l:Nat}:(C.itr l).ah=false:=rfl
theorem Qbty:C.unk.ah=false:=rfl
theorem XB {sz:Nat}{r:List (List C)}:(C.ow sz r).ah=true:=rfl
theorem VR {f:Bool}{sz:Nat}{r:List (List C)}:ay (.sl f sz r)=r.length:=rfl
theorem Qbud {l a b c:Nat}:ay (.af l a b c)=c:=rfl
theorem Qbm7 {f:Bool}{sz:Nat}{r:List (List C)}:(C.sl f sz r).aO=sz:=rfl
theorem Qbis {l a b c:Nat}:(C.af l a b c).aO=a:=rfl
theorem Qbp8 {f:Bool}{sz:Nat}{r:List (List C)}:rowsOf H (.sl f sz r)=r:=rfl
theorem Qbjw {l a st n:Nat}:rowsOf H (.af l a st n)=match H l with
  |.vec _ rows=>(rows.drop st).take n
  |_=>[]:=rfl
theorem VC {f:Bool}{sz:Nat}{r:List (List C)}:bh H (.sl f sz r)=True:=rfl
theorem Qbu5 {l sz st n:Nat}:bh H (.af l sz st n)=match H l with
  |.vec z rows=>z=sz∧st+n≤rows.length
  |_=>False:=rfl
section
variable {K:V→Heap→Prop}
theorem XI {sz z:Nat}{rows:List (List C)}{b:C}:appQ H sz (.sl true z rows) b K=(bh H b∧b.aO=sz∧z=sz∧(rows=[]∨rowsOf H b≠[])∧(∀r∈rows++rowsOf H b,ak r=true)∧rows.length+ay b≤LIM∧
   ∀l,H l=.none→∀H',H'=H.set l (.vec sz (rows++rowsOf H b))→K (.c (.af l sz 0 (rows.length+ay b))) H'):=rfl
theorem Qbst {sz l z st n:Nat}{b:C}:appQ H sz (.af l z st n) b K=(bh H b∧b.aO=sz∧match H l with
  |.vec y rows=>z=sz∧y=sz∧st+n≤rows.length∧(∀r∈rowsOf H b,ak r=true)∧n+ay b≤LIM∧
    ∀l',(H.set l .none) l'=.none→∀H',H'=(H.set l .none).set l' (.vec sz ((rows.drop st).take n++rowsOf H b))→
     K (.c (.af l' sz 0 (n+ay b))) H'
  |_=>False):=rfl
end
theorem Qb0g {lo hi:Option Int}{fl:Bool}{sz:Nat}{rows:List (List C)}:sliC lo hi (.sl fl sz rows)=.sl (fl&&(hi.isNone || rows.isEmpty)) sz ((rows.take (hi.getD rows.length).toNat).drop (lo.getD 0).toNat):=rfl
theorem Yk {lo hi:Option Int}{l sz st n:Nat}:sliC lo hi (.af l sz st n)=.af l sz (st+(lo.getD 0).toNat) ((hi.getD n).toNat-(lo.getD 0).toNat):=rfl
attribute [go_sem] Xw cpyQ Qb0n Yh F7 Qbsa Yg b_f b_t Qbtp Qbnl Qbnm Xg regT Bu putE lk Qbti Qbth Qbtj Qbtk gdO gdB Opd.v Opd.raw Opd.fine V.bare V.fine FOp.val FOp.obl FOp.fct Qbm5 Qbs3 Xo Xx Xr Xt Xn Xv Qbs6 Qbs7 Qbs5 Qbm6 Xp Xq Xu Qbs8 Qbs4 Ya Qbsi
 V.c1 V.isC V.isAg V.cells BY Co fadC binC binO Cq ak CU XI Qbst updQ delQ zipE Rq Qb0g Yk bnds VC Qbu5 VR Qbud Qbp8 Qbjw Qbm7 Qbis Qbtu Qbnq Qbtx X9 XA XF Qbnt Qbtw Eb XD Qbns XE Qbnr Qbtv Qbty XB BG Dz Ag Dw Y8 Qbm9 Qbsk Qbiu Qb20 Qb34 Qb35 Qb3b
 Qb2j Qb2l Qb0h Qb1o Qb1q Xh Jr J5 Dl List.take_succ_cons List.take_zero List.take_nil List.drop_succ_cons Jab List.drop_nil
 List.length_cons Jak J0 J4 List.headD_cons Bool.not_false Bool.not_true Bool.and_true Jau Bool.and_false Bool.false_and and_self eq_self Bool.false_eq_true Jx Jp Jaw Jat not_true_eq_false not_false_eq_true ite_true ite_false ne_eq Option.map_some Option.map_none Option.getD_some Option.getD_none Option.isNone_some Option.isNone_none List.isEmpty_nil List.isEmpty_cons Bool.or_true Bool.true_or Bool.or_false Bool.false_or optI optF Int.toNat_natCast Int.natCast_nonneg Int.add_sub_cancel List.forall_mem_cons Qa9t
end Go.AE
namespace Go.AE
abbrev fI (d : Nat) (o : FOp) : Item := .f (some d) none o
abbrev eI (d : Nat) (o : EOp) : Item := .e (some d) none o
abbrev gT (d t : Nat) (o : FOp) : Item := .f (some d) (some (t, true)) o
abbrev gF (d t : Nat) (o : FOp) : Item := .f (some d) (some (t, false)) o
abbrev kI (n : Int) : Opd := .k (.c (.int .i64 n))
abbrev mJ (d a : Nat) : Item := .f (some d) none (.mv (.t a))
abbrev fJ (d n a : Nat) : Item := .f (some d) none (.fad n (.t a))
abbrev lJ (d a : Nat) : Item := .f (some d) none (.ld 1 false (.t a))
abbrev tJ (d n a : Nat) : Item := .f (some d) none (.ld n true (.t a))
abbrev nJ (d a : Nat) : Item := .f (some d) none (.len (.t a))
abbrev kJ (d a : Nat) : Item := .f (some d) none (.nck (.t a))
abbrev oJ (d a : Nat) : Item := .f (some d) none (.not (.t a))
abbrev iJ (d n a b : Nat) : Item := .f (some d) none (.iad n (.t a) (.t b))
abbrev bJ (d : Nat) (o : BinOp) (a b : Nat) : Item := .f (some d) none (.bin 0 o (.t a) (.t b))
abbrev cJ (d : Nat) (o : BinOp) (a : Nat) (n : Int) : Item := .f (some d) none (.bin 0 o (.t a) (.k (.c (.int .i64 n))))
abbrev gTm (d g a : Nat) : Item := .f (some d) (some (g, true)) (.mv (.t a))
abbrev gFm (d g a : Nat) : Item := .f (some d) (some (g, false)) (.mv (.t a))
abbrev gTf (d g n a : Nat) : Item := .f (some d) (some (g, true)) (.fad n (.t a))
abbrev gFf (d g n a : Nat) : Item := .f (some d) (some (g, false)) (.fad n (.t a))
abbrev gTl (d g a : Nat) : Item := .f (some d) (some (g, true)) (.ld 1 false (.t a))
abbrev gFl (d g a : Nat) : Item := .f (some d) (some (g, false)) (.ld 1 false (.t a))
abbrev aJ (d f : Nat) (l : List Opd) : Item := .e (some d) none (.call f l)
abbrev sJ (k a b : Nat) : Item := .e none none (.sto k (.t a) (.t b))
abbrev fB (d : Nat) (b : Bool) : Item := .f (some d) none (.mv (.k (.c (.bool b))))
abbrev zJ (d : Nat) (n : Int) : Item := .f (some d) none (.mv (.k (.c (.int .i64 n))))
abbrev hJ (d a : Nat) : Item := .chk d none (.ld 1 false (.t a))
abbrev pT (d a b : Nat) : Item := .f (some d) none (.pick (.t a) (.k (.c (.bool true))) (.t b))
abbrev pF (d a b : Nat) : Item := .f (some d) none (.pick (.t a) (.t b) (.k (.c (.bool false))))
abbrev xJ (d k a b : Nat) : Item := .e (some d) none (.app k (.t a) (.t b))
abbrev vJ (d a : Nat) : Item := .f (some d) none (.box (.t a))
abbrev sR (l : List Item) (k : List Nat) (n : SC) : SC := .seq (.reg l k) n
abbrev cX (t i : Nat) (n : SC) : SC := .seq (.cond (.t t) .skip (.exit i)) n
abbrev bL (i : Nat) (l : SC) : SC := .block i (.loop l)
abbrev cT (t : Nat) (a b : SC) : SC := .cond (.t t) a b
theorem Qb2r : Int.toNat 0 = 0 := rfl
theorem Qb2s : Int.toNat 1 = 1 := rfl
theorem Qb0p : Int.toNat 2000 = 2000 := rfl
attribute [go_sem] sJ fB zJ hJ pT pF xJ vJ mJ fJ lJ tJ nJ kJ oJ iJ bJ cJ gTm gFm gTf gFf gTl gFl aJ fI eI gT gF kI false_implies Qb2r Qb2s Qb0p
variable {P:Program}{H:Heap}{g:G}{w:World}{e:Env}
def Obj.used:Obj→Bool
 |.none=>false
 |_=>true
def Heap.frz (H:Heap)(S:Nat→Bool):Heap:=fun l=>if S l then .none else H l
def G.frz (g:G)(H:Heap)(S:Nat→Bool):G:=
 { g with
  per:=fun b=>g.per b || (match g.own b with
   |some (l,_)=>S l&&(H l).used
   |none=>false)
  own:=fun b=>match g.own b with
   |some (l,p)=>if S l&&(H l).used then none else some (l,p)
   |none=>none }
theorem Ij (H:Heap)(S:Nat→Bool)(g:G)(w:World):Le g w (g.frz H S) w:=
 ⟨fun b h=>⟨by simp[G.frz,h],rfl⟩,fun _ _ h=>h,Jat _,fun _ _ _ h=>h,rfl,rfl,rfl⟩
theorem Hr {S:Nat→Bool}{m:Nat}(hm:¬(S m=true∧(H m).used=true)):C0 g w (g.frz H S) w m:=by
 intro b q hb;refine⟨?_,rfl⟩;have:¬(S m&&(H m).used)=true:=by simpa using hm
 simp only[G.frz,hb];rw[if_neg this]
theorem DE (hs:Sat H g w)(S:Nat→Bool):Stp H g w (H.frz S) (g.frz H S) w:=by
 have aU:=Ij H S g w;refine⟨aU,fun m hm hn=>?_,⟨fun b hb=>?_,hs.names,fun b x hb=>?_,fun b m p hb=>?_,fun m=>?_⟩⟩
 ·refine⟨by simp only[Heap.frz,hn];split <;> rfl,?_⟩;exact Hr (by rw[hn];simp[Obj.used])
 ·obtain⟨h1,h2⟩:=hs.fresh b hb;simp[G.frz,h1,h2]
 ·have aZ:(match g.own b with
   |some (l,p)=>if S l&&(H l).used then none else some (l,p)
   |none=>none)=some x:=hb
  show (g.per b || (match g.own b with
   |some (l,_)=>S l&&(H l).used
   |none=>false))=false
  cases ho:g.own b with
  |none=>rw[ho]at aZ;simp at aZ
  |some y=>
   obtain⟨l,p⟩:=y;rw[ho]at aZ;simp only at aZ⊢;have:=hs.excl b _ ho;by_cases hx:(S l&&(H l).used)=true
   ·rw[if_pos hx]at aZ;simp at aZ
   ·simp[this,hx]
 ·have aZ:(match g.own b with
   |some (l,p)=>if S l&&(H l).used then none else some (l,p)
   |none=>none)=some (m,p):=hb
  cases ho:g.own b with
  |none=>rw[ho]at aZ;simp at aZ
  |some y=>
   obtain⟨l,q⟩:=y;rw[ho]at aZ;simp only at aZ;by_cases hx:(S l&&(H l).used)=true
   ·rw[if_pos hx]at aZ;simp at aZ
   ·rw[if_neg hx]at aZ;simp at aZ;obtain⟨rfl,rfl⟩:=aZ;exact hs.named b _ _ ho
 ·by_cases hS:S m=true
  ·simp[Heap.frz,hS,SatObj]
  ·have dx:H.frz S m=H m:=by simp[Heap.frz,hS]
   have hk:C0 g w (g.frz H S) w m:=Hr (by simp[hS]);refine SatObj.keep (H':=H.frz S) hs aU hk dx fun m' v left cur hc v' es hv=>?_;by_cases mB:S m'=true
   ·simp[Heap.frz,mB]at hv
   ·have:H.frz S m'=H m':=(by simp[Heap.frz,mB]);rw[this]at hv;exact .inl ⟨hv,Hr (by simp[mB])⟩
inductive FrzC (H:Heap)(S:Nat→Bool):C→C→Prop
 |same (c:C) (h:c.ah=false):FrzC H S c c
 |sl (fl:Bool) (sz:Nat) (rows rows':List (List C)) (hl:rows'.length=rows.length) (hr:∀(i:Nat) (r r':List C),rows[i]? = some r→rows'[i]? = some r'→r'.length=r.length)
   (hc:∀(i:Nat) (r r':List C) (j:Nat) (c c':C),rows[i]? = some r→rows'[i]? = some r'→r[j]? = some c→r'[j]? = some c'→FrzC H S c c'):FrzC H S (.sl fl sz rows) (.sl false sz rows')
 |pp (cells cells':List C) (hl:cells'.length=cells.length) (hc:∀(j:Nat) (c c':C),cells[j]? = some c→cells'[j]? = some c'→FrzC H S c c'):FrzC H S (.pp cells) (.pp cells')
 |af (l sz st n:Nat) (all rows rows':List (List C)) (hS:S l=true) (hH:H l=.vec sz all) (hb:st+n≤all.length) (bT:rows=(all.drop st).take n)
   (hl:rows'.length=rows.length) (hr:∀(i:Nat) (r r':List C),rows[i]? = some r→rows'[i]? = some r'→r'.length=r.length)
   (hc:∀(i:Nat) (r r':List C) (j:Nat) (c c':C),rows[i]? = some r→rows'[i]? = some r'→r[j]? = some c→r'[j]? = some c'→FrzC H S c c'):FrzC H S (.af l sz st n) (.sl false sz rows')
 |ptr (l k:Nat) (all cells cells':List C) (hS:S l=true) (hH:H l=.st all) (kP:cells=all.drop k) (hl:cells'.length=cells.length)
   (hc:∀(j:Nat) (c c':C),cells[j]? = some c→cells'[j]? = some c'→FrzC H S c c'):FrzC H S (.ptr l k) (.pp cells')
 |ow (sz:Nat) (rows rows':List (List C)) (hl:rows'.length=rows.length) (hr:∀(i:Nat) (r r':List C),rows[i]? = some r→rows'[i]? = some r'→r'.length=r.length)
   (hc:∀(i:Nat) (r r':List C) (j:Nat) (c c':C),rows[i]? = some r→rows'[i]? = some r'→r[j]? = some c→r'[j]? = some c'→FrzC H S c c'):FrzC H S (.ow sz rows) (.sl false sz rows')
theorem AG {α:Type}{l l':List α}(h:l'.length=l.length){i:Nat}{x:α}(hx:l'[i]? = some x):∃y,l[i]? = some y:=by
 have:i<l'.length:=(Jt.1 hx).1;exact⟨l[i]'Zx,Jv Zx⟩
theorem G0 {S:Nat→Bool}{b l:Nat}{p:List Nat}(ho:g.own b=some (l,p))(hS:S l=true)(hu:(H l).used=true):(g.frz H S).per b=true:=by
 simp[G.frz,ho,hS,hu]
theorem Gz (hs:Sat H g w){S:Nat→Bool}{c c':C}(h:FrzC H S c c') :
  (∀v,RepC w g c v→RepC w (g.frz H S) c' v)∧∀l p v,S l=true→(H l).used=true→RepO w g l p c v→RepC w (g.frz H S) c' v:=by
 have aU:=Ij H S g w
 induction h with
 |same c h=>
  refine⟨fun v hv=>hv.mono aU,fun l p v _ _ hv=>?_⟩;exact (hv.plain_of fun sz rows hc=>by subst hc;simp[C.ah]at h).mono aU
 |sl fl sz rows rows' hl hr hc ih=>
  have key:∀v,RepC w g (.sl fl sz rows) v→RepC w (g.frz H S) (.sl false sz rows') v:=by
   intro v hv
   cases hv with
   |bP _ _ ad=>
    have:rows'=[]:=Jw.1 Zaa;subst this;exact .bP _ _ _
   |sl _ _ _ b off cap val h1 h2 h3 h4 h5 h6 h7=>
    rw[←hl]at h1 h2 h3⊢;refine .sl false sz rows' b off cap val h1 Zz h3 (aU.per b h4).1 (fun i r' be=>?_) (fun i r' j c' be cz=>?_) (fun i r' j c' be cz=>?_)
    ·obtain⟨r,bM⟩:=AG hl be;rw[hr i r r' bM be];exact h5 i r bM
    ·obtain⟨r,bM⟩:=AG hl be;obtain⟨c,cR⟩:=AG (hr i r r' bM be) cz;exact h6 i r j c bM cR
    ·obtain⟨r,bM⟩:=AG hl be;obtain⟨c,cR⟩:=AG (hr i r r' bM be) cz;exact (ih i r r' j c c' bM be cR cz).1 _ (h7 i r j c bM cR)
  exact⟨key,fun l p v _ _ hv=>key v (hv.plain_of fun _ _ hc=>Zbc)⟩
 |pp cells cells' hl hc ih=>
  have key:∀v,RepC w g (.pp cells) v→RepC w (g.frz H S) (.pp cells') v:=by
   intro v hv
   cases hv with
   |pp _ b off val h1 h2 h3=>
    refine .pp cells' b off val (aU.per b h1).1 (fun j c' cz=>?_) (fun j c' cz=>?_)
    ·obtain⟨c,cR⟩:=AG hl cz;exact h2 j c cR
    ·obtain⟨c,cR⟩:=AG hl cz;exact (ih j c c' cR cz).1 _ (h3 j c cR)
  exact⟨key,fun l p v _ _ hv=>key v (hv.plain_of fun _ _ hc=>Zbc)⟩
 |af l sz st n all rows rows' hS hH hb bT hl hr hc ih=>
  have key:∀v,RepC w g (.af l sz st n) v→RepC w (g.frz H S) (.sl false sz rows') v:=by
   intro v hv;have am:rows.length=n:=by rw[bT];simp;omega
   cases hv with
   |bS _ _ _ ad=>
    have:rows'=[]:=Jw.1 Zx;subst this;exact .bP _ _ _
   |af _ _ _ _ cap b base T m h1 h2 h3 h4=>
    have bn:=hs.objs l;rw[hH]at bn;obtain⟨b',base',T',cs,val,r1,r2,r3,r4,r5,r6,r7,r8⟩:=SatVec.of bn h1;rw[h1]at r1;simp only[Jf,Jav,true_and]at r1;obtain⟨rfl,rfl⟩:=r1;have cW:=G0 (g:=g) (H:=H) r2 hS Zbd;have bE:∀(i:Nat) (r:List C),rows[i]? = some r→all[st+i]? = some r:=by
     intro i r hi;rw[bT,List.getElem?_take]at hi;split at hi
     ·rw[Jan]at hi;exact hi
     ·simp at hi
    have hn:n=rows'.length:=Zx;rw[hn]at h2⊢;refine .sl false sz rows' b (base+st * sz) cap (fun i j=>val (st+i) j) Zx Zz h2 cW (fun i r' be=>?_) (fun i r' j c' be cz=>?_) (fun i r' j c' be cz=>?_)
    ·obtain⟨r,bM⟩:=AG hl be;rw[hr i r r' bM be];exact r6 _ r (bE i r bM)
    ·obtain⟨r,bM⟩:=AG hl be;obtain⟨c,cR⟩:=AG (hr i r r' bM be) cz;rw[Dt r3,show base+st * sz+i * sz+j=base+(st+i) * sz+j by rw[Nat.add_mul];omega];exact r7 _ r j c (bE i r bM) cR
    ·obtain⟨r,bM⟩:=AG hl be;obtain⟨c,cR⟩:=AG (hr i r r' bM be) cz;exact (ih i r r' j c c' bM be cR cz).2 l _ _ hS Zbd (r8 _ r j c (bE i r bM) cR)
  exact⟨key,fun l p v _ _ hv=>key v (hv.plain_of fun _ _ hc=>Zbc)⟩
 |ptr l k all cells cells' hS hH kP hl hc ih=>
  have key:∀v,RepC w g (.ptr l k) v→RepC w (g.frz H S) (.pp cells') v:=by
   intro v hv
   cases hv with
   |ptr _ _ b sz base h1=>
    have bn:=hs.objs l;rw[hH]at bn;obtain⟨b',sz',T,cs,r1,r2,r3,r4,r5⟩:=bn;rw[h1]at r1;simp only[Jf,Jav]at r1;obtain⟨rfl,rfl,rfl⟩:=r1;have cW:=G0 (g:=g) (H:=H) r2 hS Zbd;have bE:∀(j:Nat) (c:C),cells[j]? = some c→all[k+j]? = some c:=by
     intro j c hj;rw[kP,Jan]at hj;exact hj
    have jE:∀(j:Nat) (c:C),all[j]? = some c→cs[j]? = some (cs.getD j undef):=by
     intro j c hj;have ae:j<cs.size:=(by rw[r4];exact (Jt.1 hj).1);rw[Jq ae,Jh,Jq ae];rfl
    refine .pp cells' b (0+k) (fun j=>cs.getD (k+j) undef) cW (fun j c' cz=>?_) (fun j c' cz=>?_)
    ·obtain⟨c,cR⟩:=AG hl cz;rw[Dt r3,show 0+k+j=k+j by omega];exact jE _ c (bE j c cR)
    ·obtain⟨c,cR⟩:=AG hl cz;exact (ih j c c' cR cz).2 l _ _ hS Zbd (r5 _ c _ (bE j c cR) (jE _ c (bE j c cR)))
  exact⟨key,fun l p v _ _ hv=>key v (hv.plain_of fun _ _ hc=>Zbc)⟩
 |ow sz rows rows' hl hr hc ih=>
  refine⟨fun v hv=>(by cases hv),fun l p v hS hu hv=>?_⟩
  cases hv with
  |plain _ _ _ h=>cases h
  |ownil _ _ ad=>
   have:rows'=[]:=Jw.1 Zaa;subst this;exact .bP _ _ _
  |ow _ _ _ b off cap T cs val h1 h2 h3 h4 h5 h6 h7 h8=>
   have cW:=G0 (g:=g) (H:=H) h3 hS hu;rw[←hl]at h1 h2⊢;refine .sl false sz rows' b off cap val h1 Zz h2 cW (fun i r' be=>?_) (fun i r' j c' be cz=>?_) (fun i r' j c' be cz=>?_)
   ·obtain⟨r,bM⟩:=AG hl be;rw[hr i r r' bM be];exact h6 i r bM
   ·obtain⟨r,bM⟩:=AG hl be;obtain⟨c,cR⟩:=AG (hr i r r' bM be) cz;rw[Dt h4];exact h7 i r j c bM cR
   ·obtain⟨r,bM⟩:=AG hl be;obtain⟨c,cR⟩:=AG (hr i r r' bM be) cz;exact (ih i r r' j c c' bM be cR cz).2 l _ _ hS hu (h8 i r j c bM cR)
inductive FrzV (H:Heap)(S:Nat→Bool):V→V→Prop
 |c (a b:C) (h:FrzC H S a b):FrzV H S (.c a) (.c b)
 |ag (cs cs':List C) (hl:cs'.length=cs.length) (h:∀(j:Nat) (c c':C),cs[j]? = some c→cs'[j]? = some c'→FrzC H S c c'):FrzV H S (.ag cs) (.ag cs')
 |tup (xs xs':List V) (hl:xs'.length=xs.length) (h:∀(j:Nat) (x x':V),xs[j]? = some x→xs'[j]? = some x'→FrzV H S x x'):FrzV H S (.tup xs) (.tup xs')
 |unk (x:V):FrzV H S x .unk
theorem DS (hs:Sat H g w){S:Nat→Bool}{x x':V}(h:FrzV H S x x'):∀v,RepV w g x v→RepV w (g.frz H S) x' v:=by
 induction h with
 |c a b h=>
  intro v hv;exact .c _ _ ((Gz hs h).1 v hv.aR)
 |ag cs cs' hl h=>
  intro v hv
  cases hv with
  |ag _ vs h1 h2=>
   refine .ag cs' vs Zx fun j c' u cz hu=>?_;obtain⟨c,hc⟩:=AG hl cz;exact (Gz hs (h j c c' hc cz)).1 u (h2 j c u hc hu)
 |tup xs xs' hl h ih=>
  intro v hv
  cases hv with
  |tup _ vs h1 h2=>
   refine .tup xs' vs Zx fun j x' u fN hu=>?_;obtain⟨x,hx⟩:=AG hl fN;exact ih j x x' hx fN u (h2 j x u hx hu)
 |unk x=>exact fun v _=>.unk v
abbrev frzK (K:V→Heap→Prop):V→Heap→Prop
 |.pn v,H'=>∃S,K (.pn v) (H'.frz S)
 |x,H'=>∃S x',FrzV H' S x x'∧K x' (H'.frz S)
theorem Qbtg {K:V→Heap→Prop}{x:V}{v:Value}(h:frzK K x H)(hr:RepV w g x v):∃S x',FrzV H S x x'∧K x' (H.frz S):=by
 cases hr <;> exact h
theorem Qbmk {f:Nat}{args:List V}{K:V→Heap→Prop}(h:Qs P f args H (frzK K)):Qs P f args H K:=by
 refine⟨h.1,fun g w vs hs hl hv=>?_⟩;refine Calls.mono (h.2 g w vs hs hl hv) ?_;rintro e w' (⟨v,x,H',g',he,hx,aL,hr⟩|⟨v,H',g',he,hx,aL⟩)
 ·obtain⟨S,x',hf,hk⟩:=Qbtg hx hr;exact .inl ⟨v,x',H'.frz S,g'.frz H' S,he,hk,aL.trans (DE aL.sat S),DS aL.sat hf v hr⟩
 ·obtain⟨S,hk⟩:∃S,K (.pn v) (H'.frz S):=hx;exact .inr ⟨v,H'.frz S,g'.frz H' S,he,hk,aL.trans (DE aL.sat S)⟩
theorem Qbia {f:Nat}{args:List V}{K K':V→Heap→Prop}(h:Qs P f args H K)(hk:∀x H',K x H'→K' x H'):Qs P f args H K':=by
 refine⟨h.1,fun g w vs hs hl hv=>?_⟩;refine Calls.mono (h.2 g w vs hs hl hv) ?_;rintro e w' (⟨v,x,H',g',he,hx,aL,hr⟩|⟨v,H',g',he,hx,aL⟩)
 ·exact .inl ⟨v,x,H',g',he,hk x H' hx,aL,hr⟩
 ·exact .inr ⟨v,H',g',he,hk _ H' hx,aL⟩
theorem Qbni {e e':Env}(S:Nat→Bool)(h:∀t,FrzV H S (lk t e) (lk t e')):D1 e H e' (H.frz S):=by
 intro g w tmps hs hr;exact⟨g.frz H S,DE hs S,fun t=>DS hs (h t) _ (hr t)⟩
def FrzK (H:Heap)(S:Nat→Bool)(c c':C):Prop:=c'=c∨(c.ah=false∧FrzC H S c c')
inductive FrzO (H:Heap)(S:Nat→Bool):Obj→Obj→Prop
 |same (o:Obj):FrzO H S o o
 |st (cells cells':List C) (hl:cells'.length=cells.length) (h:∀(j:Nat) (c c':C),cells[j]? = some c→cells'[j]? = some c'→FrzK H S c c'):FrzO H S (.st cells) (.st cells')
 |vec (sz:Nat) (rows rows':List (List C)) (hl:rows'.length=rows.length) (hr:∀(i:Nat) (r r':List C),rows[i]? = some r→rows'[i]? = some r'→r'.length=r.length)
   (h:∀(i:Nat) (r r':List C) (j:Nat) (c c':C),rows[i]? = some r→rows'[i]? = some r'→r[j]? = some c→r'[j]? = some c'→FrzK H S c c'):FrzO H S (.vec sz rows) (.vec sz rows')
def FrzH (H:Heap)(S:Nat→Bool)(H':Heap):Prop:=∀m,(S m=true∧H' m=.none)∨(S m=false∧FrzO H S (H m) (H' m))
theorem C7 (H:Heap)(S:Nat→Bool):FrzH H S (H.frz S):=fun m=>by
 cases h:S m with
 |true=>exact .inl ⟨rfl,by simp[Heap.frz,h]⟩
 |false=>exact .inr ⟨rfl,by simp[Heap.frz,h];exact .same _⟩
theorem FrzH.set {S:Nat→Bool}{H':Heap}(h:FrzH H S H'){l:Nat}{o:Obj}(hl:S l=false)(ho:FrzO H S (H l) o):FrzH H S (H'.set l o):=fun m=>by
 by_cases hm:m=l
 ·subst hm;rw[Heap.aE];exact .inr ⟨hl,ho⟩
 ·rw[Heap.ai _ _ hm];exact h m
theorem I9 (hs:Sat H g w){S:Nat→Bool}{H':Heap}(h:FrzH H S H'):Stp H g w H' (g.frz H S) w:=by
 have h0:=DE hs S;have aU:=h0.le;have kB:∀m,S m=false→C0 g w (g.frz H S) w m:=fun m hm=>Hr (by simp[hm]);have tB:∀(l:Nat) (p:List Nat) (c c':C) (v:Value),S l=false→FrzK H S c c'→RepO w g l p c v→RepO w (g.frz H S) l p c' v:=by
  intro l p c c' v hl hk hr;rcases hk with rfl|⟨h1,h2⟩
  ·exact hr.move aU fun q b hb=>⟨(kB l hl b _ hb).1,rfl⟩
  ·exact .plain _ _ _ _ ((Gz hs h2).1 v (hr.plain_of fun sz rows hc=>by subst hc;simp[C.ah]at h1))
 refine⟨aU,fun m hm hn=>?_,⟨h0.sat.fresh,h0.sat.names,h0.sat.excl,h0.sat.named,fun m=>?_⟩⟩
 ·refine⟨?_,Hr (by rw[hn];simp[Obj.used])⟩;rcases h m with ⟨_,h1⟩|⟨_,h1⟩
  ·exact h1
  ·rw[hn]at h1;generalize H' m=o at h1;cases h1;rfl
 ·rcases h m with ⟨_,h1⟩|⟨hS,h1⟩
  ·rw[h1];exact trivial
  ·have ho:=hs.objs m;generalize hA:H m=A at h1 ho;generalize hB:H' m=B at h1
   cases h1 with
   |same=>
    have:=SatObj.keep (H':=H') hs aU (kB m hS) (hB.trans hA.symm) fun m' v left cur hc v' es hv=>?_
    ·rw[hB]at this;exact this
    ·rcases h m' with ⟨_,h2⟩|⟨mB,h2⟩
     ·rw[h2]at hv;simp at hv
     ·rw[hv]at h2;generalize hA':H m'=A' at h2;cases h2;exact .inl ⟨rfl,kB m' mB⟩
   |st cells cells' hl hc=>
    obtain⟨b,sz,T,cs,r1,r2,r3,r4,r5⟩:=ho;refine⟨b,sz,T,cs,r1,(kB m hS b _ r2).1,r3,by rw[hl];exact r4,fun k c' v cz hv=>?_⟩;obtain⟨c,cR⟩:=AG hl cz;exact tB _ _ c c' v hS (hc k c c' cR cz) (r5 k c v cR hv)
   |vec sz rows rows' hl hr hc=>
    rcases ho with ⟨r1,r2⟩|⟨b,base,T,cs,val,r1,r2,r3,r4,r5,r6,r7,r8⟩
    ·refine .inl ⟨?_,r2⟩;subst r1;exact Jw.1 hl
    ·refine .inr ⟨b,base,T,cs,val,r1,(kB m hS b _ r2).1,r3,by rw[hl];exact r4,by rw[hl];exact r5,fun i r' be=>?_,fun i r' j c' be cz=>?_,fun i r' j c' be cz=>?_⟩
     ·obtain⟨r,bM⟩:=AG hl be;rw[hr i r r' bM be];exact r6 i r bM
     ·obtain⟨r,bM⟩:=AG hl be;obtain⟨c,cR⟩:=AG (hr i r r' bM be) cz;exact r7 i r j c bM cR
     ·obtain⟨r,bM⟩:=AG hl be;obtain⟨c,cR⟩:=AG (hr i r r' bM be) cz;exact tB _ _ c c' _ hS (hc i r r' j c c' bM be cR cz) (r8 i r j c bM cR)
abbrev finK (K:V→Heap→Prop):V→Heap→Prop
 |.pn v,H'=>K (.pn v) H'
 |x,H'=>∃S x' H2,FrzV H' S x x'∧FrzH H' S H2∧K x' H2
theorem Qb1n {K:V→Heap→Prop}{x:C}:finK K (.c x) H=∃S x' H2,FrzV H S (.c x) x'∧FrzH H S H2∧K x' H2:=rfl
theorem Xl {K:V→Heap→Prop}{x:List C}:finK K (.ag x) H=∃S x' H2,FrzV H S (.ag x) x'∧FrzH H S H2∧K x' H2:=rfl
theorem Qbta {K:V→Heap→Prop}{x:List V}:finK K (.tup x) H=∃S x' H2,FrzV H S (.tup x) x'∧FrzH H S H2∧K x' H2:=rfl
theorem Xk {K:V→Heap→Prop}{v:Value}:finK K (.pn v) H=K (.pn v) H:=rfl
attribute [go_sem] Qb1n Xl Qbta Xk
theorem Qbtb {K:V→Heap→Prop}{x:V}{v:Value}(h:finK K x H)(hr:RepV w g x v):∃S x' H2,FrzV H S x x'∧FrzH H S H2∧K x' H2:=by
 cases hr <;> exact h
theorem De {f:Nat}{args:List V}{K:V→Heap→Prop}(h:Qs P f args H (finK K)):Qs P f args H K:=by
 refine⟨h.1,fun g w vs hs hl hv=>?_⟩;refine Calls.mono (h.2 g w vs hs hl hv) ?_;rintro e w' (⟨v,x,H',g',he,hx,aL,hr⟩|⟨v,H',g',he,hx,aL⟩)
 ·obtain⟨S,x',H2,hf,hh,hk⟩:=Qbtb hx hr;exact .inl ⟨v,x',H2,g'.frz H' S,he,hk,aL.trans (I9 aL.sat hh),DS aL.sat hf v hr⟩
 ·exact .inr ⟨v,H',g',he,hx,aL⟩
theorem Et {e e':Env}(S:Nat→Bool){H2:Heap}(h:∀t,FrzV H S (lk t e) (lk t e'))(hh:FrzH H S H2):D1 e H e' H2:=by
 intro g w tmps hs hr;exact⟨g.frz H S,I9 hs hh,fun t=>DS hs (h t) _ (hr t)⟩
def un (H:Heap)(m:Nat):Bool:=!(H m).used
theorem EZ {m:Nat}(h:H m≠.none):un H m=false:=by
 unfold un;cases hm:H m <;> first|rfl|exact absurd hm h
theorem BN {m:Nat}(h:H m=.none):un H m=true:=by simp[un,h,Obj.used]
theorem ES {H':Heap}{m:Nat}(h:H m≠.none):H'.frz (un H) m=H' m:=by simp[Heap.frz,EZ h]
def C.plain:C→Bool
 |.int _ _|.bool _|.str _|.sl _ _ _|.pp _|.pnil|.mnil|.fnil|.unk=>true
 |_=>false
theorem Qg {S:Nat→Bool}{c:C}(h:c.plain=true):FrzC H S c c:=.same c (by cases c <;> simp_all[C.plain,C.ah])
theorem Fz {S:Nat→Bool}{l sz n:Nat}{rows:List (List C)}(hS:S l=true)(hH:H l=.vec sz rows)(hn:n=rows.length)(hr:∀r∈rows,∀c∈r,c.ah=false):FrzC H S (.af l sz 0 n) (.sl false sz rows):=by
 subst hn;refine .af l sz 0 rows.length rows rows rows hS hH Zx Zz rfl (fun i r r' h1 h2=>by rw[h1]at h2;simp at h2;rw[h2]) (fun i r r' j c c' h1 h2 h3 h4=>?_);rw[h1]at h2;simp at h2;subst h2;rw[h3]at h4;simp at h4;subst h4;exact .same _ (hr r (Ja h1) c (Ja h3))
theorem Da {S:Nat→Bool}{fl:Bool}{sz:Nat}{rows:List (List C)}(hr:∀r∈rows,∀c∈r,c.ah=false):FrzC H S (.sl fl sz rows) (.sl false sz rows):=by
 refine .sl fl sz rows rows rfl (fun i r r' h1 h2=>by rw[h1]at h2;simp at h2;rw[h2]) (fun i r r' j c c' h1 h2 h3 h4=>?_);rw[h1]at h2;simp at h2;subst h2;rw[h3]at h4;simp at h4;subst h4;exact .same _ (hr r (Ja h1) c (Ja h3))
inductive FrzL (H:Heap)(S:Nat→Bool):List C→List C→Prop
 |nil:FrzL H S [] []
 |cons {c c':C} {l l':List C} (h:FrzC H S c c') (t:FrzL H S l l'):FrzL H S (c::l) (c'::l')
theorem FrzL.spec {S:Nat→Bool}{l l':List C}(h:FrzL H S l l'):l'.length=l.length∧∀(j:Nat) (c c':C),l[j]? = some c→l'[j]? = some c'→FrzC H S c c':=by
 induction h with
 |nil=>exact⟨rfl,fun j c c' h=>ZF⟩
 |cons h t ih=>
  refine⟨Zbe,fun j c c' h1 h2=>?_⟩
  cases j with
  |zero=>simp at h1 h2;subst h1;subst h2;exact h
  |succ j=>simp at h1 h2;exact ih.2 j c c' h1 h2
theorem FrzL.ag {S:Nat→Bool}{l l':List C}(h:FrzL H S l l'):FrzV H S (.ag l) (.ag l'):=.ag _ _ h.spec.1 h.spec.2
inductive FrzKL (H:Heap)(S:Nat→Bool):List C→List C→Prop
 |nil:FrzKL H S [] []
 |same {c:C} {l l':List C} (t:FrzKL H S l l'):FrzKL H S (c::l) (c::l')
 |cons {c c':C} {l l':List C} (h:c.ah=false) (h':FrzC H S c c') (t:FrzKL H S l l'):FrzKL H S (c::l) (c'::l')
theorem FrzKL.st {S:Nat→Bool}{l l':List C}(h:FrzKL H S l l'):FrzO H S (.st l) (.st l'):=by
 have:l'.length=l.length∧∀(j:Nat) (c c':C),l[j]? = some c→l'[j]? = some c'→FrzK H S c c':=by
  induction h with
  |nil=>exact⟨rfl,fun j c c' h=>ZF⟩
  |same t ih=>
   refine⟨Zbe,fun j c c' h1 h2=>?_⟩
   cases j with
   |zero=>simp at h1 h2;subst h1;subst h2;exact .inl rfl
   |succ j=>simp at h1 h2;exact ih.2 j c c' h1 h2
  |cons h h' t ih=>
   refine⟨Zbe,fun j c c' h1 h2=>?_⟩
   cases j with
   |zero=>simp at h1 h2;subst h1;subst h2;exact .inr ⟨h,h'⟩
   |succ j=>simp at h1 h2;exact ih.2 j c c' h1 h2
 exact .st _ _ this.1 this.2
end Go.AE
namespace Go.AE
variable {P:Program}{H0 H H':Heap}{E L:List (Nat×Obj)}
structure Kn (H0 H:Heap)(E L:List (Nat×Obj)):Prop where
 get:∀p∈E++L,H p.1=p.2∧p.2≠.none
 ext:∀p∈E,H0 p.1≠.none
 loc:∀p∈L,H0 p.1=.none
 dE:(E.map Prod.fst).Nodup
 dL:(L.map Prod.fst).Nodup
 chg:∀m,H0 m≠.none→m∉E.map Prod.fst→H m=H0 m
def Upd (H H':Heap)(U:List (Nat×Obj)):Prop:=(∀p∈U,H' p.1=p.2)∧∀m,H m≠.none→m∉U.map Prod.fst→H' m=H m
theorem Kn.aq (H:Heap):Kn H H [] []:=⟨Zz,Zz,Zz,Zz,Zz,fun _ _ _=>rfl⟩
theorem Kn.start1 {l:Nat}{o:Obj}(h:H l=o)(ho:o≠.none):Kn H H [(l,o)] []:=
 ⟨by simp[h,ho],by simp[h,ho],Zz,Zz,Zz,fun _ _ _=>rfl⟩
theorem Kn.start2 {l m:Nat}{o q:Obj}(h:H l=o)(ho:o≠.none)(h2:H m=q)(hq:q≠.none)(hn:l≠m):Kn H H [(l,o),(m,q)] []:=
 ⟨by simp[h,ho,h2,hq],by simp[h,ho,h2,hq],Zz,ZaG,Zz,fun _ _ _=>rfl⟩
theorem Kn.e (hk:Kn H0 H E L)(i:Nat){l:Nat}{o:Obj}(h:E[i]? = some (l,o)):H l=o:=
 (hk.get (l,o) (Jb _ (Ja h))).1
theorem Kn.l (hk:Kn H0 H E L)(i:Nat){l:Nat}{o:Obj}(h:L[i]? = some (l,o)):H l=o:=
 (hk.get (l,o) (Jd _ (Ja h))).1
theorem Kn.free (hk:Kn H0 H E L)(i:Nat){l:Nat}{o:Obj}(h:L[i]? = some (l,o)):H0 l=.none:=hk.loc (l,o) (Ja h)
theorem Kn.un (hk:Kn H0 H E L)(i:Nat){l:Nat}{o:Obj}(h:L[i]? = some (l,o)):un H0 l=true:=BN (hk.free i h)
theorem Kn.usedE (hk:Kn H0 H E L)(i:Nat){l:Nat}{o:Obj}(h:E[i]? = some (l,o)):H0 l≠.none:=hk.ext (l,o) (Ja h)
theorem Kn.ne (hk:Kn H0 H E L)(i j:Nat){l m:Nat}{o q:Obj}(h:E[i]? = some (l,o))(h2:L[j]? = some (m,q)):l≠m:=fun hh=>by
 subst hh;exact hk.usedE i h (hk.free j h2)
theorem A1 {L:List (Nat×Obj)}{p:Nat×Obj}(h:p∈L):p.1∈L.map Prod.fst:=List.mem_map_of_mem h
theorem BZ {L:List (Nat×Obj)}(hd:(L.map Prod.fst).Nodup){i j:Nat}{p q:Nat×Obj}(hi:L[i]? = some p)(hj:L[j]? = some q)(h:p.1=q.1):i=j:=by
 have h1:(L.map Prod.fst)[i]? = some p.1:=by simp[hi]
 have h2:(L.map Prod.fst)[j]? = some q.1:=by simp[hj]
 have ae:i<(L.map Prod.fst).length:=(Jt.1 h1).1;exact (List.getElem?_inj ae hd).1 (by rw[h1,h2,h])
theorem Kn.neL (hk:Kn H0 H E L)(i j:Nat){l m:Nat}{o q:Obj}(h:L[i]? = some (l,o))(h2:L[j]? = some (m,q))(fV:i≠j):l≠m:=fun hh=>
 fV (BZ hk.dL h h2 hh)
theorem Kn.newFree (hk:Kn H0 H E L){x:Nat}(hx:H x=.none):H0 x=.none∧x∉E.map Prod.fst∧x∉L.map Prod.fst:=by
 have cd:∀p∈E++L,p.1≠x:=fun p hp hh=>by
  obtain⟨h1,h2⟩:=hk.get p hp;rw[hh,hx]at h1;exact h2 h1.symm
 have hE:x∉E.map Prod.fst:=fun h=>by
  obtain⟨p,hp,hh⟩:=Ji.1 h;exact cd p (Jb _ hp) hh
 refine⟨?_,hE,fun h=>?_⟩
 ·cases h0:H0 x with
  |none=>rfl
  |_=>have:=hk.chg x (by rw[h0];simp) hE;rw[hx,h0]at this;simp at this
 ·obtain⟨p,hp,hh⟩:=Ji.1 h;exact cd p (Jd _ hp) hh
theorem Kn.alloc (hk:Kn H0 H E L){x:Nat}{o:Obj}(hx:H x=.none)(ho:o≠.none):Kn H0 (H.set x o) E (L++[(x,o)]):=by
 obtain⟨h1,h2,h3⟩:=hk.newFree hx;refine⟨fun p hp=>?_,hk.ext,fun p hp=>?_,hk.dE,?_,fun m hm hn=>?_⟩
 ·rw[←Jk]at hp;rcases Jc.1 hp with hp|hp
  ·have:p.1≠x:=fun hh=>by
    rcases Jc.1 hp with hp|hp
    ·exact h2 (hh▸A1 hp)
    ·exact h3 (hh▸A1 hp)
   rw[Heap.ai _ _ this];exact hk.get p hp
  ·simp at hp;subst hp;exact⟨Heap.aE _ _ _,ho⟩
 ·rcases Jc.1 hp with hp|hp
  ·exact hk.loc p hp
  ·simp at hp;subst hp;exact h1
 ·rw[Jl];refine Jg.2 ⟨hk.dL,Zz,fun a ha b hb=>?_⟩;simp at hb;subst hb;exact fun hh=>h3 (hh▸ha)
 ·have:m≠x:=fun hh=>by subst hh;exact hm h1
  rw[Heap.ai _ _ this];exact hk.chg m hm hn
theorem Dj {L:List (Nat×Obj)}{i:Nat}{x:Nat}{o o':Obj}(h:L[i]? = some (x,o)):(L.set i (x,o')).map Prod.fst=L.map Prod.fst:=by
 rw[J6];refine List.ext_getElem? fun j=>?_;rw[J3];split
 ·rename_i fV
  subst fV;have ae:=(Jt.1 h).1;rw[if_pos (by simpa using ae)];simp[h]
 ·rfl
theorem Ca {α:Type}{L:List α}{i:Nat}{x p:α}(h:p∈L.set i x):p=x∨∃j,j≠i∧L[j]? = some p:=by
 obtain⟨j,hj⟩:=List.getElem?_of_mem h;rw[J3]at hj;split at hj
 ·split at hj
  ·simp at hj;exact .inl hj.symm
  ·simp at hj
 ·rename_i hn;exact .inr ⟨j,fun h=>hn h.symm,hj⟩
theorem Kn.setL (hk:Kn H0 H E L)(i:Nat){x:Nat}{o o':Obj}(h:L[i]? = some (x,o))(ho:o'≠.none):Kn H0 (H.set x o') E (L.set i (x,o')):=by
 have hf:=hk.free i h;refine⟨fun p hp=>?_,hk.ext,fun p hp=>?_,hk.dE,by rw[Dj h];exact hk.dL,fun m hm hn=>?_⟩
 ·rcases Jc.1 hp with hp|hp
  ·have:p.1≠x:=fun hh=>hk.ext p hp (hh▸hf);rw[Heap.ai _ _ this];exact hk.get p (Jb _ hp)
  ·rcases Ca hp with rfl|⟨j,hj,hp⟩
   ·exact⟨Heap.aE _ _ _,ho⟩
   ·have:p.1≠x:=fun hh=>hj (BZ hk.dL hp h hh);rw[Heap.ai _ _ this];exact hk.get p (Jd _ (Ja hp))
 ·rcases Ca hp with rfl|⟨j,hj,hp⟩
  ·exact hf
  ·exact hk.loc p (Ja hp)
 ·have:m≠x:=fun hh=>by subst hh;exact hm hf
  rw[Heap.ai _ _ this];exact hk.chg m hm hn
theorem Kn.setE (hk:Kn H0 H E L)(i:Nat){x:Nat}{o o':Obj}(h:E[i]? = some (x,o))(ho:o'≠.none):Kn H0 (H.set x o') (E.set i (x,o')) L:=by
 have hf:=hk.usedE i h;refine⟨fun p hp=>?_,fun p hp=>?_,hk.loc,by rw[Dj h];exact hk.dE,hk.dL,fun m hm hn=>?_⟩
 ·rcases Jc.1 hp with hp|hp
  ·rcases Ca hp with rfl|⟨j,hj,hp⟩
   ·exact⟨Heap.aE _ _ _,ho⟩
   ·have:p.1≠x:=fun hh=>hj (BZ hk.dE hp h hh);rw[Heap.ai _ _ this];exact hk.get p (Jb _ (Ja hp))
  ·have:p.1≠x:=fun hh=>hf (hh▸hk.loc p hp);rw[Heap.ai _ _ this];exact hk.get p (Jd _ hp)
 ·rcases Ca hp with rfl|⟨j,hj,hp⟩
  ·exact hf
  ·exact hk.ext p (Ja hp)
 ·rw[Dj h]at hn;have:m≠x:=fun hh=>by subst hh;exact hn (A1 (p:=(m,o)) (Ja h))
  rw[Heap.ai _ _ this];exact hk.chg m hm hn
theorem Kn.app (hk:Kn H0 H E L)(i:Nat){y y':Nat}{o o':Obj}(h:L[i]? = some (y,o))(hy:(H.set y .none) y'=.none)(ho:o'≠.none) :
  Kn H0 ((H.set y .none).set y' o') E (L.set i (y',o')):=by
 have hf:=hk.free i h;have lh:H0 y'=.none∧y'∉E.map Prod.fst∧∀(j:Nat) (p:Nat×Obj),j≠i→L[j]? = some p→p.1≠y':=by
  by_cases xU:y'=y
  ·subst xU;refine⟨hf,fun hh=>?_,fun j p hj hp hh=>hj (BZ hk.dL hp h hh)⟩;obtain⟨p,hp,hh⟩:=Ji.1 hh;exact hk.ext p hp (hh▸hf)
  ·rw[Heap.ai _ _ xU]at hy;obtain⟨h1,h2,h3⟩:=hk.newFree hy;exact⟨h1,h2,fun j p hj hp hh=>h3 (hh▸A1 (Ja hp))⟩
 obtain⟨h1,h2,h3⟩:=lh;refine⟨fun p hp=>?_,hk.ext,fun p hp=>?_,hk.dE,?_,fun m hm hn=>?_⟩
 ·rcases Jc.1 hp with hp|hp
  ·have a1:p.1≠y:=fun hh=>hk.ext p hp (hh▸hf);have a2:p.1≠y':=fun hh=>hk.ext p hp (hh▸h1);rw[Heap.ai _ _ a2,Heap.ai _ _ a1];exact hk.get p (Jb _ hp)
  ·rcases Ca hp with rfl|⟨j,hj,hp⟩
   ·exact⟨Heap.aE _ _ _,ho⟩
   ·have a1:p.1≠y:=fun hh=>hj (BZ hk.dL hp h hh);rw[Heap.ai _ _ (h3 j p hj hp),Heap.ai _ _ a1];exact hk.get p (Jd _ (Ja hp))
 ·rcases Ca hp with rfl|⟨j,hj,hp⟩
  ·exact h1
  ·exact hk.loc p (Ja hp)
 ·rw[J6];refine Jac.2 fun a b ha hb dw=>?_;rw[List.length_set,J1]at ha hb;have gl:∀(j:Nat) (hj:j<L.length),j≠i→L[j].1≠y':=fun j hj hji=>h3 j L[j] hji (Jv hj);have hd:=Jac.1 hk.dL a b Zaz ZQ dw;simp only[J7,List.getElem_map]at hd⊢;by_cases e1:i=a
  ·subst e1;rw[if_pos rfl,if_neg Zx];exact fun hh=>gl b hb Zx hh.symm
  ·rw[if_neg e1];by_cases e2:i=b
   ·subst e2;rw[if_pos rfl];exact gl a ha Zx
   ·rw[if_neg e2];exact hd
 ·have a1:m≠y:=fun hh=>by subst hh;exact hm hf
  have a2:m≠y':=fun hh=>by subst hh;exact hm h1
  rw[Heap.ai _ _ a2,Heap.ai _ _ a1];exact hk.chg m hm hn
theorem Kn.callg (hk:Kn H0 H E L){U E2 L2:List (Nat×Obj)}(hu:Upd H H' U)(hE:E2.map Prod.fst=E.map Prod.fst)(hL:L2.map Prod.fst=L.map Prod.fst)
  (h:∀p∈E2++L2,p.2≠.none∧(p∈U∨(p∈E++L∧p.1∉U.map Prod.fst))) (hU:∀u∈U,u.1∈E.map Prod.fst∨u.1∈L.map Prod.fst):Kn H0 H' E2 L2:=by
 have dm:∀{A B:List (Nat×Obj)} {p:Nat×Obj},B.map Prod.fst=A.map Prod.fst→p∈B→∃q∈A,q.1=p.1:=fun lu hp=>by
  have:=A1 hp;rw[lu]at this;obtain⟨q,h1,h2⟩:=Ji.1 this;exact⟨q,h1,h2⟩
 refine⟨fun p hp=>?_,fun p hp=>?_,fun p hp=>?_,by rw[hE];exact hk.dE,by rw[hL];exact hk.dL,fun m hm hn=>?_⟩
 ·obtain⟨h1,h2⟩:=h p hp;refine⟨?_,h1⟩;rcases h2 with h2|⟨h2,h3⟩
  ·exact hu.1 p h2
  ·obtain⟨a1,a2⟩:=hk.get p h2;rw[hu.2 p.1 (by rw[a1];exact a2) h3,a1]
 ·obtain⟨q,hq,hh⟩:=dm hE hp;rw[←hh];exact hk.ext q hq
 ·obtain⟨q,hq,hh⟩:=dm hL hp;rw[←hh];exact hk.loc q hq
 ·rw[hE]at hn;have h0:=hk.chg m hm hn;rw[hu.2 m (by rw[h0];exact hm) (fun hh=>?_),h0];obtain⟨u,ym,ee⟩:=Ji.1 hh;rcases hU u ym with a|a
  ·exact hn (ee▸a)
  ·obtain⟨q,hq,hh⟩:=Ji.1 a;exact hm (by rw[←ee,←hh];exact hk.loc q hq)
theorem Kn.aw (hk:Kn H0 H E L)(hu:Upd H H' []):Kn H0 H' E L:=hk.callg hu rfl rfl (fun p hp=>⟨(hk.get p hp).2,.inr ⟨hp,Zz⟩⟩) Zz
theorem Kn.an (hk:Kn H0 H E L)(i:Nat){l:Nat}{o o':Obj}(h:E[i]? = some (l,o))(hu:Upd H H' [(l,o')])(ho:o'≠.none):Kn H0 H' (E.set i (l,o')) L:=by
 refine hk.callg hu (Dj h) rfl (fun p hp=>?_) (fun u hu=>by simp at hu;subst hu;exact .inl (A1 (p:=(l,o)) (Ja h)));rcases Jc.1 hp with hp|hp
 ·rcases Ca hp with rfl|⟨j,hj,hp⟩
  ·exact⟨ho,.inl Zz⟩
  ·have hm:=Jb L (Ja hp);exact⟨(hk.get p hm).2,.inr ⟨hm,by simp;exact fun hh=>hj (BZ hk.dE hp h hh)⟩⟩
 ·have hm:=Jd E hp;exact⟨(hk.get p hm).2,.inr ⟨hm,by simp;exact fun hh=>hk.usedE i h (hh▸hk.loc p hp)⟩⟩
theorem Kn.callL (hk:Kn H0 H E L)(i:Nat){l:Nat}{o o':Obj}(h:L[i]? = some (l,o))(hu:Upd H H' [(l,o')])(ho:o'≠.none):Kn H0 H' E (L.set i (l,o')):=by
 refine hk.callg hu rfl (Dj h) (fun p hp=>?_) (fun u hu=>by simp at hu;subst hu;exact .inr (A1 (p:=(l,o)) (Ja h)));rcases Jc.1 hp with hp|hp
 ·have hm:=Jb L hp;exact⟨(hk.get p hm).2,.inr ⟨hm,by simp;exact fun hh=>hk.ext p hp (hh▸hk.free i h)⟩⟩
 ·rcases Ca hp with rfl|⟨j,hj,hp⟩
  ·exact⟨ho,.inl Zz⟩
  ·have hm:=Jd E (Ja hp);exact⟨(hk.get p hm).2,.inr ⟨hm,by simp;exact fun hh=>hj (BZ hk.dL hp h hh)⟩⟩
theorem Kn.callEE (hk:Kn H0 H E L)(i j:Nat){l m:Nat}{o o' q q':Obj}(h:E[i]? = some (l,o))(h2:E[j]? = some (m,q))(fV:i≠j)(hu:Upd H H' [(l,o'),(m,q')])(ho:o'≠.none)(hq:q'≠.none) :
  Kn H0 H' ((E.set i (l,o')).set j (m,q')) L:=by
 have qC:(E.set i (l,o'))[j]? = some (m,q):=by rw[J3];rw[if_neg fV];exact h2
 refine hk.callg hu ((Dj qC).trans (Dj h)) rfl (fun p hp=>?_) (fun u hu=>?_)
 ·rcases Jc.1 hp with hp|hp
  ·rcases Ca hp with rfl|⟨b,hb,hp⟩
   ·exact⟨hq,.inl Zz⟩
   ·rcases Ca (Ja hp)with rfl|⟨c,hc,cg⟩
    ·exact⟨ho,.inl Zz⟩
    ·have hm:=Jb L (Ja cg);rw[J3]at hp;split at hp
     ·rename_i tI
      split at hp
      ·simp at hp;subst hp;exact⟨ho,.inl Zz⟩
      ·simp at hp
     ·rename_i tI
      refine⟨(hk.get p hm).2,.inr ⟨hm,?_⟩⟩;simp only[Jr,J5,Jj,J8,or_false,not_or];exact⟨fun hh=>tI (BZ hk.dE hp h hh).symm,fun hh=>hb (BZ hk.dE hp h2 hh)⟩
  ·have hm:=Jd E hp;refine⟨(hk.get p hm).2,.inr ⟨hm,?_⟩⟩;simp only[Jr,J5,Jj,J8,or_false,not_or];exact⟨fun hh=>hk.usedE i h (hh▸hk.loc p hp),fun hh=>hk.usedE j h2 (hh▸hk.loc p hp)⟩
 ·simp at hu;rcases hu with rfl|rfl
  ·exact .inl (A1 (p:=(l,o)) (Ja h))
  ·exact .inl (A1 (p:=(m,q)) (Ja h2))
theorem Kn.fin (hk:Kn H0 H E L):Upd H0 (H.frz (Go.AE.un H0)) E:=by
 refine⟨fun p hp=>?_,fun m hm hn=>?_⟩
 ·rw[ES (hk.ext p hp)];exact (hk.get p (Jb _ hp)).1
 ·rw[ES hm];exact hk.chg m hm hn
abbrev unK (H:Heap)(K:V→Heap→Prop):V→Heap→Prop
 |.pn v,H'=>K (.pn v) (H'.frz (un H))
 |x,H'=>∃x',FrzV H' (un H) x x'∧K x' (H'.frz (un H))
theorem Qb36 {K:V→Heap→Prop}{H0:Heap}{x:C}:unK H0 K (.c x) H=∃x',FrzV H (un H0) (.c x) x'∧K x' (H.frz (un H0)):=rfl
theorem Qb2u {K:V→Heap→Prop}{H0:Heap}{x:List C}:unK H0 K (.ag x) H=∃x',FrzV H (un H0) (.ag x) x'∧K x' (H.frz (un H0)):=rfl
theorem Qb0s {K:V→Heap→Prop}{H0:Heap}{x:List V}:unK H0 K (.tup x) H=∃x',FrzV H (un H0) (.tup x) x'∧K x' (H.frz (un H0)):=rfl
theorem Qb0t {K:V→Heap→Prop}{H0:Heap}:unK H0 K .unk H=∃x',FrzV H (un H0) .unk x'∧K x' (H.frz (un H0)):=rfl
theorem Qb2v {K:V→Heap→Prop}{H0:Heap}{v:Value}:unK H0 K (.pn v) H=K (.pn v) (H.frz (un H0)):=rfl
attribute [go_sem] Qb36 Qb2u Qb0s Qb0t Qb2v
theorem Qx {f:Nat}{args:List V}{K:V→Heap→Prop}(h:Qs P f args H (unK H K)):Qs P f args H K:=
 Qbmk (Qbia h fun x H' hx=>by
  cases x with
  |pn v=>exact⟨un H,hx⟩
  |_=>
   obtain⟨x',h1,h2⟩:=hx;exact⟨un H,x',h1,h2⟩)
theorem Kn.al (hk:Kn H0 H E L){x:Nat}{o:Obj}(hx:H x=.none)(h1:H'=H.set x o)(ho:o≠.none:=by nofun):Kn H0 H' E (L++[(x,o)]):=h1▸hk.alloc hx ho
theorem Kn.aB (hk:Kn H0 H E L)(i:Nat){x:Nat}{o o':Obj}(h:L[i]? = some (x,o))(h1:H'=H.set x o')(ho:o'≠.none:=by nofun):Kn H0 H' E (L.set i (x,o')):=h1▸hk.setL i h ho
theorem Kn.stE (hk:Kn H0 H E L)(i:Nat){x:Nat}{o o':Obj}(h:E[i]? = some (x,o))(h1:H'=H.set x o')(ho:o'≠.none:=by nofun):Kn H0 H' (E.set i (x,o')) L:=h1▸hk.setE i h ho
theorem Kn.ap (hk:Kn H0 H E L)(i:Nat){y y':Nat}{o o':Obj}(h:L[i]? = some (y,o))(hy:(H.set y .none) y'=.none)(h1:H'=(H.set y .none).set y' o')(ho:o'≠.none:=by nofun):Kn H0 H' E (L.set i (y',o')):=h1▸hk.app i h hy ho
end Go.AE
namespace Go.AE.Y
theorem Qr {x:Int}(h1:-(2^63)≤x:=by omega)(h2:x<2^63:=by omega):inR .i64 x:=by
 unfold inR;have a1:IntKind.min .i64=-(2^63):=ZK
 have a2:IntKind.max .i64=2^63-1:=ZK
 rw[a1,a2];omega
theorem Kr (b:UInt8):inR .i64 (b.toNat:Int):=Qr Zx (by have:=b.toNat_lt;omega)
def AT (bs:List UInt8):List (List C):=bs.map fun b=>[.int .u8 b.toNat]
theorem C9 (bs:List UInt8):(AT bs).length=bs.length:=by simp[AT]
theorem Q9u (bs:List UInt8)(i:Nat)(h:i<bs.length):(AT bs).getD i []=[.int .u8 (bs.getD i 0).toNat]:=by
 simp[AT,Je,h]
theorem Qb0z {a b:Int}(ha:0≤a)(hb:0≤b)(zh:a<2^62)(aZ:b<2^62):0≤Cp .xor .i64 a b:=by
 obtain⟨m,rfl⟩:=Jae ha;obtain⟨n,rfl⟩:=Jae hb;have hm:m<2^62:=Zx
 have hn:n<2^62:=Zx
 have hx:m ^^^ n<2^62:=Nat.xor_lt_two_pow hm hn;have h1:(BitVec.ofInt (IntKind.bits .i64) (m:Int) ^^^ BitVec.ofInt (IntKind.bits .i64) (n:Int)).toNat=m ^^^ n:=by
  have hb:IntKind.bits .i64=64:=rfl;rw[hb,BitVec.toNat_xor];have e1:(BitVec.ofInt 64 (m:Int)).toNat=m:=ZD
  have e2:(BitVec.ofInt 64 (n:Int)).toNat=n:=ZD
  rw[e1,e2]
 simp only[Cp];rw[h1];simp only[IntKind.wrap];have hb:IntKind.bits .i64=64:=rfl;have hm:((m ^^^ n:Nat):Int) % 2 ^ 64=(m ^^^ n:Nat):=Int.emod_eq_of_lt Zx Zx;rw[hb,hm];rw[if_neg]
 ·omega
 ·simp only[Js,decide_eq_true_eq,not_and];intro _;omega
structure Rdr where
 l:Nat
 fl:Bool
 bs:List UInt8
def Rdr.o (R:Rdr)(k:Nat):Obj:=.st [.sl R.fl 1 (AT R.bs),.int .i64 k]
theorem Rdr.aj (R:Rdr)(k:Nat):R.o k≠.none:=by simp[Rdr.o]
def Qb (ns:List Int):List (List C):=ns.map fun n=>[.int .i64 n]
theorem Qf (ns:List Int):(Qb ns).length=ns.length:=Zae
theorem Qn (ns:List Int)(i:Nat)(h:i<ns.length):(Qb ns).getD i []=[.int .i64 (ns.getD i 0)]:=by
 simp[Qb,Je,h]
theorem Cb (a b:List Int):Qb (a++b)=Qb a++Qb b:=Zae
theorem Qq (ns:List Int):∀r∈Qb ns,ak r=true:=by
 intro r hr;simp[Qb]at hr;obtain⟨n,_,rfl⟩:=hr;rfl
def A8 (ss:List (List UInt8)):List (List C):=ss.map fun s=>[.str s]
theorem Bj (ss:List (List UInt8)):(A8 ss).length=ss.length:=by simp[A8]
theorem HH (ss:List (List UInt8))(i:Nat)(h:i<ss.length):(A8 ss).getD i []=[.str (ss.getD i [])]:=by
 simp[A8,Je,h]
theorem Qbma:A8 []=[]:=rfl
theorem Qbga (a:List (List UInt8))(n:List UInt8):A8 a++[[.str n]]=A8 (a++[n]):=by simp[A8]
theorem RA (ns:List (List UInt8)):∀r∈A8 ns,ak r=true:=by
 intro r hr;simp[A8]at hr;obtain⟨n,_,rfl⟩:=hr;rfl
theorem noOw_mem {rows:List (List C)}(h:∀r∈rows,ak r=true):∀r∈rows,∀c∈r,c.ah=false:=fun r hr c hc=>by
 have:=h r hr;simp only[ak,Jaq]at this;simpa using this c hc
theorem Qbu4 {a b:List (List C)}(ha:∀r∈a,ak r=true)(hb:∀r∈b,ak r=true):∀r∈a++b,ak r=true:=fun r hr=>by
 rcases Jc.1 hr with h|h
 ·exact ha r h
 ·exact hb r h
inductive Ex where
 |mk (op n:Int) (name:List UInt8) (kids:List Ex)
def Ex.op:Ex→Int|.mk op _ _ _=>op
def Ex.n:Ex→Int|.mk _ n _ _=>n
def Ex.name:Ex→List UInt8|.mk _ _ s _=>s
def Ex.kids:Ex→List Ex|.mk _ _ _ k=>k
mutual
def Ex.cells:Ex→List C
 |.mk op n name kids=>[.int .i64 op,.int .i64 n,.str name,.sl false 4 (Ap kids)]
def Ap:List Ex→List (List C)
 |[]=>[]
 |x::r=>x.cells::Ap r
end
theorem Ex.aF (x:Ex):x.cells=[.int .i64 x.op,.int .i64 x.n,.str x.name,.sl false 4 (Ap x.kids)]:=by
 cases x;simp[Ex.cells,Ex.op,Ex.n,Ex.name,Ex.kids]
theorem SE (l:List Ex):Ap l=l.map Ex.cells:=by
 induction l with
 |nil=>simp[Ap]
 |cons x r ih=>simp[Ap,ih]
theorem Bk (l:List Ex):(Ap l).length=l.length:=by simp[SE]
theorem Ev (l:List Ex)(i:Nat)(h:i<l.length):(Ap l).getD i []=(l[i]'h).cells:=by
 simp[SE,Je,h]
theorem Qbit (a:List Ex)(x:Ex):Ap a++[x.cells]=Ap (a++[x]):=by simp[SE]
theorem Ex.ak (x:Ex):Go.AE.ak x.cells=true:=ZaV
theorem HF (l:List Ex):∀r∈Ap l,Go.AE.ak r=true:=by
 intro r hr;rw[SE]at hr;obtain⟨x,_,rfl⟩:=Ji.1 hr;exact x.ak
theorem Ex.ax (x:Ex):x.cells.length=4:=ZaV
mutual
def Ex.size:Ex→Nat
 |.mk _ _ _ kids=>1+At kids
def At:List Ex→Nat
 |[]=>0
 |x::r=>x.size+At r
end
mutual
def Ex.ok:Ex→Prop
 |.mk op _ _ kids=>(op=10→kids.length=2)∧A9 kids
def A9:List Ex→Prop
 |[]=>True
 |x::r=>x.ok∧A9 r
end
theorem FW {l:List Ex}(h:A9 l):∀x∈l,x.ok:=by
 induction l with
 |nil=>simp
 |cons y r ih=>
  simp only[A9]at h;intro x hx;rcases Jj.1 hx with rfl|hx
  ·exact h.1
  ·exact ih h.2 x hx
theorem Qbm8 {a b:List Ex}(ha:A9 a)(hb:A9 b):A9 (a++b):=by
 induction a with
 |nil=>exact hb
 |cons x r ih=>simp only[A9]at ha;exact⟨ha.1,ih ha.2⟩
theorem Q0z (a b:List Ex):At (a++b)=At a+At b:=by
 induction a with
 |nil=>simp[At]
 |cons x r ih=>simp[At,ih];omega
theorem Ex.size_pos (x:Ex):1≤x.size:=by cases x;simp[Ex.size]
theorem GP {l:List Ex}{x:Ex}(h:x∈l):x.size≤At l:=by
 induction l with
 |nil=>simp at h
 |cons y r ih=>
  simp only[At];rcases Jj.1 h with rfl|h
  ·omega
  ·have:=ih h;omega
theorem Ex.size_kids (x:Ex):x.size=1+At x.kids:=by cases x;simp[Ex.size,Ex.kids]
theorem Ex.ok_kids {x:Ex}(h:x.ok):A9 x.kids:=by cases x;simp only[Ex.ok]at h;exact h.2
theorem Ex.ok_and {x:Ex}(h:x.ok)(h1:x.op=10):x.kids.length=2:=by cases x;simp only[Ex.ok]at h;exact h.1 h1
theorem Ex.frz {H:Heap}{S:Nat→Bool}{fl:Bool}(x:Ex):FrzV H S (.ag [.int .i64 x.op,.int .i64 x.n,.str x.name,.sl fl 4 (Ap x.kids)]) (.ag x.cells):=by
 rw[x.aF];exact (FrzL.cons (Qg rfl) (FrzL.cons (Qg rfl) (FrzL.cons (Qg rfl) (FrzL.cons (Da (noOw_mem (HF _))) FrzL.nil)))).ag
variable {H:Heap}{S:Nat→Bool}
inductive FrzR (H:Heap)(S:Nat→Bool):List (List C)→List (List C)→Prop
 |nil:FrzR H S [] []
 |cons {r r':List C} {l l':List (List C)} (h:FrzL H S r r') (t:FrzR H S l l'):FrzR H S (r::l) (r'::l')
theorem FrzR.spec {l l':List (List C)}(h:FrzR H S l l'):l'.length=l.length∧∀(i:Nat) (r r':List C),l[i]? = some r→l'[i]? = some r'→FrzL H S r r':=by
 induction h with
 |nil=>exact⟨rfl,fun j c c' h=>ZF⟩
 |cons h t ih=>
  refine⟨Zbe,fun j c c' h1 h2=>?_⟩
  cases j with
  |zero=>simp at h1 h2;subst h1;subst h2;exact h
  |succ j=>simp at h1 h2;exact ih.2 j c c' h1 h2
theorem FrzR.sl {fl:Bool}{sz:Nat}{l l':List (List C)}(h:FrzR H S l l'):FrzC H S (.sl fl sz l) (.sl false sz l'):=
 .sl fl sz l l' h.spec.1 (fun i r r' h1 h2=>(h.spec.2 i r r' h1 h2).spec.1) fun i r r' j c c' h1 h2 h3 h4=>(h.spec.2 i r r' h1 h2).spec.2 j c c' h3 h4
theorem FrzR.af {l sz n:Nat}{rows rows':List (List C)}(hS:S l=true)(hH:H l=.vec sz rows)(hn:n=rows.length)(h:FrzR H S rows rows'):FrzC H S (.af l sz 0 n) (.sl false sz rows'):=by
 subst hn;exact .af l sz 0 rows.length rows rows rows' hS hH Zx Zz h.spec.1 (fun i r r' h1 h2=>(h.spec.2 i r r' h1 h2).spec.1) fun i r r' j c c' h1 h2 h3 h4=>(h.spec.2 i r r' h1 h2).spec.2 j c c' h3 h4
end Go.AE.Y
namespace Go.AE
open Go.AE.Y
variable {H:Heap}{S:Nat→Bool}
theorem FrzL.same {l:List C}(h:ak l=true):FrzL H S l l:=by
 induction l with
 |nil=>exact .nil
 |cons c r ih=>
  simp only[ak,J0,Js,Jad]at h ih;exact .cons (.same _ h.1) (ih (by simpa using h.2))
end Go.AE
namespace Go.AE.Y
variable {H:Heap}{S:Nat→Bool}
theorem FrzR.same {l:List (List C)}(h:∀r∈l,ak r=true):FrzR H S l l:=by
 induction l with
 |nil=>exact .nil
 |cons c r ih=>exact .cons (.same (h _ Jz)) (ih fun x hx=>h x (Ju _ hx))
theorem FrzR.app {a a' b b':List (List C)}(h:FrzR H S a a')(k:FrzR H S b b'):FrzR H S (a++b) (a'++b'):=by
 induction h with
 |nil=>exact k
 |cons h t ih=>exact .cons h ih
end Go.AE.Y
namespace Go.AE
open Go.AE.Y
variable {H:Heap}{S:Nat→Bool}
theorem Upd.set2 {H H':Heap}{a b:Nat}{oa ob o:Obj}(h:Upd H H' [(a,oa),(b,ob)])(hn:a≠b):Upd H (H'.set b o) [(a,oa),(b,o)]:=by
 refine⟨fun p hp=>?_,fun m hm hx=>?_⟩
 ·simp at hp;rcases hp with rfl|rfl
  ·show (H'.set b o) a=oa;rw[Heap.ai _ _ hn];exact h.1 (a,oa) Zz
  ·exact Heap.aE _ _ _
 ·have:m≠b:=by simp at hx;exact hx.2
  rw[Heap.ai _ _ this];exact h.2 m hm ZaN
end Go.AE
namespace Go.AE.Y
variable {H:Heap}{S:Nat→Bool}
inductive St where
 |mk (op:Int) (name:List UInt8) (args:List Ex) (body els:List St)
def St.op:St→Int|.mk op _ _ _ _=>op
def St.name:St→List UInt8|.mk _ s _ _ _=>s
def St.args:St→List Ex|.mk _ _ a _ _=>a
def St.body:St→List St|.mk _ _ _ b _=>b
def St.els:St→List St|.mk _ _ _ _ e=>e
mutual
def St.cells:St→List C
 |.mk op name args body els=>[.int .i64 op,.str name,.sl false 4 (Ap args),.sl false 5 (Ak body),.sl false 5 (Ak els)]
def Ak:List St→List (List C)
 |[]=>[]
 |x::r=>x.cells::Ak r
end
theorem St.aF (x:St):x.cells=[.int .i64 x.op,.str x.name,.sl false 4 (Ap x.args),.sl false 5 (Ak x.body),.sl false 5 (Ak x.els)]:=by
 cases x;simp[St.cells,St.op,St.name,St.args,St.body,St.els]
theorem S7 (l:List St):Ak l=l.map St.cells:=by
 induction l with
 |nil=>simp[Ak]
 |cons x r ih=>simp[Ak,ih]
theorem Bw (l:List St):(Ak l).length=l.length:=by simp[S7]
theorem Ey (l:List St)(i:Nat)(h:i<l.length):(Ak l).getD i []=(l[i]'h).cells:=by
 simp[S7,Je,h]
theorem F6 (a b:List St):Ak a++Ak b=Ak (a++b):=by simp[S7]
theorem St.ak (x:St):Go.AE.ak x.cells=true:=ZaV
theorem GI (l:List St):∀r∈Ak l,Go.AE.ak r=true:=by
 intro r hr;rw[S7]at hr;obtain⟨x,_,rfl⟩:=Ji.1 hr;exact x.ak
theorem St.ax (x:St):x.cells.length=5:=ZaV
mutual
def St.size:St→Nat
 |.mk _ _ args body els=>1+At args+Q8 body+Q8 els
def Q8:List St→Nat
 |[]=>0
 |x::r=>x.size+Q8 r
end
mutual
def St.ok:St→Prop
 |.mk _ _ args body els=>0<args.length∧A9 args∧A7 body∧A7 els
def A7:List St→Prop
 |[]=>True
 |x::r=>x.ok∧A7 r
end
theorem Qbsd {l:List St}(h:A7 l):∀x∈l,x.ok:=by
 induction l with
 |nil=>simp
 |cons y r ih=>
  simp only[A7]at h;intro x hx;rcases Jj.1 hx with rfl|hx
  ·exact h.1
  ·exact ih h.2 x hx
theorem F5 {a b:List St}(ha:A7 a)(hb:A7 b):A7 (a++b):=by
 induction a with
 |nil=>exact hb
 |cons x r ih=>simp only[A7]at ha;exact⟨ha.1,ih ha.2⟩
theorem HG (a b:List St):Q8 (a++b)=Q8 a+Q8 b:=by
 induction a with
 |nil=>simp[Q8]
 |cons x r ih=>simp[Q8,ih];omega
theorem St.size_eq (x:St):x.size=1+At x.args+Q8 x.body+Q8 x.els:=by cases x;simp[St.size,St.args,St.body,St.els]
theorem St.ok_eq (x:St):x.ok=(0<x.args.length∧A9 x.args∧A7 x.body∧A7 x.els):=by cases x;simp[St.ok,St.args,St.body,St.els]
theorem R9 {l:List St}{x:St}(h:x∈l):x.size≤Q8 l:=by
 induction l with
 |nil=>simp at h
 |cons y r ih=>
  simp only[Q8];rcases Jj.1 h with rfl|h
  ·omega
  ·have:=ih h;omega
structure Fn where
 name:List UInt8
 params:List (List UInt8)
 body:List St
def Fn.cells (f:Fn):List C:=[.str f.name,.sl false 1 (A8 f.params),.sl false 5 (Ak f.body)]
def Az (l:List Fn):List (List C):=l.map Fn.cells
theorem BK (l:List Fn):(Az l).length=l.length:=by simp[Az]
theorem GK (l:List Fn)(i:Nat)(h:i<l.length):(Az l).getD i []=(l[i]'h).cells:=by
 simp[Az,Je,h]
theorem L5 (a:List Fn)(x:Fn):Az a++[x.cells]=Az (a++[x]):=by simp[Az]
theorem Fn.ak (x:Fn):Go.AE.ak x.cells=true:=rfl
theorem Fn.ax (x:Fn):x.cells.length=3:=rfl
theorem L6 (l:List Fn):∀r∈Az l,Go.AE.ak r=true:=by
 intro r hr;obtain⟨x,_,rfl⟩:=Ji.1 hr;exact x.ak
structure GS where
 fns:List Fn
 ffl:C×List (Nat×Obj)
 vars:List (List UInt8)
 vfl:Bool
 next:Int
 left:Int
def GS.o (s:GS)(R:Rdr):Obj:=.st [.ptr R.l 0,s.ffl.1,.sl s.vfl 1 (A8 s.vars),.int .i64 s.next,.int .i64 s.left]
theorem GS.aj (s:GS)(R:Rdr):s.o R≠.none:=by simp[GS.o]
structure GS.ok (s:GS)(k:Nat):Prop where
 n0:-1≤s.next
 n1:s.next≤k+10
 l0:-(4 * (k:Int)+10)≤s.left
 l1:s.left≤100
 v:s.vars.length≤k+10
 f:∀f∈s.fns,f.params.length≤3
 fn:s.fns.length≤3
theorem GS.ok.mono {s:GS}{k k':Nat}(h:s.ok k)(hk:k≤k'):s.ok k':=
 ⟨h.n0,by have:=h.n1;omega,by have:=h.l0;omega,h.l1,by have:=h.v;omega,h.f,h.fn⟩
end Go.AE.Y
namespace Go.AE
variable {H0 H H':Heap}{E L B:List (Nat×Obj)}
theorem Upd.drop2 {H H':Heap}{a b:Nat}{oa ob:Obj}(h:Upd H H' [(a,oa),(b,ob)])(hb:H b=ob):Upd H H' [(a,oa)]:=by
 refine⟨fun p hp=>h.1 p (by simp at hp;subst hp;simp),fun m hm hx=>?_⟩;by_cases gm:m=b
 ·subst gm;rw[hb];exact h.1 (m,ob) Zz
 ·exact h.2 m hm (by simp at hx⊢;exact⟨hx,gm⟩)
theorem Upd.drop1 {H H':Heap}{a:Nat}{oa:Obj}(h:Upd H H' [(a,oa)])(ha:H a=oa):Upd H H' []:=by
 refine⟨Zz,fun m hm hx=>?_⟩;by_cases gm:m=a
 ·subst gm;rw[ha];exact h.1 (m,oa) Zz
 ·exact h.2 m hm (by simpa using gm)
theorem Kn.perm {L':List (Nat×Obj)}(h:Kn H0 H E L)(hp:L.Perm L'):Kn H0 H E L':=
 ⟨fun p cg=>h.get p (by
   rcases Jc.1 cg with a|a
   ·exact Jb _ a
   ·exact Jd _ (hp.mem_iff.2 a)),h.ext,fun p cg=>h.loc p (hp.mem_iff.2 cg),h.dE,(hp.map Prod.fst).nodup_iff.1 h.dL,h.chg⟩
def Gr (Lg:List (Nat×Obj))(sz:Nat)(rows:List (List C))(c:C):Prop:=
 (c=.sl true sz []∧rows=[]∧Lg=[])∨∃y,c=.af y sz 0 rows.length∧Lg=[(y,.vec sz rows)]
theorem Gr.nil (sz:Nat):Gr [] sz [] (.sl true sz []):=.inl ⟨rfl,rfl,rfl⟩
theorem Gr.mk (y sz:Nat)(rows:List (List C)){n:Nat}(hn:n=rows.length):Gr [(y,.vec sz rows)] sz rows (.af y sz 0 n):=.inr ⟨y,by rw[hn],rfl⟩
variable {sz:Nat}{rows:List (List C)}{c:C}{Lg:List (Nat×Obj)}
theorem Gr.ah (h:Gr Lg sz rows c):c.ah=false:=by rcases h with ⟨rfl,_⟩|⟨y,rfl,_⟩ <;> rfl
theorem Gr.aO (h:Gr Lg sz rows c):c.aO=sz:=by rcases h with ⟨rfl,_⟩|⟨y,rfl,_⟩ <;> rfl
theorem Gr.ay (h:Gr Lg sz rows c):ay c=rows.length:=by
 rcases h with ⟨rfl,rfl,_⟩|⟨y,rfl,_⟩ <;> rfl
theorem Gr.get (h:Gr Lg sz rows c)(kn:Kn H0 H E (B++Lg)):bh H c∧rowsOf H c=rows:=by
 rcases h with ⟨rfl,rfl,_⟩|⟨y,rfl,rfl⟩
 ·exact⟨trivial,rfl⟩
 ·have hy:H y=.vec sz rows:=(kn.get (y,.vec sz rows) Zz).1;refine⟨?_,?_⟩
  ·simp[bh,hy]
  ·simp[rowsOf,hy]
theorem Gr.bh (h:Gr Lg sz rows c)(kn:Kn H0 H E (B++Lg)):Go.AE.bh H c:=(h.get kn).1
theorem Gr.rowsOf (h:Gr Lg sz rows c)(kn:Kn H0 H E (B++Lg)):Go.AE.rowsOf H c=rows:=(h.get kn).2
theorem Gr.frz (h:Gr Lg sz rows c)(kn:Kn H0 H E (B++Lg))(hr:∀r∈rows,ak r=true):FrzC H (un H0) c (.sl false sz rows):=by
 rcases h with ⟨rfl,rfl,_⟩|⟨y,rfl,rfl⟩
 ·exact Y.FrzR.nil.sl
 ·exact (Y.FrzR.same hr).af (BN (kn.loc (y,.vec sz rows) Zz)) (kn.get (y,.vec sz rows) Zz).1 rfl
theorem Gr.frzR {rows':List (List C)}(h:Gr Lg sz rows c)(kn:Kn H0 H E (B++Lg))(hr:Y.FrzR H (un H0) rows rows'):FrzC H (un H0) c (.sl false sz rows'):=by
 rcases h with ⟨rfl,rfl,_⟩|⟨y,rfl,rfl⟩
 ·cases hr;exact Y.FrzR.nil.sl
 ·exact hr.af (BN (kn.loc (y,.vec sz rows) Zz)) (kn.get (y,.vec sz rows) Zz).1 rfl
structure Slc (H:Heap)(sz:Nat)(rws:List (List C))(b:C):Prop where
 ok:bh H b
 sz:b.aO=sz
 rows:rowsOf H b=rws
 len:Go.AE.ay b=rws.length
theorem Slc.mk' (H:Heap)(fl:Bool)(sz:Nat)(rows:List (List C)):Slc H sz rows (.sl fl sz rows):=⟨trivial,rfl,rfl,rfl⟩
theorem Kn.grow {K:V→Heap→Prop}{new:List (List C)}{b:C}(kn:Kn H0 H E (B++Lg))(hc:Gr Lg sz rows c)(hb:Slc H sz new b)
  (h1:∀r∈new,ak r=true) (h2:rows.length+new.length≤LIM)
  (h:∀y' H',Kn H0 H' E (B++[(y',.vec sz (rows++new))])→K (.c (.af y' sz 0 (rows.length+new.length))) H'):appQ H sz c b K:=by
 refine⟨hb.ok,hb.sz,?_⟩;rcases hc with ⟨rfl,rfl,rfl⟩|⟨y,rfl,rfl⟩
 ·simp only[hb.rows,hb.len,Jp,Jak,Jap];refine⟨trivial,.inl trivial,h1,ZT,fun l hl H' dx=>?_⟩;rw[Jai]at kn;have:=h l H' (by simpa using kn.al hl dx);simpa using this
 ·have hy:H y=.vec sz rows:=(kn.get (y,.vec sz rows) Zz).1;simp only[hy,hb.rows,hb.len,Jab,List.take_length];refine⟨trivial,trivial,Zx,h1,h2,fun l' du H' dx=>?_⟩;refine h l' H' ?_;have:=kn.ap B.length (y:=y) (o:=.vec sz rows) Zz du dx;simpa using this
end Go.AE
namespace Go.AE.Y
variable {H H':Heap}{R:Rdr}{gl:Nat}{s s':GS}{L:List (Nat×Obj)}{o q:Obj}
def FnsOk (H:Heap)(R:Rdr)(gl:Nat)(s:GS):Prop:=Gr s.ffl.2 3 (Az s.fns) s.ffl.1∧∀p∈s.ffl.2,H p.1=p.2∧p.1≠R.l∧p.1≠gl
theorem FnsOk.keep (h:FnsOk H R gl s)(kn:Kn H H' [(R.l,o),(gl,q)] L)(h1:s'.fns=s.fns)(h2:s'.ffl=s.ffl):FnsOk H' R gl s':=by
 refine⟨by rw[h1,h2];exact h.1,fun p hp=>?_⟩;rw[h2]at hp;obtain⟨a1,a2,a3⟩:=h.2 p hp;refine⟨?_,a2,a3⟩;have hn:p.2≠.none:=by
  rcases h.1 with ⟨_,_,hx⟩|⟨y,_,hx⟩
  ·rw[hx]at hp;simp at hp
  ·rw[hx]at hp;simp at hp;subst hp;simp
 rw[kn.chg p.1 (by rw[a1];exact hn) (by simp[a2,a3]),a1]
theorem FnsOk.rd (h:FnsOk H R gl s):bh H s.ffl.1=True∧rowsOf H s.ffl.1=Az s.fns:=by
 rcases h.1 with ⟨h1,h2,h3⟩|⟨y,h1,h3⟩
 ·rw[h1,h2];exact⟨rfl,rfl⟩
 ·have hy:H y=.vec 3 (Az s.fns):=(h.2 (y,.vec 3 (Az s.fns)) (by rw[h3];simp)).1;rw[h1];exact⟨by simp[bh,hy],by simp[rowsOf,hy]⟩
theorem FnsOk.ok (h:FnsOk H R gl s)(kn:Kn H H' [(R.l,o),(gl,q)] L):bh H' s.ffl.1=True:=(h.keep kn rfl rfl).rd.1
theorem FnsOk.rows (h:FnsOk H R gl s)(kn:Kn H H' [(R.l,o),(gl,q)] L):rowsOf H' s.ffl.1=Az s.fns:=(h.keep kn rfl rfl).rd.2
theorem FnsOk.len (h:FnsOk H R gl s):ay s.ffl.1=s.fns.length:=by rw[h.1.ay,BK]
theorem FnsOk.esz (h:FnsOk H R gl s):s.ffl.1.aO=3:=h.1.aO
theorem FnsOk.ow (h:FnsOk H R gl s):s.ffl.1.ah=false:=h.1.ah
end Go.AE.Y
namespace Go.AE
variable {H0 H H':Heap}{E L B E0 L0 Lg:List (Nat×Obj)}
def New (H H':Heap)(N:List (Nat×Obj)):Prop:=∀p∈N,H p.1=.none∧H' p.1=p.2
theorem Kn.add1 (kn0:Kn H0 H E0 L0)(kn:Kn H0 H' E L)(hE:E.map Prod.fst=E0.map Prod.fst)(hL:L.map Prod.fst=L0.map Prod.fst){x:Nat}{o:Obj}(hx:H x=.none)(fN:H' x=o)(ho:o≠.none):Kn H0 H' E (L++[(x,o)]):=by
 obtain⟨h1,h2,h3⟩:=kn0.newFree hx;refine⟨fun p hp=>?_,kn.ext,fun p hp=>?_,kn.dE,?_,kn.chg⟩
 ·rw[←Jk]at hp;rcases Jc.1 hp with hp|hp
  ·exact kn.get p hp
  ·simp at hp;subst hp;exact⟨fN,ho⟩
 ·rcases Jc.1 hp with hp|hp
  ·exact kn.loc p hp
  ·simp at hp;subst hp;exact h1
 ·rw[Jl];refine Jg.2 ⟨kn.dL,Zz,fun a ha b hb=>?_⟩;simp at hb;subst hb;rw[hL]at ha;exact fun hh=>h3 (hh▸ha)
theorem Kn.addGr {sz:Nat}{rows:List (List C)}{c:C}(kn0:Kn H0 H E0 L0)(kn:Kn H0 H' E L)(hE:E.map Prod.fst=E0.map Prod.fst)(hL:L.map Prod.fst=L0.map Prod.fst)(hg:Gr Lg sz rows c)(hn:New H H' Lg):Kn H0 H' E (L++Lg):=by
 rcases hg with ⟨_,_,rfl⟩|⟨y,_,rfl⟩
 ·simpa using kn
 ·obtain⟨h1,h2⟩:=hn (y,.vec sz rows) Zz;exact kn0.add1 kn hE hL h1 h2 Zz
def unx (H:Heap)(Lg:List (Nat×Obj))(m:Nat):Bool:=un H m&&!(Lg.map Prod.fst).contains m
theorem IY {m:Nat}(h:H m≠.none):unx H Lg m=false:=by simp[unx,EZ h]
theorem Qb0v {p:Nat×Obj}(h:p∈Lg):unx H Lg p.1=false:=by
 have:p.1∈Lg.map Prod.fst:=A1 h;simp only[unx,Bool.and_eq_false_iff,Bool.not_eq_false'];exact .inr (Jaj.2 this)
theorem Kn.unx (hk:Kn H0 H E (B++Lg)){p:Nat×Obj}(h:p∈B):Go.AE.unx H0 Lg p.1=true:=by
 have h1:=hk.loc p (Jb _ h);have h2:p.1∉Lg.map Prod.fst:=fun hh=>by
  have:=hk.dL;rw[Jl]at this;exact (Jg.1 this).2.2 _ (A1 h) _ hh rfl
 simp only[Go.AE.unx,BN h1,Jau,Jad,Bool.eq_false_iff];intro hh;exact h2 (Jaj.1 hh)
theorem Kn.finx (hk:Kn H0 H E (B++Lg)):Upd H0 (H.frz (Go.AE.unx H0 Lg)) E∧New H0 (H.frz (Go.AE.unx H0 Lg)) Lg:=by
 refine⟨⟨fun p hp=>?_,fun m hm hn=>?_⟩,fun p hp=>⟨hk.loc p (Jd _ hp),?_⟩⟩
 ·have:H.frz (Go.AE.unx H0 Lg) p.1=H p.1:=by simp[Heap.frz,IY (hk.ext p hp)]
  rw[this];exact (hk.get p (Jb _ hp)).1
 ·have:H.frz (Go.AE.unx H0 Lg) m=H m:=by simp[Heap.frz,IY hm]
  rw[this];exact hk.chg m hm hn
 ·have:H.frz (Go.AE.unx H0 Lg) p.1=H p.1:=by simp only[Heap.frz];rw[Qb0v hp];rfl
  rw[this];exact (hk.get p (Jd _ (Jd _ hp))).1
end Go.AE
namespace Go.AE.Y
theorem AD {b:Bool}(h:(!b)=false):b=true:=ZI
theorem B4 {b:Bool}(h:(!b)=true):b=false:=ZI
theorem Ex.ne_nil (x:Ex):(x.cells=[])=False:=by rw[x.aF];simp
theorem Ex.cn (x:Ex):x.cells.take 4=x.cells:=Jy (by rw[x.ax];omega)
theorem Ex.bv (x:Ex):(x.cells.all fun c=>!c.ah)=true:=x.ak
theorem St.take5 (x:St):x.cells.take 5=x.cells:=Jy (by rw[x.ax];omega)
theorem St.bv (x:St):(x.cells.all fun c=>!c.ah)=true:=x.ak
theorem Fn.take3 (x:Fn):x.cells.take 3=x.cells:=Jy (by rw[x.ax];omega)
theorem Fn.bv (x:Fn):(x.cells.all fun c=>!c.ah)=true:=x.ak
end Go.AE.Y
namespace Go.AE
variable {H0 H H':Heap}{E L B A:List (Nat×Obj)}{P:Program}
theorem c_gh {b:SC}{Q:X→Env→Heap→Prop}{e e':Env}(h:D1 e H e' H')(hb:Ac P b Q e' H'):Ac P (.seq .gh b) Q e H:=⟨e',H',h,hb⟩
theorem Kn.drop (kn:Kn H0 H E (A++B)):Kn H0 H E A:=
 ⟨fun p hp=>kn.get p (by
   rcases Jc.1 hp with h|h
   ·exact Jb _ h
   ·exact Jd _ (Jb _ h)),kn.ext,fun p hp=>kn.loc p (Jb _ hp),kn.dE,by
   have:=kn.dL;rw[Jl]at this;exact (Jg.1 this).1,kn.chg⟩
theorem Kn.freeze {z gl:Nat}{o og og':Obj}(kn:Kn H0 H E (B++[(z,o)]))(i:Nat)(hB:B[i]? = some (gl,og))(hO:FrzO H (fun m=>m == z) og og')(hn:og'≠.none) :
  FrzH H (fun m=>m == z) ((H.frz fun m=>m == z).set gl og')∧Kn H0 ((H.frz fun m=>m == z).set gl og') E (B.set i (gl,og')):=by
 have ev:H0 z=.none:=kn.loc (z,o) Zz;have cr:=kn.dL;rw[Jl]at cr;have bx:∀p∈B,p.1≠z:=fun p hp hh=>(Jg.1 cr).2.2 _ (A1 hp) z Zz hh;have oW:∀p∈E,p.1≠z:=fun p hp hh=>kn.ext p hp (hh▸ev);have dX:=bx _ (Ja hB);have hH:H gl=og:=(kn.get (gl,og) (Jd _ (Jb _ (Ja hB)))).1;refine⟨(C7 _ _).set (by simpa using dX) (by rw[hH];exact hO),?_⟩;have kn1:Kn H0 (H.frz fun m=>m == z) E B:=by
  refine⟨fun p hp=>?_,kn.ext,fun p hp=>kn.loc p (Jb _ hp),kn.dE,(Jg.1 cr).1,fun m hm hx=>?_⟩
  ·have:p.1≠z:=by
    rcases Jc.1 hp with h|h
    ·exact oW p h
    ·exact bx p h
   have h2:(H.frz fun m=>m == z) p.1=H p.1:=by simp[Heap.frz,this]
   rw[h2];refine kn.get p ?_;rcases Jc.1 hp with h|h
   ·exact Jb _ h
   ·exact Jd _ (Jb _ h)
  ·have:m≠z:=fun h=>hm (h▸ev);have h2:(H.frz fun m=>m == z) m=H m:=by simp[Heap.frz,this]
   rw[h2];exact kn.chg m hm hx
 exact kn1.setL i hB hn
theorem Kn.callEL (hk:Kn H0 H E L)(i j:Nat){l m:Nat}{o o' q q':Obj}(h:E[i]? = some (l,o))(h2:L[j]? = some (m,q))(hu:Upd H H' [(l,o'),(m,q')])(ho:o'≠.none)(hq:q'≠.none) :
  Kn H0 H' (E.set i (l,o')) (L.set j (m,q')):=by
 refine hk.callg hu (Dj h) (Dj h2) (fun p hp=>?_) (fun u hu=>?_)
 ·rcases Jc.1 hp with hp|hp
  ·rcases Ca hp with rfl|⟨b,hb,hp⟩
   ·exact⟨ho,.inl Zz⟩
   ·have hm:=Jb L (Ja hp);refine⟨(hk.get p hm).2,.inr ⟨hm,?_⟩⟩;simp only[Jr,J5,Jj,J8,or_false,not_or];exact⟨fun hh=>hb (BZ hk.dE hp h hh),fun hh=>hk.ext p (Ja hp) (hh▸hk.free j h2)⟩
  ·rcases Ca hp with rfl|⟨b,hb,hp⟩
   ·exact⟨hq,.inl Zz⟩
   ·have hm:=Jd E (Ja hp);refine⟨(hk.get p hm).2,.inr ⟨hm,?_⟩⟩;simp only[Jr,J5,Jj,J8,or_false,not_or];exact⟨fun hh=>hk.usedE i h (hh▸hk.loc p (Ja hp)),fun hh=>hb (BZ hk.dL hp h2 hh)⟩
 ·simp at hu;rcases hu with rfl|rfl
  ·exact .inl (A1 (p:=(l,o)) (Ja h))
  ·exact .inr (A1 (p:=(m,q)) (Ja h2))
end Go.AE
namespace Go.AE.Y
structure Blk where
 ic:C
 aX:List (List C)
 lg:List (Nat×Obj)
 jump:Int
 on:Int
 nfl:Bool
 next:List Int
def Blk.row (b:Blk):List C:=[.sl true 2 [],b.ic,.int .i64 b.jump,.int .i64 b.on,.sl b.nfl 1 (Qb b.next)]
structure LS where
 fns:List Fn
 pfl:Bool
 params:Int
 ab:Int
 bc:C
 lb:List (Nat×Obj)
 blocks:List Blk
 at_:Nat
 vc:C
 lv:List (Nat×Obj)
 vars:List (List C)
 next:Int
def LS.o (s:LS):Obj:=.st [.sl s.pfl 3 (Az s.fns),.int .i64 s.params,.int .i64 s.ab,s.bc,.int .i64 s.at_,s.vc,.int .i64 s.next,.sl true 1 []]
def LS.L (s:LS)(w:Nat):List (Nat×Obj):=[(w,s.o)]++(s.lb++(s.lv++s.blocks.flatMap Blk.lg))
def InsRow (r:List C):Prop:=∃(op to n:Int) (fl:Bool) (args:List Int),r=[.int .i64 op,.int .i64 to,.sl fl 1 (Qb args),.int .i64 n]
def VarRow (r:List C):Prop:=∃(s:List UInt8) (a b:Int),r=[.str s,.int .i64 a,.int .i64 b]
def VGr (lv:List (Nat×Obj))(vars:List (List C))(c:C):Prop:=
 (c=.sl true 3 []∧vars=[]∧lv=[])∨∃y all n,c=.af y 3 0 n∧n≤all.length∧vars=all.take n∧lv=[(y,.vec 3 all)]
structure LInv (F H:Heap)(w:Nat)(s:LS):Prop where
 kn:Kn F H [] (s.L w)
 gb:Gr s.lb 5 (s.blocks.map Blk.row) s.bc
 gv:VGr s.lv s.vars s.vc
 gi:∀b∈s.blocks,Gr b.lg 4 b.aX b.ic
 ri:∀b∈s.blocks,∀r∈b.aX,InsRow r
 rv:∀r∈s.vars,VarRow r
structure LS.ok (s:LS)(N:Nat):Prop where
 r0:0≤s.ab
 r1:s.ab≤N
 n0:0≤s.next
 n1:s.next≤N
 b1:s.blocks.length≤N
 i1:∀b∈s.blocks,b.aX.length≤N
 v1:s.vars.length≤N
theorem LS.ok.mono {s:LS}{N M:Nat}(h:s.ok N)(hm:N≤M):s.ok M:=
 ⟨h.r0,by have:=h.r1;omega,h.n0,by have:=h.n1;omega,by have:=h.b1;omega,fun b hb=>by have:=h.i1 b hb;omega,by have:=h.v1;omega⟩
theorem InsRow.ak {r:List C}(h:InsRow r):Go.AE.ak r=true:=by obtain⟨_,_,_,_,_,rfl⟩:=h;rfl
theorem VarRow.ak {r:List C}(h:VarRow r):Go.AE.ak r=true:=by obtain⟨_,_,_,rfl⟩:=h;rfl
theorem VGr.ah {lv:List (Nat×Obj)}{vars:List (List C)}{c:C}(h:VGr lv vars c):c.ah=false:=by
 rcases h with ⟨rfl,_⟩|⟨_,_,_,rfl,_⟩ <;> rfl
theorem VGr.aO {lv:List (Nat×Obj)}{vars:List (List C)}{c:C}(h:VGr lv vars c):c.aO=3:=by
 rcases h with ⟨rfl,_⟩|⟨_,_,_,rfl,_⟩ <;> rfl
theorem VGr.ay {lv:List (Nat×Obj)}{vars:List (List C)}{c:C}(h:VGr lv vars c):Go.AE.ay c=vars.length:=by
 rcases h with ⟨rfl,rfl,_⟩|⟨_,_,_,rfl,h,rfl,_⟩
 ·rfl
 ·simp[Go.AE.ay];omega
variable {F H H':Heap}{w:Nat}{s:LS}
theorem LInv.hw (h:LInv F H w s):H w=s.o:=h.kn.l 0 rfl
theorem LInv.vget (h:LInv F H w s):bh H s.vc=True∧rowsOf H s.vc=s.vars:=by
 rcases h.gv with ⟨h1,h2,_⟩|⟨y,all,n,h1,h2,h3,h4⟩
 ·rw[h1,h2];exact⟨rfl,rfl⟩
 ·have hy:H y=.vec 3 all:=(h.kn.get (y,.vec 3 all) (by simp[LS.L,h4])).1;rw[h1];refine⟨eq_true ?_,?_⟩
  ·simp only[Go.AE.bh,hy];exact⟨trivial,Zx⟩
  ·simp only[Go.AE.rowsOf,hy,Jab,h3]
theorem LInv.bvec (h:LInv F H w s)(hb:0<s.blocks.length):∃y,s.bc=.af y 5 0 s.blocks.length∧s.lb=[(y,.vec 5 (s.blocks.map Blk.row))]∧H y=.vec 5 (s.blocks.map Blk.row):=by
 rcases h.gb with ⟨_,h2,_⟩|⟨y,h1,h2⟩
 ·simp at h2;rw[h2]at hb;simp at hb
 ·refine⟨y,by rw[h1];simp,h2,?_⟩;exact (h.kn.get (y,.vec 5 (s.blocks.map Blk.row)) (by simp[LS.L,h2])).1
theorem LInv.setw {s':LS}(h:LInv F H w s)(h1:H'=H.set w s'.o)(a1:s'.lb=s.lb)(a2:s'.lv=s.lv)(a3:s'.blocks=s.blocks)(a4:s'.bc=s.bc)(a5:VGr s.lv s'.vars s'.vc)(a6:∀r∈s'.vars,VarRow r):LInv F H' w s':=by
 refine⟨?_,by rw[a1,a3,a4];exact h.gb,by rw[a2];exact a5,by rw[a3];exact h.gi,by rw[a3];exact h.ri,a6⟩;have:=h.kn.aB 0 (x:=w) (o:=s.o) rfl h1 (by simp[LS.o]);simp only[LS.L,a1,a2,a3];exact this
theorem YW {α:Type}{A X Y:List α}:(A++(X++Y)).Perm ((A++Y)++X):=by
 rw[Jk];exact .append_left _ Jo
theorem LInv.addBlk {K:V→Heap→Prop}{fl:Bool}{b:Blk}(h:LInv F H w s)(hl:s.blocks.length+1≤LIM)(b1:b.lg=[])(b2:b.ic=.sl true 4 [])(b3:b.aX=[])
  (hK:∀(y:Nat) (H1:Heap),H1 w=s.o→(∀H2,H2=H1.set w (LS.o { s with bc:=.af y 5 0 (s.blocks.length+1) })→
   LInv F H2 w { s with bc:=.af y 5 0 (s.blocks.length+1),lb:=[(y,.vec 5 ((s.blocks++[b]).map Blk.row))],blocks:=s.blocks++[b] })→K (.c (.af y 5 0 (s.blocks.length+1))) H1) :
  appQ H 5 s.bc (.sl fl 5 [b.row]) K:=by
 have kn:=h.kn;have kn:Kn F H [] (([(w,s.o)]++(s.lv++s.blocks.flatMap Blk.lg))++s.lb):=kn.perm YW;refine kn.grow h.gb (.mk' _ _ _ _) (by
  intro r hr;simp only[J2]at hr;subst hr;simp only[Blk.row,b2];rfl) Zaa fun y H1 kn=>?_
 have e1:(s.blocks.map Blk.row).length+[b.row].length=s.blocks.length+1:=Zz
 rw[e1];refine hK y H1 (kn.l 0 rfl) fun H2 h2=>⟨?_,?_,h.gv,?_,?_,h.rv⟩
 ·have:=kn.aB 0 (x:=w) (o:=s.o) rfl h2 (by simp[LS.o]);simp only[LS.L,Jam,List.flatMap_cons,List.flatMap_nil,b1,Jai,Jl,Jr,J5];simp only[Jx,Jp,Jao]at this⊢;refine this.perm (.cons _ ?_);exact Jo
 ·exact .mk _ _ _ Zz
 ·intro b' aZ;rcases Jc.1 aZ with aZ|aZ
  ·exact h.gi b' aZ
  ·simp at aZ;subst aZ;rw[b1,b2,b3];exact .nil 4
 ·intro b' aZ;rcases Jc.1 aZ with aZ|aZ
  ·exact h.ri b' aZ
  ·simp at aZ;subst aZ;rw[b3];simp
theorem Db {α β:Type}(f:α→List β)(l:List α)(i:Nat)(hi:i<l.length):(l.flatMap f).Perm (f l[i]++(l.eraseIdx i).flatMap f):=by
 have h1:(l[i]::l.eraseIdx i).Perm l:=by
  rw[List.eraseIdx_eq_take_drop_succ];refine List.perm_middle.symm.trans ?_;rw[←List.drop_eq_getElem_cons hi,List.take_append_drop]
 have h2:=h1.symm.flatMap_right f;simpa using h2
theorem Dm {α β:Type}(f:α→List β)(l:List α)(i:Nat)(x:α)(hi:i<l.length):((l.set i x).flatMap f).Perm (f x++(l.eraseIdx i).flatMap f):=by
 have:=Db f (l.set i x) i ZV;simpa[List.eraseIdx_set_eq]using this
theorem No (l:List Blk)(i:Nat)(b:Blk):(l.map Blk.row).set i b.row=(l.set i b).map Blk.row:=by rw[J6]
theorem GM {l:List Blk}{i:Nat}{b x:Blk}(h:x∈l.set i b):x=b∨x∈l:=by
 rcases Ca h with h|⟨j,_,h⟩
 ·exact .inl h
 ·exact .inr (Ja h)
theorem LInv.setBlk {b':Blk}{y i:Nat}(h:LInv F H w s)(hi:i<s.blocks.length)(dv:s.bc=.af y 5 0 s.blocks.length)(nt:s.lb=[(y,.vec 5 (s.blocks.map Blk.row))])
  (h1:H'=H.set y (.vec 5 ((s.blocks.set i b').map Blk.row))) (a1:b'.lg=s.blocks[i].lg) (a2:b'.ic=s.blocks[i].ic) (a3:b'.aX=s.blocks[i].aX) :
  LInv F H' w { s with lb:=[(y,.vec 5 ((s.blocks.set i b').map Blk.row))],blocks:=s.blocks.set i b' }:=by
 have hm:=Jag hi;refine⟨?_,?_,h.gv,fun b hb=>?_,fun b hb=>?_,h.rv⟩
 ·have kn:=h.kn;simp only[LS.L,nt]at kn;have kn:=kn.aB 1 (x:=y) rfl h1;refine kn.perm ?_;simp only[LS.L,Jx,Jp,Jao,List.set_cons_succ];refine .cons _ (.cons _ (.append_left _ ?_));refine (Db Blk.lg s.blocks i hi).trans ?_;rw[←a1];exact (Dm Blk.lg s.blocks i b' hi).symm
 ·simp only[dv];exact .mk _ _ _ Zz
 ·rcases GM hb with rfl|hb
  ·rw[a1,a2,a3];exact h.gi _ hm
  ·exact h.gi b hb
 ·rcases GM hb with rfl|hb
  ·rw[a3];exact h.ri _ hm
  ·exact h.ri b hb
theorem LInv.addIns {K:V→Heap→Prop}{y i:Nat}{fl:Bool}{r:List C}(h:LInv F H w s)(hi:i<s.blocks.length)(dv:s.bc=.af y 5 0 s.blocks.length)(nt:s.lb=[(y,.vec 5 (s.blocks.map Blk.row))])
  (hr:InsRow r) (hl:s.blocks[i].aX.length+1≤LIM)
  (hK:∀(z:Nat) (H1:Heap),H1 w=s.o→H1 y=.vec 5 (s.blocks.map Blk.row)→
   (∀H2,H2=H1.set y (.vec 5 ((s.blocks.map Blk.row).set i (Blk.row { s.blocks[i]with ic:=.af z 4 0 (s.blocks[i].aX.length+1) })))→
    ∃b':Blk,b'.aX.length=s.blocks[i].aX.length+1∧LInv F H2 w { s with lb:=[(y,.vec 5 ((s.blocks.set i b').map Blk.row))],blocks:=s.blocks.set i b' })→K (.c (.af z 4 0 (s.blocks[i].aX.length+1))) H1) :
  appQ H 4 s.blocks[i].ic (.sl fl 4 [r]) K:=by
 have hm:=Jag hi;have kn:=h.kn;simp only[LS.L]at kn;have kn:Kn F H [] (([(w,s.o)]++(s.lb++(s.lv++(s.blocks.eraseIdx i).flatMap Blk.lg)))++s.blocks[i].lg):=kn.perm (by
  have h1:(s.blocks.flatMap Blk.lg).Perm ((s.blocks.eraseIdx i).flatMap Blk.lg++s.blocks[i].lg):=(Db Blk.lg s.blocks i hi).trans Jo;refine ((h1.append_left _).append_left _ |>.append_left _).trans ?_;simp only[Jk];exact .refl _)
 refine kn.grow (h.gi _ hm) (.mk' _ _ _ _) (by intro r' be;simp only[J2]at be;subst be;exact hr.ak) Zaa fun z H1 kn=>?_;have e1:s.blocks[i].aX.length+[r].length=s.blocks[i].aX.length+1:=Zz
 rw[e1];simp only[nt]at kn;refine hK z H1 (kn.l 0 rfl) (kn.l 1 rfl) fun H2 h2=>?_;refine⟨{ s.blocks[i]with ic:=.af z 4 0 (s.blocks[i].aX.length+1),aX:=s.blocks[i].aX++[r],lg:=[(z,.vec 4 (s.blocks[i].aX++[r]))] },Zz,?_⟩;have aK:Blk.row { s.blocks[i]with ic:=.af z 4 0 (s.blocks[i].aX.length+1) }=Blk.row { s.blocks[i]with ic:=.af z 4 0 (s.blocks[i].aX.length+1),aX:=s.blocks[i].aX++[r],lg:=[(z,.vec 4 (s.blocks[i].aX++[r]))] }:=rfl;rw[aK,No]at h2;refine⟨?_,?_,h.gv,fun b hb=>?_,fun b hb=>?_,h.rv⟩
 ·have kn:=kn.aB 1 (x:=y) rfl h2;refine kn.perm ?_;simp only[LS.L];have h1:=(Dm Blk.lg s.blocks i { s.blocks[i]with ic:=.af z 4 0 (s.blocks[i].aX.length+1),aX:=s.blocks[i].aX++[r],lg:=[(z,.vec 4 (s.blocks[i].aX++[r]))] } hi).symm;have h3:=(Jo.trans h1).append_left ([(w,s.o)]++([(y,Obj.vec 5 ((s.blocks.set i { s.blocks[i]with ic:=.af z 4 0 (s.blocks[i].aX.length+1),aX:=s.blocks[i].aX++[r],lg:=[(z,.vec 4 (s.blocks[i].aX++[r]))] }).map Blk.row))]++s.lv));refine List.Perm.trans ?_ (h3.trans ?_)
  ·simp only[List.set,Jx,Jp,Jk];exact .refl _
  ·simp only[Jx,Jp];exact .refl _
 ·simp only[dv];exact .mk _ _ _ Zz
 ·rcases GM hb with rfl|hb
  ·exact .mk _ _ _ Zz
  ·exact h.gi b hb
 ·rcases GM hb with rfl|hb
  ·intro r' be;rcases Jc.1 be with be|be
   ·exact h.ri _ hm r' be
   ·simp at be;subst be;exact hr
  ·exact h.ri b hb
theorem LInv.addVar {K:V→Heap→Prop}{fl:Bool}{r:List C}(h:LInv F H w s)(hr:VarRow r)(hl:s.vars.length+1≤LIM)
  (hK:∀(y:Nat) (H1:Heap),H1 w=s.o→(∀H2,H2=H1.set w (LS.o { s with vc:=.af y 3 0 (s.vars.length+1) })→
   LInv F H2 w { s with vc:=.af y 3 0 (s.vars.length+1),lv:=[(y,.vec 3 (s.vars++[r]))],vars:=s.vars++[r] })→K (.c (.af y 3 0 (s.vars.length+1))) H1) :
  appQ H 3 s.vc (.sl fl 3 [r]) K:=by
 have uX:∀r'∈s.vars++[r],VarRow r':=fun r' be=>by
  rcases Jc.1 be with h1|h1
  ·exact h.rv r' h1
  ·simp at h1;subst h1;exact hr
 have kn:=h.kn;have kn:Kn F H [] (([(w,s.o)]++(s.lb++s.blocks.flatMap Blk.lg))++s.lv):=kn.perm (by
  simp only[LS.L];refine List.Perm.trans (.append_left _ (.append_left _ Jo)) ?_;simp only[Jk];exact .refl _)
 have fin:∀(y:Nat) (H1:Heap),Kn F H1 [] (([(w,s.o)]++(s.lb++s.blocks.flatMap Blk.lg))++[(y,.vec 3 (s.vars++[r]))])→K (.c (.af y 3 0 (s.vars.length+1))) H1:=by
  intro y H1 kn;refine hK y H1 (kn.l 0 rfl) fun H2 h2=>⟨?_,h.gb,.inr ⟨y,s.vars++[r],s.vars.length+1,rfl,Zz,by rw[Jy Zz],rfl⟩,h.gi,h.ri,uX⟩;have kn:=kn.aB 0 (x:=w) (o:=s.o) rfl h2 (by simp[LS.o]);refine kn.perm ?_;simp only[LS.L,List.set,Jx,Jp,Jk];refine .cons _ (.append_left _ ?_);exact Jo
 refine⟨trivial,rfl,?_⟩;rcases h.gv with ⟨h1,h2,h3⟩|⟨y,all,n,h1,h2,h3,h4⟩
 ·rw[h1];rw[h3,Jai]at kn;simp only[rowsOf,Go.AE.ay,Jp,Jak,Jap,Jal];refine⟨trivial,.inl trivial,by intro r' be;simp only[J2]at be;subst be;exact hr.ak,by simp only[LIM];omega,fun l hl H' dx=>?_⟩;have:=fin l H' (by rw[h2];simpa using kn.al hl dx);rw[h2]at this;exact this
 ·rw[h4]at kn;have hy:H y=.vec 3 all:=(kn.get (y,.vec 3 all) Zz).1;have hn:s.vars.length=n:=by rw[h3];simp;omega
  rw[h1];simp only[hy,rowsOf,Go.AE.ay,Jab,Jal];refine⟨trivial,trivial,Zx,by intro r' be;simp only[J2]at be;subst be;exact hr.ak,Zx,fun l' du H' dx=>?_⟩;rw[←hn]at dx⊢;rw[hn,←h3]at dx;refine fin l' H' ?_;have:=kn.ap ([(w,s.o)]++(s.lb++s.blocks.flatMap Blk.lg)).length (y:=y) (o:=.vec 3 all) Zz du dx;simpa using this
end Go.AE.Y
namespace Go.AE.Y
structure InsD where
 op:Int
 to:Int
 args:List Int
 n:Int
def InsD.cells (x:InsD):List C:=[.int .i64 x.op,.int .i64 x.to,.sl false 1 (Qb x.args),.int .i64 x.n]
structure PhiD where
 to:Int
 args:List Int
def PhiD.cells (x:PhiD):List C:=[.int .i64 x.to,.sl false 1 (Qb x.args)]
def Af (l:List InsD):List (List C):=l.map InsD.cells
def Ae (l:List PhiD):List (List C):=l.map PhiD.cells
structure BlkD where
 aa:List PhiD
 ins:List InsD
 jump:Int
 on:Int
 next:List Int
def BlkD.cells (x:BlkD):List C:=[.sl false 2 (Ae x.aa),.sl false 4 (Af x.ins),.int .i64 x.jump,.int .i64 x.on,.sl false 1 (Qb x.next)]
def Qo (l:List BlkD):List (List C):=l.map BlkD.cells
structure CodeD where
 params:Int
 ab:Int
 blocks:List BlkD
def CodeD.cells (x:CodeD):List C:=[.int .i64 x.params,.int .i64 x.ab,.sl false 5 (Qo x.blocks)]
def Qk (l:List CodeD):List (List C):=l.map CodeD.cells
theorem Ax (l:List InsD):(Af l).length=l.length:=by simp[Af]
theorem Q7 (l:List PhiD):(Ae l).length=l.length:=by simp[Ae]
theorem Qm (l:List BlkD):(Qo l).length=l.length:=by simp[Qo]
theorem Q0 (l:List CodeD):(Qk l).length=l.length:=by simp[Qk]
theorem B0 (l:List InsD)(i:Nat)(h:i<l.length):(Af l).getD i []=(l[i]'h).cells:=by simp[Af,Je,h]
theorem BL (l:List PhiD)(i:Nat)(h:i<l.length):(Ae l).getD i []=(l[i]'h).cells:=by simp[Ae,Je,h]
theorem Q9 (l:List BlkD)(i:Nat)(h:i<l.length):(Qo l).getD i []=(l[i]'h).cells:=by simp[Qo,Je,h]
theorem Bc (l:List CodeD)(i:Nat)(h:i<l.length):(Qk l).getD i []=(l[i]'h).cells:=by simp[Qk,Je,h]
theorem Hz (l:List InsD):∀r∈Af l,ak r=true:=by intro r hr;obtain⟨x,_,rfl⟩:=Ji.1 hr;rfl
theorem HN (l:List PhiD):∀r∈Ae l,ak r=true:=by intro r hr;obtain⟨x,_,rfl⟩:=Ji.1 hr;rfl
theorem N4 (l:List BlkD):∀r∈Qo l,ak r=true:=by intro r hr;obtain⟨x,_,rfl⟩:=Ji.1 hr;rfl
theorem Dg (l:List CodeD):∀r∈Qk l,ak r=true:=by intro r hr;obtain⟨x,_,rfl⟩:=Ji.1 hr;rfl
theorem Qazo (a:List CodeD)(x:CodeD):Qk a++[x.cells]=Qk (a++[x]):=by simp[Qk]
theorem Qbiz (a:List InsD)(x:InsD):Af a++[x.cells]=Af (a++[x]):=by simp[Af]
variable {H:Heap}{S:Nat→Bool}
theorem Gr.frzM {Lg:List (Nat×Obj)}{sz:Nat}{rows rows':List (List C)}{c:C}(h:Gr Lg sz rows c)(hm:∀p∈Lg,H p.1=p.2∧S p.1=true)(hr:FrzR H S rows rows'):FrzC H S c (.sl false sz rows'):=by
 rcases h with ⟨rfl,rfl,rfl⟩|⟨y,rfl,rfl⟩
 ·cases hr;exact FrzR.nil.sl
 ·obtain⟨h1,h2⟩:=hm (y,.vec sz rows) Zz;exact hr.af h2 h1 rfl
theorem InsRow.frz {r:List C}(h:InsRow r):∃d:InsD,FrzL H S r d.cells:=by
 obtain⟨op,to,n,fl,args,rfl⟩:=h;exact⟨⟨op,to,args,n⟩,.cons (Qg rfl) (.cons (Qg rfl) (.cons (FrzR.same (Qq _)).sl (.cons (Qg rfl) .nil)))⟩
def CodeD.fits (c:CodeD):Prop:=∀b∈c.blocks,b.ins.length≤2^38∧b.aa.length≤2^38
theorem Ns:∀(l:List (List C)),(∀r∈l,InsRow r)→∃ds:List InsD,FrzR H S l (Af ds)
 |[],_=>⟨[],.nil⟩
 |r::l,h=>by
  obtain⟨d,hd⟩:=(h r Jz).frz (H:=H) (S:=S);obtain⟨ds,iH⟩:=Ns l fun r' be=>h r' (Ju _ be);exact⟨d::ds,.cons hd iH⟩
theorem Kt:∀(l:List Blk),(∀b∈l,Gr b.lg 4 b.aX b.ic∧(∀r∈b.aX,InsRow r)∧(∀p∈b.lg,H p.1=p.2∧S p.1=true)∧b.aX.length≤2^38)→
  ∃bs:List BlkD,FrzR H S (l.map Blk.row) (Qo bs)∧bs.length=l.length∧∀b∈bs,b.ins.length≤2^38∧b.aa.length≤2^38
 |[],_=>⟨[],.nil,rfl,Zz⟩
 |b::l,h=>by
  obtain⟨g1,g2,g3,g4⟩:=h b Jz;obtain⟨bs,h1,h2,h3⟩:=Kt l fun r' be=>h r' (Ju _ be);obtain⟨ds,iH⟩:=Ns (H:=H) (S:=S) b.aX g2;have pC:=iH.spec.1;rw[Ax]at pC;refine⟨⟨[],ds,b.jump,b.on,b.next⟩::bs,.cons ?_ h1,by simp[h2],fun b' aZ=>?_⟩
  ·exact .cons FrzR.nil.sl (.cons (Gr.frzM g1 g3 iH) (.cons (Qg rfl) (.cons (Qg rfl) (.cons (FrzR.same (Qq _)).sl .nil))))
  ·rcases Jj.1 aZ with rfl|aZ
   ·exact⟨by show ds.length≤_;omega,Zz⟩
   ·exact h3 b' aZ
end Go.AE.Y
namespace Go.AE
variable {H0 H H' F:Heap}{E L B A:List (Nat×Obj)}
theorem Kn.toFrame {y:Nat}{o:Obj}(kn:Kn F H [] (L++[(y,o)])):Kn (F.set y o) H [] L:=by
 have cr:=kn.dL;rw[Jl]at cr;have bx:∀p∈L,p.1≠y:=fun p hp hh=>(Jg.1 cr).2.2 _ (A1 hp) y Zz hh;refine⟨fun p hp=>kn.get p (by simp only[Jp]at hp⊢;exact Jb _ hp),Zz,fun p hp=>?_,Zz,(Jg.1 cr).1,fun m hm _=>?_⟩
 ·rw[Heap.ai _ _ (bx p hp)];exact kn.loc p (Jb _ hp)
 ·by_cases h:m=y
  ·subst h;rw[Heap.aE];exact (kn.get (m,o) Zz).1
  ·rw[Heap.ai _ _ h]at hm⊢;exact kn.chg m hm Zz
theorem Kn.ofFrame {y:Nat}{o:Obj}(kn:Kn (F.set y o) H [] L)(hF:F y=.none)(ho:o≠.none):Kn F H [] (L++[(y,o)]):=by
 have hy:H y=o:=by have:=kn.chg y (by rw[Heap.aE];exact ho) Zz;rw[this,Heap.aE]
 have bx:∀p∈L,p.1≠y:=fun p hp hh=>by have:=kn.loc p hp;rw[hh,Heap.aE]at this;exact ho this
 refine⟨fun p hp=>?_,Zz,fun p hp=>?_,Zz,?_,fun m hm _=>?_⟩
 ·simp only[Jp]at hp;rcases Jc.1 hp with hp|hp
  ·exact kn.get p (by simpa using hp)
  ·simp at hp;subst hp;exact⟨hy,ho⟩
 ·rcases Jc.1 hp with hp|hp
  ·have:=kn.loc p hp;rw[Heap.ai _ _ (bx p hp)]at this;exact this
  ·simp at hp;subst hp;exact hF
 ·rw[Jl];refine Jg.2 ⟨kn.dL,Zz,fun a ha b hb=>?_⟩;simp at hb;subst hb;obtain⟨p,hp,rfl⟩:=Ji.1 ha;exact bx p hp
 ·have y8:m≠y:=fun h=>by subst h;exact hm hF
  have:=kn.chg m (by rw[Heap.ai _ _ y8];exact hm) Zz;rw[this,Heap.ai _ _ y8]
theorem Kn.frz1 {z:Nat}{o:Obj}(kn:Kn H0 H E (B++[(z,o)])):Kn H0 (H.frz fun m=>m == z) E B:=by
 have ev:H0 z=.none:=kn.loc (z,o) Zz;have cr:=kn.dL;rw[Jl]at cr;have bx:∀p∈B,p.1≠z:=fun p hp hh=>(Jg.1 cr).2.2 _ (A1 hp) z Zz hh;have oW:∀p∈E,p.1≠z:=fun p hp hh=>kn.ext p hp (hh▸ev);refine⟨fun p hp=>?_,kn.ext,fun p hp=>kn.loc p (Jb _ hp),kn.dE,(Jg.1 cr).1,fun m hm hx=>?_⟩
 ·have:p.1≠z:=by
   rcases Jc.1 hp with h|h
   ·exact oW p h
   ·exact bx p h
  have h2:(H.frz fun m=>m == z) p.1=H p.1:=by simp[Heap.frz,this]
  rw[h2];refine kn.get p ?_;rcases Jc.1 hp with h|h
  ·exact Jb _ h
  ·exact Jd _ (Jb _ h)
 ·have:m≠z:=fun h=>hm (h▸ev);have h2:(H.frz fun m=>m == z) m=H m:=by simp[Heap.frz,this]
  rw[h2];exact kn.chg m hm hx
theorem Gr.freeze {Lg:List (Nat×Obj)}{sz:Nat}{rows:List (List C)}{c:C}(h:Gr Lg sz rows c)(kn:Kn H0 H E (B++Lg))(hr:∀r∈rows,ak r=true) :
  ∃S H2,FrzC H S c (.sl false sz rows)∧FrzH H S H2∧Kn H0 H2 E B:=by
 rcases h with ⟨rfl,rfl,rfl⟩|⟨y,rfl,rfl⟩
 ·refine⟨fun _=>false,H,Y.FrzR.nil.sl,fun m=>.inr ⟨rfl,.same _⟩,ZH⟩
 ·exact⟨fun m=>m == y,_,(Y.FrzR.same hr).af Zz (kn.get (y,.vec sz rows) Zz).1 rfl,C7 _ _,kn.frz1⟩
end Go.AE
namespace Go.AE.Y
variable {F H H':Heap}{w:Nat}{s:LS}{Lg:List (Nat×Obj)}{sz:Nat}{rows:List (List C)}{c:C}
theorem LInv.re {H2:Heap}(h:LInv F H w s)(kn:Kn F H2 [] (s.L w)):LInv F H2 w s:=⟨kn,h.gb,h.gv,h.gi,h.ri,h.rv⟩
theorem LInv.beside (h:LInv F H w s)(kn:Kn F H [] (s.L w++Lg))(hg:Gr Lg sz rows c) :
  ∃F',LInv F' H w s∧∀(s':LS) (H':Heap),LInv F' H' w s'→LInv F H' w s'∧Kn F H' [] (s'.L w++Lg):=by
 rcases hg with ⟨_,_,rfl⟩|⟨y,_,rfl⟩
 ·exact⟨F,h,fun s' H' h'=>⟨h',by simpa using h'.kn⟩⟩
 ·refine⟨F.set y (.vec sz rows),⟨kn.toFrame,h.gb,h.gv,h.gi,h.ri,h.rv⟩,fun s' H' h'=>?_⟩;have k2:=h'.kn.ofFrame (kn.loc (y,.vec sz rows) Zz) Zz;exact⟨⟨k2.drop,h'.gb,h'.gv,h'.gi,h'.ri,h'.rv⟩,k2⟩
end Go.AE.Y
namespace Go.AE
variable {H0 H H':Heap}{E L N B:List (Nat×Obj)}
theorem Kn.comp0 (kn:Kn H0 H E L)(k2:Kn H H' [] N):Kn H0 H' E (L++N):=by
 have bx:∀p∈E++L,H p.1≠.none:=fun p hp=>by obtain⟨a,b⟩:=kn.get p hp;rw[a];exact b
 refine⟨fun p hp=>?_,kn.ext,fun p hp=>?_,kn.dE,?_,fun m hm hx=>?_⟩
 ·rw[←Jk]at hp;rcases Jc.1 hp with hp|hp
  ·obtain⟨a,b⟩:=kn.get p hp;exact⟨by rw[k2.chg p.1 (bx p hp) Zz,a],b⟩
  ·exact k2.get p (by simpa using hp)
 ·rcases Jc.1 hp with hp|hp
  ·exact kn.loc p hp
  ·exact (kn.newFree (k2.loc p hp)).1
 ·rw[Jl];refine Jg.2 ⟨kn.dL,k2.dL,fun a ha b hb dw=>?_⟩;obtain⟨p,hp,rfl⟩:=Ji.1 ha;obtain⟨q,hq,rfl⟩:=Ji.1 hb;exact bx p (Jd _ hp) (by rw[dw];exact k2.loc q hq)
 ·have:=kn.chg m hm hx;rw[k2.chg m (by rw[this];exact hm) Zz,this]
theorem Kn.compE (kn:Kn H0 H E L)(i:Nat){l:Nat}{o o':Obj}(h:E[i]? = some (l,o))(k2:Kn H H' [(l,o')] N):Kn H0 H' (E.set i (l,o')) (L++N):=by
 have bx:∀p∈E++L,H p.1≠.none:=fun p hp=>by obtain⟨a,b⟩:=kn.get p hp;rw[a];exact b
 have hl:H' l=o'∧o'≠.none:=k2.get (l,o') Zz;have hu:Upd H H' [(l,o')]:=⟨fun p hp=>by simp at hp;subst hp;exact hl.1,fun m hm hx=>k2.chg m hm hx⟩;have k3:=kn.an i h hu hl.2;refine⟨fun p hp=>?_,k3.ext,fun p hp=>?_,k3.dE,?_,k3.chg⟩
 ·rw[←Jk]at hp;rcases Jc.1 hp with hp|hp
  ·exact k3.get p hp
  ·exact k2.get p (Jd _ hp)
 ·rcases Jc.1 hp with hp|hp
  ·exact kn.loc p hp
  ·exact (kn.newFree (k2.loc p hp)).1
 ·rw[Jl];refine Jg.2 ⟨kn.dL,k2.dL,fun a ha b hb dw=>?_⟩;obtain⟨p,hp,rfl⟩:=Ji.1 ha;obtain⟨q,hq,rfl⟩:=Ji.1 hb;exact bx p (Jd _ hp) (by rw[dw];exact k2.loc q hq)
theorem Kn.finK (hk:Kn H0 H E (B++N)):Kn H0 (H.frz (Go.AE.unx H0 N)) E N:=by
 obtain⟨h1,h2⟩:=hk.finx;have hd:=hk.dL;rw[Jl]at hd;refine⟨fun p hp=>?_,hk.ext,fun p hp=>hk.loc p (Jd _ hp),hk.dE,(Jg.1 hd).2.1,h1.2⟩;rcases Jc.1 hp with hp|hp
 ·exact⟨h1.1 p hp,(hk.get p (Jb _ hp)).2⟩
 ·exact⟨(h2 p hp).2,(hk.get p (Jd _ (Jd _ hp))).2⟩
end Go.AE
namespace Go.AE.Y
structure OInts where
 ns:List Int
 y:Nat
def OInts.c (x:OInts):C:=.af x.y 1 0 x.ns.length
def OInts.lg (x:OInts):List (Nat×Obj):=[(x.y,.vec 1 (Qb x.ns))]
structure OPhi where
 to:Int
 ns:List Int
 ac:C
 lg:List (Nat×Obj)
def OPhi.row (x:OPhi):List C:=[.int .i64 x.to,x.ac]
def OPhi.ok (x:OPhi):Prop:=(∃y,x.ac=.af y 1 0 x.ns.length∧x.lg=[(y,.vec 1 (Qb x.ns))])∨(∃fl,x.ac=.sl fl 1 (Qb x.ns)∧x.lg=[])
def OPhi.own (x:OPhi):Prop:=∃y,x.ac=.af y 1 0 x.ns.length∧x.lg=[(y,.vec 1 (Qb x.ns))]
structure OIns where
 op:Int
 to:Int
 a:OInts
 n:Int
def OIns.row (x:OIns):List C:=[.int .i64 x.op,.int .i64 x.to,x.a.c,.int .i64 x.n]
def OIns.lg (x:OIns):List (Nat×Obj):=x.a.lg
structure OBlk where
 aa:List OPhi
 pc:C
 pl:List (Nat×Obj)
 ins:List OIns
 ic:C
 il:List (Nat×Obj)
 jump:Int
 on:Int
 nx:OInts
def OBlk.row (x:OBlk):List C:=[x.pc,x.ic,.int .i64 x.jump,.int .i64 x.on,x.nx.c]
def OBlk.lg (x:OBlk):List (Nat×Obj):=x.nx.lg++(x.aa.flatMap OPhi.lg++(x.pl++(x.ins.flatMap OIns.lg++x.il)))
structure OBlk.ok (x:OBlk):Prop where
 p:Gr x.pl 2 (x.aa.map OPhi.row) x.pc
 i:Gr x.il 4 (x.ins.map OIns.row) x.ic
 a:∀p∈x.aa,p.ok
structure OCode where
 params:Int
 ab:Int
 blocks:List OBlk
 bc:C
 bl:List (Nat×Obj)
def OCode.row (x:OCode):List C:=[.int .i64 x.params,.int .i64 x.ab,x.bc]
def OCode.lg (x:OCode):List (Nat×Obj):=x.blocks.flatMap OBlk.lg++x.bl
structure OCode.ok (x:OCode):Prop where
 b:Gr x.bl 5 (x.blocks.map OBlk.row) x.bc
 bs:∀b∈x.blocks,b.ok
def OPhi.d (x:OPhi):PhiD:=⟨x.to,x.ns⟩
def OIns.d (x:OIns):InsD:=⟨x.op,x.to,x.a.ns,x.n⟩
def OBlk.d (x:OBlk):BlkD:=⟨x.aa.map OPhi.d,x.ins.map OIns.d,x.jump,x.on,x.nx.ns⟩
def OCode.d (x:OCode):CodeD:=⟨x.params,x.ab,x.blocks.map OBlk.d⟩
theorem OPhi.ak (x:OPhi)(h:x.ok):Go.AE.ak x.row=true:=by
 rcases h with ⟨y,h,_⟩|⟨fl,h,_⟩ <;> simp only[Go.AE.ak,OPhi.row,h] <;> rfl
theorem OIns.ak (x:OIns):Go.AE.ak x.row=true:=rfl
theorem OBlk.ak (x:OBlk)(h:x.ok):Go.AE.ak x.row=true:=by
 simp only[Go.AE.ak,OBlk.row,OInts.c,J0,J4,h.p.ah,h.i.ah];rfl
theorem OCode.ak (x:OCode)(h:x.ok):Go.AE.ak x.row=true:=by
 simp only[Go.AE.ak,OCode.row,J0,J4,h.b.ah];rfl
variable {H:Heap}{S:Nat→Bool}
def Held (H:Heap)(S:Nat→Bool)(l:List (Nat×Obj)):Prop:=∀p∈l,H p.1=p.2∧S p.1=true
theorem Held.l {a b:List (Nat×Obj)}(h:Held H S (a++b)):Held H S a:=fun p hp=>h p (Jb _ hp)
theorem Held.r {a b:List (Nat×Obj)}(h:Held H S (a++b)):Held H S b:=fun p hp=>h p (Jd _ hp)
theorem Held.m {α:Type}{f:α→List (Nat×Obj)}{l:List α}(h:Held H S (l.flatMap f)){x:α}(hx:x∈l):Held H S (f x):=fun p hp=>h p (List.mem_flatMap.2 ⟨x,hx,hp⟩)
theorem OInts.frz (x:OInts)(h:Held H S x.lg):FrzC H S x.c (.sl false 1 (Qb x.ns)):=by
 obtain⟨h1,h2⟩:=h (x.y,.vec 1 (Qb x.ns)) (by simp[OInts.lg]);exact (FrzR.same (Qq _)).af h2 h1 Zae
theorem OPhi.frz (x:OPhi)(au:x.ok)(h:Held H S x.lg):FrzL H S x.row (PhiD.mk x.to x.ns).cells:=by
 refine .cons (Qg rfl) (.cons ?_ .nil);rcases au with ⟨y,h1,h2⟩|⟨fl,h1,h2⟩
 ·obtain⟨h3,h4⟩:=h (y,.vec 1 (Qb x.ns)) ZZ;rw[h1];exact (FrzR.same (Qq _)).af h4 h3 Zae
 ·rw[h1];exact (FrzR.same (Qq _)).sl
theorem OIns.frz (x:OIns)(h:Held H S x.lg):FrzL H S x.row (InsD.mk x.op x.to x.a.ns x.n).cells:=.cons (Qg rfl) (.cons (Qg rfl) (.cons (x.a.frz h) (.cons (Qg rfl) .nil)))
theorem G1 {α β:Type}{f:α→List C}{g:β→List C}:∀(l:List α),(∀x∈l,∃y,FrzL H S (f x) (g y))→∃l':List β,FrzR H S (l.map f) (l'.map g)∧l'.length=l.length
 |[],_=>⟨[],.nil,rfl⟩
 |x::l,h=>by
  obtain⟨y,hy⟩:=h x Jz;obtain⟨l',du,hn⟩:=G1 l fun z hz=>h z (Ju _ hz);exact⟨y::l',.cons hy du,ZaG⟩
theorem G9 {α β:Type}{P:β→Prop}{f:α→List C}{g:β→List C}:∀(l:List α),(∀x∈l,∃y,FrzL H S (f x) (g y)∧P y)→∃l':List β,FrzR H S (l.map f) (l'.map g)∧l'.length=l.length∧∀y∈l',P y
 |[],_=>⟨[],.nil,rfl,Zz⟩
 |x::l,h=>by
  obtain⟨y,hy,hp⟩:=h x Jz;obtain⟨l',du,hn,i7⟩:=G9 l fun z hz=>h z (Ju _ hz);refine⟨y::l',.cons hy du,ZaG,fun z hz=>?_⟩;rcases Jj.1 hz with rfl|hz
  ·exact hp
  ·exact i7 z hz
theorem OBlk.frz (x:OBlk)(au:x.ok)(h:Held H S x.lg):∃d:BlkD,FrzL H S x.row d.cells∧d.next=x.nx.ns∧d.ins.length=x.ins.length∧d.aa.length=x.aa.length:=by
 obtain⟨ps,i7,rr⟩:=G1 (H:=H) (S:=S) (f:=OPhi.row) (g:=PhiD.cells) x.aa fun p hp=>⟨_,p.frz (au.a p hp) (h.r.l.m hp)⟩;obtain⟨is,his,dm⟩:=G1 (H:=H) (S:=S) (f:=OIns.row) (g:=InsD.cells) x.ins fun p hp=>⟨_,p.frz (h.r.r.r.l.m hp)⟩;exact⟨⟨ps,is,x.jump,x.on,x.nx.ns⟩,.cons (Gr.frzM au.p h.r.r.l i7) (.cons (Gr.frzM au.i h.r.r.r.r his) (.cons (Qg rfl) (.cons (Qg rfl) (.cons (x.nx.frz h.l) .nil)))),rfl,dm,rr⟩
end Go.AE.Y
namespace Go.AE.Y
theorem Cs {α:Type}{A L1 L2:List α}:(A++L1++L2).Perm (A++L2++L1):=by
 rw[Jk,Jk];exact .append_left _ Jo
structure BlkD.sm (b:BlkD):Prop where
 n:b.next.length≤2
 i:b.ins.length≤1000
 p:b.aa.length≤1000
 ia:∀x∈b.ins,x.args.length≤1000
 pa:∀x∈b.aa,x.args.length≤1000
structure CodeD.sm (c:CodeD):Prop where
 b0:0<c.blocks.length
 b:c.blocks.length≤160
 bs:∀b∈c.blocks,b.sm
 p0:0≤c.params
 p1:c.params≤1000
structure OBlk.sm (b:OBlk)(N:Nat):Prop where
 n:b.nx.ns.length≤2
 i:b.ins.length≤1000
 p:b.aa.length≤N
 ia:∀x∈b.ins,x.a.ns.length≤N
structure OCode.sm (c:OCode)(N:Nat):Prop where
 b0:0<c.blocks.length
 b:c.blocks.length≤160
 bs:∀b∈c.blocks,b.sm N
 p0:0≤c.params
 p1:c.params≤1000
theorem OBlk.sm.mono {b:OBlk}{N M:Nat}(h:b.sm N)(hm:N≤M):b.sm M:=⟨h.n,h.i,by have:=h.p;omega,fun x hx=>by have:=h.ia x hx;omega⟩
theorem OCode.sm.mono {c:OCode}{N M:Nat}(h:c.sm N)(hm:N≤M):c.sm M:=⟨h.b0,h.b,fun b hb=>(h.bs b hb).mono hm,h.p0,h.p1⟩
structure CodeD.gd (c:CodeD):Prop where
 b0:0<c.blocks.length
 b1:c.blocks.length≤160
 n:∀b∈c.blocks,b.next.length≤2
 f:c.fits
theorem CodeD.sm.fits {c:CodeD}(h:c.sm):c.fits:=fun b hb=>⟨by have:=(h.bs b hb).i;omega,by have:=(h.bs b hb).p;omega⟩
theorem CodeD.sm.gd {c:CodeD}(h:c.sm):c.gd:=⟨h.b0,h.b,fun b hb=>(h.bs b hb).n,h.fits⟩
structure BlkD.sg (b:BlkD):Prop where
 n:b.next.length≤1000000
 i:b.ins.length≤1000000
 p:b.aa.length≤1000000
 ia:∀x∈b.ins,x.args.length≤1000000
 pa:∀x∈b.aa,x.args.length≤1000000
structure CodeD.sg (c:CodeD):Prop where
 b:c.blocks.length≤1000000
 bs:∀b∈c.blocks,b.sg
theorem BlkD.sm.sg {b:BlkD}(h:b.sm):b.sg:=⟨by have:=h.n;omega,by have:=h.i;omega,by have:=h.p;omega,fun x hx=>by have:=h.ia x hx;omega,fun x hx=>by have:=h.pa x hx;omega⟩
theorem CodeD.sm.sg {c:CodeD}(h:c.sm):c.sg:=⟨by have:=h.b;omega,fun b hb=>(h.bs b hb).sg⟩
theorem BlkD.sm.o {o:OBlk}(h:o.d.sm):o.sm 1000:=
 ⟨h.n,by have:=h.i;simp only[OBlk.d,J1]at this;exact this,by have:=h.p;simp only[OBlk.d,J1]at this;exact this,fun x hx=>h.ia x.d (Ji.2 ⟨x,hx,rfl⟩)⟩
theorem CodeD.sm.o {o:OCode}(h:o.d.sm):o.sm 1000:=
 ⟨by have:=h.b0;simp only[OCode.d,J1]at this;exact this,by have:=h.b;simp only[OCode.d,J1]at this;exact this,fun b hb=>(h.bs b.d (Ji.2 ⟨b,hb,rfl⟩)).o,h.p0,h.p1⟩
variable {H:Heap}{S:Nat→Bool}
theorem OCode.frz (x:OCode){N:Nat}(hN:N≤100000)(au:x.ok)(hs:x.sm N)(h:Held H S x.lg):∃d:CodeD,FrzL H S x.row d.cells∧d.gd:=by
 obtain⟨bs,jy,dt,qu⟩:=G9 (H:=H) (S:=S) (P:=fun d:BlkD=>d.next.length≤2∧d.ins.length≤2^38∧d.aa.length≤2^38) (f:=OBlk.row) (g:=BlkD.cells) x.blocks fun b hb=>by
  obtain⟨d,h1,h2,h3,h4⟩:=b.frz (au.bs b hb) (h.l.m hb);have ka:=hs.bs b hb;exact⟨d,h1,by rw[h2];exact ka.n,by have:=ka.i;omega,by have:=ka.p;omega⟩
 have eH:=hs.b0;have bj:=hs.b;exact⟨⟨x.params,x.ab,bs⟩,.cons (Qg rfl) (.cons (Qg rfl) (.cons (Gr.frzM au.b h.r jy) .nil)),by show 0<bs.length;omega,by show bs.length≤_;omega,fun b hb=>(qu b hb).1,fun b hb=>(qu b hb).2⟩
theorem OCodes.frz {N:Nat}(hN:N≤100000){us:List OCode}{cc:C}{cl:List (Nat×Obj)}(hg:Gr cl 3 (us.map OCode.row) cc)(hu:∀u∈us,u.ok∧u.sm N)(h:Held H S (us.flatMap OCode.lg++cl)) :
  ∃cs:List CodeD,FrzC H S cc (.sl false 3 (Qk cs))∧cs.length=us.length∧∀c∈cs,c.gd:=by
 obtain⟨cs,h1,h2,h3⟩:=G9 (H:=H) (S:=S) (P:=CodeD.gd) (f:=OCode.row) (g:=CodeD.cells) us fun u ee=>u.frz hN (hu u ee).1 (hu u ee).2 (h.l.m ee);exact⟨cs,Gr.frzM hg h.r h1,h2,h3⟩
end Go.AE.Y
namespace Go.AE
variable {P:Program}
theorem A4 {a b:SC}{Q:X→Env→Heap→Prop}{e:Env}{H:Heap}(T:Env→Heap→Prop)(h1:∀Q':X→Env→Heap→Prop,(∀e H,T e H→Q' .nrm e H)→(∀e H,Q .ret e H→Q' .ret e H)→(∀i e H,Q (.exit i) e H→Q' (.exit i) e H)→Ac P a Q' e H)
  (h2:∀e H,T e H→Ac P b Q e H):Ac P (.seq a b) Q e H:=h1 (X.sq P b Q) h2 (fun _ _ h=>h) (fun _ _ _ h=>h)
end Go.AE
namespace Go.AE.Y
structure UPhi where
 to:Int
 ns:List Int
 ac:C
 al:List (Nat×Obj)
def UPhi.row (x:UPhi):List C:=[.int .i64 x.to,x.ac]
structure UBlk where
 aa:List UPhi
 pc:C
 pl:List (Nat×Obj)
 ins:List InsD
 ic:C
 il:List (Nat×Obj)
 jump:Int
 on:Int
 nfl:Bool
 next:List Int
def UBlk.row (x:UBlk):List C:=[x.pc,x.ic,.int .i64 x.jump,.int .i64 x.on,.sl x.nfl 1 (Qb x.next)]
def UBlk.lg (x:UBlk):List (Nat×Obj):=x.il++(x.aa.flatMap UPhi.al++x.pl)
structure UBlk.ok (x:UBlk):Prop where
 p:Gr x.pl 2 (x.aa.map UPhi.row) x.pc
 i:Gr x.il 4 (Af x.ins) x.ic
 a:∀p∈x.aa,Gr p.al 1 (Qb p.ns) p.ac
structure UBlk.sm (b:UBlk)(N:Nat):Prop where
 n:b.next.length≤2
 i:b.ins.length≤1000
 p:b.aa.length≤N
 ia:∀x∈b.ins,x.args.length≤1000
 pa:∀x∈b.aa,x.ns.length≤1000
structure UCode where
 params:Int
 ab:Int
 blocks:List UBlk
 bc:C
 bl:List (Nat×Obj)
def UCode.row (x:UCode):List C:=[.int .i64 x.params,.int .i64 x.ab,x.bc]
def UCode.lg (x:UCode):List (Nat×Obj):=x.blocks.flatMap UBlk.lg++x.bl
structure UCode.ok (x:UCode):Prop where
 b:Gr x.bl 5 (x.blocks.map UBlk.row) x.bc
 bs:∀b∈x.blocks,b.ok
 p0:0≤x.params
 p1:x.params≤3
structure UCode.sm (c:UCode)(N:Nat):Prop where
 b0:0<c.blocks.length
 b:c.blocks.length≤160
 bs:∀b∈c.blocks,b.sm N
theorem UPhi.ak (x:UPhi)(h:Gr x.al 1 (Qb x.ns) x.ac):Go.AE.ak x.row=true:=by
 simp only[Go.AE.ak,UPhi.row,J0,J4,h.ah];rfl
theorem UBlk.ak (x:UBlk)(h:x.ok):Go.AE.ak x.row=true:=by
 simp only[Go.AE.ak,UBlk.row,J0,J4,h.p.ah,h.i.ah];rfl
theorem UCode.ak (x:UCode)(h:x.ok):Go.AE.ak x.row=true:=by
 simp only[Go.AE.ak,UCode.row,J0,J4,h.b.ah];rfl
theorem UBlk.len5 (x:UBlk):x.row.length=5:=rfl
theorem UCode.len3 (x:UCode):x.row.length=3:=rfl
theorem UBlk.sm.mono {b:UBlk}{N M:Nat}(h:b.sm N)(hm:N≤M):b.sm M:=⟨h.n,h.i,by have:=h.p;omega,h.ia,h.pa⟩
theorem UCode.sm.mono {c:UCode}{N M:Nat}(h:c.sm N)(hm:N≤M):c.sm M:=⟨h.b0,h.b,fun b hb=>(h.bs b hb).mono hm⟩
variable {H:Heap}{S:Nat→Bool}
theorem UBlk.frz (x:UBlk){N:Nat}(hN:N≤1000)(au:x.ok)(hs:x.sm N)(h:Held H S x.lg):∃d:BlkD,FrzL H S x.row d.cells∧d.sm:=by
 obtain⟨ps,i7,rr,hpp⟩:=G9 (H:=H) (S:=S) (P:=fun p:PhiD=>p.args.length≤1000) (f:=UPhi.row) (g:=PhiD.cells) x.aa fun p hp=>
  ⟨⟨p.to,p.ns⟩,.cons (Qg rfl) (.cons (Gr.frzM (au.a p hp) (h.r.l.m hp) (FrzR.same (Qq _))) .nil),hs.pa p hp⟩
 have h1:=hs.n;have h2:=hs.i;have h3:=hs.p;exact⟨⟨ps,x.ins,x.jump,x.on,x.next⟩,.cons (Gr.frzM au.p h.r.r i7) (.cons (Gr.frzM au.i h.l (FrzR.same (Hz _))) (.cons (Qg rfl) (.cons (Qg rfl) (.cons (FrzR.same (Qq _)).sl .nil)))),
  h1,h2,by show ps.length≤_;omega,hs.ia,hpp⟩
theorem UCode.frz (x:UCode){N:Nat}(hN:N≤1000)(au:x.ok)(hs:x.sm N)(h:Held H S x.lg):∃d:CodeD,FrzL H S x.row d.cells∧d.sm:=by
 obtain⟨bs,jy,dt,qu⟩:=G9 (H:=H) (S:=S) (P:=BlkD.sm) (f:=UBlk.row) (g:=BlkD.cells) x.blocks fun b hb=>b.frz hN (au.bs b hb) (hs.bs b hb) (h.l.m hb);have eH:=hs.b0;have bj:=hs.b;exact⟨⟨x.params,x.ab,bs⟩,.cons (Qg rfl) (.cons (Qg rfl) (.cons (Gr.frzM au.b h.r jy) .nil)),by show 0<bs.length;omega,by show bs.length≤_;omega,qu,au.p0,by have:=au.p1;show x.params≤_;omega⟩
theorem UCodes.frz {us:List UCode}{N:Nat}(hN:N≤1000){cc:C}{cl:List (Nat×Obj)}(hg:Gr cl 3 (us.map UCode.row) cc)(hu:∀u∈us,u.ok∧u.sm N)(h:Held H S (us.flatMap UCode.lg++cl)) :
  ∃cs:List CodeD,FrzC H S cc (.sl false 3 (Qk cs))∧cs.length=us.length∧∀c∈cs,c.sm:=by
 obtain⟨cs,h1,h2,h3⟩:=G9 (H:=H) (S:=S) (P:=CodeD.sm) (f:=UCode.row) (g:=CodeD.cells) us fun u ee=>u.frz hN (hu u ee).1 (hu u ee).2 (h.l.m ee);exact⟨cs,Gr.frzM hg h.r h1,h2,h3⟩
end Go.AE.Y
namespace Go.AE.Y
theorem Qj {α:Type}{l1 l2:List α}(h:∀f:List α→Nat,(∀a b,f (a++b)=f a+f b)→f []=0→(∀x l,f (x::l)=f [x]+f l)→(∀a b:List α,a.Perm b→f a=f b)→f l1=f l2):l1.Perm l2:=by
 classical
 exact List.perm_iff_count.2 fun a=>h (List.count a) (fun _ _=>List.count_append) rfl (fun x l=>by rw[Jas,Jas];simp;omega) (fun _ _ hp=>hp.count_eq a)
def UBlk.core (x:UBlk):List (Nat×Obj):=x.il++x.aa.flatMap UPhi.al
def BB (us:List UCode)(ci bi:Nat)(hc:ci<us.length):List (Nat×Obj):=(us[ci].blocks.eraseIdx bi).flatMap UBlk.lg++(us.eraseIdx ci).flatMap UCode.lg
theorem Y4 (us:List UCode)(ci bi:Nat)(hc:ci<us.length)(hb:bi<us[ci].blocks.length) :
  (us.flatMap UCode.lg).Perm (us[ci].bl++(us[ci].blocks[bi].pl++(us[ci].blocks[bi].core++BB us ci bi hc))):=by
 refine Qj fun f hf h0 bF hp=>?_;rw[hp _ _ (Db UCode.lg us ci hc)];simp only[hf,UCode.lg,BB];rw[hp _ _ (Db UBlk.lg us[ci].blocks bi hb)];simp only[hf,UBlk.lg,UBlk.core];omega
def UCode.put (u:UCode)(bi:Nat)(b:UBlk)(bl:List (Nat×Obj)):UCode:={ u with blocks:=u.blocks.set bi b,bl:=bl }
theorem Qb0x (us:List UCode)(ci bi:Nat)(hc:ci<us.length)(hb:bi<us[ci].blocks.length)(b:UBlk)(bl:List (Nat×Obj)) :
  ((us.set ci (us[ci].put bi b bl)).flatMap UCode.lg).Perm (bl++(b.pl++(b.core++BB us ci bi hc))):=by
 refine Qj fun f hf h0 bF hp=>?_;rw[hp _ _ (Dm UCode.lg us ci _ hc)];simp only[hf,UCode.lg,BB,UCode.put];rw[hp _ _ (Dm UBlk.lg us[ci].blocks bi _ hb)];simp only[hf,UBlk.lg,UBlk.core];omega
theorem UBlk.core_snoc (b:UBlk)(p:UPhi)(pc:C)(pl:List (Nat×Obj)):UBlk.core { b with aa:=b.aa++[p],pc:=pc,pl:=pl }=b.core++p.al:=by
 simp[UBlk.core,Jam]
theorem UCode.put_row (u:UCode)(bi:Nat)(b:UBlk)(bl:List (Nat×Obj)):(u.put bi b bl).row=u.row:=rfl
theorem Qb0y (us:List UCode)(ci:Nat)(hc:ci<us.length)(u:UCode)(h:u.row=us[ci].row):(us.set ci u).map UCode.row=us.map UCode.row:=by
 rw[J6,h];refine Jaf Zz fun i h1 h2=>?_;rw[J7];split
 ·rename_i h;subst h;simp
 ·rfl
theorem UCode.put_ok {u:UCode}{bi:Nat}{b:UBlk}{y:Nat}(h:u.ok)(hb:b.ok)(bB:u.bl=[(y,.vec 5 (u.blocks.map UBlk.row))]):(u.put bi b [(y,.vec 5 ((u.blocks.set bi b).map UBlk.row))]).ok:=by
 refine⟨?_,fun b' aZ=>?_,h.p0,h.p1⟩
 ·rcases h.b with ⟨h1,h2,h3⟩|⟨y',h1,h2⟩
  ·rw[bB]at h3;simp at h3
  ·rw[bB]at h2;have:y=y':=ZT
   subst this;exact .inr ⟨y,by show u.bc=_;rw[h1];simp[UCode.put],rfl⟩
 ·rcases Jn aZ with aZ|rfl
  ·exact h.bs _ aZ
  ·exact hb
theorem UCode.put_sm {u:UCode}{bi N:Nat}{b:UBlk}{bl:List (Nat×Obj)}(h:u.sm N)(hb:b.sm (N+1)):(u.put bi b bl).sm (N+1):=by
 refine⟨by show 0<(u.blocks.set bi b).length;simpa using h.b0,by show (u.blocks.set bi b).length≤_;simpa using h.b,fun b' aZ=>?_⟩;rcases Jn aZ with aZ|rfl
 ·exact (h.bs _ aZ).mono Zx
 ·exact hb
theorem UCode.bvec {u:UCode}(h:u.ok)(h0:0<u.blocks.length):∃y,u.bc=.af y 5 0 u.blocks.length∧u.bl=[(y,.vec 5 (u.blocks.map UBlk.row))]:=by
 rcases h.b with ⟨h1,h2,h3⟩|⟨y,h1,h2⟩
 ·have:=J9.1 h2;rw[this]at h0;simp at h0
 ·exact⟨y,by rw[h1];simp,h2⟩
def Ba (us:List OCode)(ci bi:Nat)(hc:ci<us.length):List (Nat×Obj):=(us[ci].blocks.eraseIdx bi).flatMap OBlk.lg++(us.eraseIdx ci).flatMap OCode.lg
theorem Qbu8 (us:List OCode)(ci bi:Nat)(hc:ci<us.length)(hb:bi<us[ci].blocks.length) :
  (us.flatMap OCode.lg).Perm (us[ci].bl++(us[ci].blocks[bi].lg++Ba us ci bi hc)):=by
 refine Qj fun f hf h0 bF hp=>?_;rw[hp _ _ (Db OCode.lg us ci hc)];simp only[hf,OCode.lg,Ba];rw[hp _ _ (Db OBlk.lg us[ci].blocks bi hb)];simp only[hf];omega
def OCode.put (u:OCode)(bi:Nat)(b:OBlk)(bl:List (Nat×Obj)):OCode:={ u with blocks:=u.blocks.set bi b,bl:=bl }
theorem VA (us:List OCode)(ci bi:Nat)(hc:ci<us.length)(hb:bi<us[ci].blocks.length)(b:OBlk)(bl:List (Nat×Obj)) :
  ((us.set ci (us[ci].put bi b bl)).flatMap OCode.lg).Perm (bl++(b.lg++Ba us ci bi hc)):=by
 refine Qj fun f hf h0 bF hp=>?_;rw[hp _ _ (Dm OCode.lg us ci _ hc)];simp only[hf,OCode.lg,Ba,OCode.put];rw[hp _ _ (Dm OBlk.lg us[ci].blocks bi _ hb)];simp only[hf];omega
theorem V9 (us:List OCode)(ci:Nat)(hc:ci<us.length)(u:OCode)(h:u.row=us[ci].row):(us.set ci u).map OCode.row=us.map OCode.row:=by
 rw[J6,h];refine Jaf Zz fun i h1 h2=>?_;rw[J7];split
 ·rename_i h;subst h;simp
 ·rfl
theorem OCode.put_ok {u:OCode}{bi:Nat}{b:OBlk}{y:Nat}(h:u.ok)(hb:b.ok)(bB:u.bl=[(y,.vec 5 (u.blocks.map OBlk.row))]):(u.put bi b [(y,.vec 5 ((u.blocks.set bi b).map OBlk.row))]).ok:=by
 refine⟨?_,fun b' aZ=>?_⟩
 ·rcases h.b with ⟨h1,h2,h3⟩|⟨y',h1,h2⟩
  ·rw[bB]at h3;simp at h3
  ·rw[bB]at h2;have:y=y':=ZT
   subst this;exact .inr ⟨y,by show u.bc=_;rw[h1];simp[OCode.put],rfl⟩
 ·rcases Jn aZ with aZ|rfl
  ·exact h.bs _ aZ
  ·exact hb
theorem OCode.put_sm {u:OCode}{bi:Nat}{b:OBlk}{bl:List (Nat×Obj)}{N:Nat}(h:u.sm N)(hb:b.sm (N+1)):(u.put bi b bl).sm (N+1):=by
 refine⟨by show 0<(u.blocks.set bi b).length;simpa using h.b0,by show (u.blocks.set bi b).length≤_;simpa using h.b,fun b' aZ=>?_,h.p0,h.p1⟩;rcases Jn aZ with aZ|rfl
 ·exact (h.bs _ aZ).mono Zx
 ·exact hb
theorem OCode.bvec {u:OCode}(h:u.ok)(h0:0<u.blocks.length):∃y,u.bc=.af y 5 0 u.blocks.length∧u.bl=[(y,.vec 5 (u.blocks.map OBlk.row))]:=by
 rcases h.b with ⟨h1,h2,h3⟩|⟨y,h1,h2⟩
 ·have:=J9.1 h2;rw[this]at h0;simp at h0
 ·exact⟨y,by rw[h1];simp,h2⟩
theorem OBlk.ivec {u:OBlk}(h:u.ok)(h0:0<u.ins.length):∃y,u.ic=.af y 4 0 u.ins.length∧u.il=[(y,.vec 4 (u.ins.map OIns.row))]:=by
 rcases h.i with ⟨h1,h2,h3⟩|⟨y,h1,h2⟩
 ·have:=J9.1 h2;rw[this]at h0;simp at h0
 ·exact⟨y,by rw[h1];simp,h2⟩
variable {H0 H H2:Heap}{E X cl:List (Nat×Obj)}
theorem Qbid {us:List OCode}{ci bi yb:Nat}{u:OCode}{b:OBlk}(kn:Kn H0 H E (X++us.flatMap OCode.lg++cl))(hc:ci<us.length)(hu:us[ci]=u)(hb:bi<u.blocks.length)(hub:u.blocks[bi]=b)
  (bB:u.bl=[(yb,.vec 5 (u.blocks.map OBlk.row))]):Kn H0 H E ([(yb,.vec 5 (u.blocks.map OBlk.row))]++(b.lg++(Ba us ci bi hc++(X++cl)))):=by
 subst hu;subst hub;refine kn.perm (Qj fun f hf h0 bF hp=>?_);have h1:=hp _ _ (Qbu8 us ci bi hc hb);rw[bB]at h1;simp only[hf]at h1⊢;omega
theorem Qbmo {us:List OCode}{ci bi yb:Nat}{u:OCode}{b':OBlk}{cc:C}(hc:ci<us.length)(hu:us[ci]=u)(hb:bi<u.blocks.length)
  (bB:u.bl=[(yb,.vec 5 (u.blocks.map OBlk.row))]) {N:Nat} (au:∀u∈us,u.ok∧u.sm N) (oR:b'.ok) (uR:b'.sm (N+1)) (hg:Gr cl 3 (us.map OCode.row) cc)
  (kn:Kn H0 H E ([(yb,.vec 5 ((u.blocks.set bi b').map OBlk.row))]++(b'.lg++(Ba us ci bi hc++(X++cl))))) :
  ∃us':List OCode,us'.length=us.length∧Gr cl 3 (us'.map OCode.row) cc∧(∀u∈us',u.ok∧u.sm (N+1))∧Kn H0 H E (X++us'.flatMap OCode.lg++cl):=by
 obtain⟨h1,h2⟩:=au _ (Jag hc);rw[hu]at h1 h2;refine⟨us.set ci (u.put bi b' [(yb,.vec 5 ((u.blocks.set bi b').map OBlk.row))]),Zz,?_,fun v hv=>?_,kn.perm (Qj fun f hf h0 bF hp=>?_)⟩
 ·rw[V9 us ci hc _ (by rw[hu];rfl)];exact hg
 ·rcases Jn hv with hv|rfl
  ·exact⟨(au v hv).1,(au v hv).2.mono Zx⟩
  ·exact⟨OCode.put_ok h1 oR bB,OCode.put_sm h2 uR⟩
 ·subst hu;have h1:=hp _ _ (VA us ci bi hc hb b' [(yb,.vec 5 ((us[ci].blocks.set bi b').map OBlk.row))]);simp only[hf]at h1⊢;omega
theorem DT {l:List OBlk}{bi:Nat}{b:OBlk}(hb:bi<l.length)(h:b.row=(l[bi]).row):(l.set bi b).map OBlk.row=l.map OBlk.row:=by
 rw[J6,h];refine Jaf Zz fun i h1 h2=>?_;rw[J7];split
 ·rename_i h;subst h;simp
 ·rfl
variable {b b':OBlk}{R:List (Nat×Obj)}{p:Nat×Obj}
theorem Fy {yi:Nat}(kn:Kn H0 H E ([p]++(b.lg++R)))(ck:b.il=[(yi,.vec 4 (b.ins.map OIns.row))]) :
  Kn H0 H E ([(yi,.vec 4 (b.ins.map OIns.row))]++([p]++(b.nx.lg++(b.aa.flatMap OPhi.lg++(b.pl++(b.ins.flatMap OIns.lg++R)))))):=by
 refine kn.perm (Qj fun f hf h0 bF hp=>?_);simp only[OBlk.lg,ck,hf];omega
theorem I7 {yi:Nat}{is:List OIns}(kn:Kn H0 H E ([(yi,.vec 4 (is.map OIns.row))]++([p]++(b.nx.lg++(b.aa.flatMap OPhi.lg++(b.pl++(b.ins.flatMap OIns.lg++R)))))))
  (hl:(is.flatMap OIns.lg).Perm (b.ins.flatMap OIns.lg)):Kn H0 H E ([p]++(OBlk.lg { b with ins:=is,il:=[(yi,.vec 4 (is.map OIns.row))] }++R)):=by
 refine kn.perm (Qj fun f hf h0 bF hp=>?_);have:=hp _ _ hl;simp only[OBlk.lg,hf];omega
theorem Q9x {l:List OIns}{i:Nat}{x':OIns}(hi:i<l.length)(h:x'.lg=(l[i]).lg):((l.set i x').flatMap OIns.lg).Perm (l.flatMap OIns.lg):=by
 refine (Dm OIns.lg l i x' hi).trans ?_;rw[h];exact (Db OIns.lg l i hi).symm
theorem OBlk.ins_ok {yi:Nat}{i:Nat}{x':OIns}(h:b.ok)(gx:b.ic=.af yi 4 0 b.ins.length):OBlk.ok { b with ins:=b.ins.set i x',il:=[(yi,.vec 4 ((b.ins.set i x').map OIns.row))] }:=
 ⟨h.p,.inr ⟨yi,by show b.ic=_;rw[gx];simp,rfl⟩,h.a⟩
theorem OBlk.ins_sm {yi:Nat}{i:Nat}{x':OIns}{N:Nat}(h:b.sm N)(hx:x'.a.ns.length≤N+1):OBlk.sm { b with ins:=b.ins.set i x',il:=[(yi,.vec 4 ((b.ins.set i x').map OIns.row))] } (N+1):=by
 refine⟨h.n,by simpa using h.i,by have:=h.p;show b.aa.length≤_;omega,fun x aI=>?_⟩;rcases Jn aI with aI|rfl
 ·have:=h.ia x aI;omega
 ·exact hx
end Go.AE.Y
namespace Go.AE.Y
abbrev Qs1:Nat:=10
abbrev Sp:Nat:=14
abbrev Vd:Nat:=15
abbrev TC:Nat:=16
abbrev GY:Nat:=17
abbrev V1:Nat:=40
abbrev TX:Nat:=41
abbrev TN:Nat:=42
abbrev HD:Nat:=43
abbrev Q64:Nat:=44
abbrev Q6r:Nat:=47
abbrev Th:Nat:=48
abbrev Tl:Nat:=49
abbrev Ss:Nat:=50
abbrev RY:Nat:=51
abbrev Vn:Nat:=52
abbrev Cd:Nat:=53
abbrev ST:Nat:=54
abbrev TV:Nat:=55
abbrev Qv:Nat:=62
abbrev AV:Nat:=63
abbrev S5:Nat:=65
abbrev FS:Nat:=68
abbrev AJ:Nat:=69
abbrev Q6w:Nat:=70
abbrev SR:Nat:=71
abbrev Rz:Nat:=72
abbrev TA:Nat:=81
abbrev Tm:Nat:=82
abbrev Q61:Nat:=83
abbrev Vm:Nat:=84
abbrev V6:Nat:=85
abbrev K6:Nat:=86
abbrev TW:Nat:=87
abbrev HI:Nat:=88
abbrev DC:Nat:=89
abbrev Vl:Nat:=90
abbrev Eo:Nat:=91
abbrev En:Nat:=92
abbrev Gf:Nat:=93
abbrev R5:Nat:=94
abbrev Q6t:Nat:=97
abbrev T7:Nat:=98
abbrev Ez:Nat:=99
abbrev RB:Nat:=100
abbrev Cx:Nat:=101
abbrev TQ:Nat:=102
abbrev RU:Nat:=103
abbrev GZ:Nat:=104
abbrev TU:Nat:=105
abbrev V3:Nat:=106
abbrev TS:Nat:=107
abbrev Q01:Nat:=108
abbrev HP:Nat:=109
abbrev TR:Nat:=110
abbrev HV:Nat:=112
abbrev Rx:Nat:=118
abbrev RQ:Nat:=122
abbrev Q6v:Nat:=123
abbrev Q6x:Nat:=127
abbrev Tt:Nat:=133
abbrev SU:Nat:=134
abbrev Vh:Nat:=135
abbrev S4:Nat:=136
abbrev SP:Nat:=137
abbrev Sr:Nat:=138
abbrev Ts:Nat:=139
abbrev Ip:Nat:=140
abbrev V7:Nat:=141
abbrev Vi:Nat:=142
abbrev K5:Nat:=143
abbrev V5:Nat:=144
abbrev Q66:Nat:=145
abbrev Sm:Nat:=146
abbrev Ti:Nat:=147
abbrev SA:Nat:=148
abbrev Gc:Nat:=149
abbrev Gh:Nat:=150
abbrev R7:Nat:=152
abbrev R6:Nat:=153
abbrev HK:Nat:=154
abbrev Qa8v:Nat:=155
abbrev Qbiv:Nat:=156
abbrev SQ:Nat:=157
abbrev Qbnc:Nat:=158
abbrev Qa8w:Nat:=159
abbrev Qa8x:Nat:=160
abbrev Qbiw:Nat:=161
abbrev Qbiy:Nat:=162
abbrev Qbix:Nat:=163
abbrev Qa8y:Nat:=164
abbrev Hm:Nat:=165
abbrev TO:Nat:=166
abbrev V2:Nat:=167
abbrev HT:Nat:=168
abbrev RD:Nat:=169
abbrev TB:Nat:=170
abbrev R8:Nat:=171
abbrev RV:Nat:=172
abbrev Tn:Nat:=173
abbrev T6:Nat:=174
abbrev Sy:Nat:=175
abbrev GX:Nat:=176
abbrev Vw:Nat:=177
abbrev HU:Nat:=178
abbrev In:Nat:=185
abbrev N2:Nat:=186
abbrev Eu:Nat:=187
abbrev C8:Nat:=188
abbrev Q6y:Nat:=191
abbrev Q65:Nat:=206
abbrev Vc:Nat:=207
abbrev Qsr:Nat:=208
abbrev Vv:Nat:=209
abbrev I8:Nat:=210
abbrev Vu:Nat:=211
abbrev S3:Nat:=212
abbrev Su:Nat:=213
abbrev F0:Nat:=214
abbrev SB:Nat:=215
abbrev Ge:Nat:=216
abbrev G2:Nat:=217
abbrev RC:Nat:=218
abbrev Vt:Nat:=219
abbrev Vb:Nat:=221
abbrev Q02:Nat:=222
abbrev GO:Nat:=223
abbrev Q6z:Nat:=226
abbrev Q04:Nat:=227
abbrev Q03:Nat:=228
abbrev R0:Nat:=229
abbrev Sz:Nat:=230
abbrev Qb4:Nat:=241
abbrev Qs2:Nat:=242
abbrev Qjz:Nat:=243
abbrev Qma:Nat:=244
abbrev Qli:Nat:=245
abbrev Qei:Nat:=246
abbrev N1:Nat:=247
abbrev Qix:Nat:=248
abbrev Qq7:Nat:=249
abbrev Vg:Nat:=252
abbrev Q60:Nat:=264
abbrev S6:Nat:=268
abbrev Sx:Nat:=269
abbrev HL:Nat:=270
abbrev HE:Nat:=271
abbrev Hl:Nat:=272
abbrev Gd:Nat:=273
abbrev CT:Nat:=274
abbrev Hk:Nat:=275
abbrev Cr:Nat:=276
abbrev GV:Nat:=277
abbrev BP:Nat:=278
abbrev Dk:Nat:=279
abbrev C4:Nat:=280
abbrev GW:Nat:=281
abbrev Dh:Nat:=282
abbrev Gt:Nat:=283
abbrev F1:Nat:=284
abbrev Q6s:Nat:=285
abbrev SS:Nat:=286
abbrev GN:Nat:=288
abbrev TP:Nat:=289
abbrev Sw:Nat:=290
abbrev Q6u:Nat:=291
abbrev Sn:Nat:=307
abbrev Tf:Nat:=308
abbrev Tj:Nat:=309
abbrev Eh:Nat:=310
abbrev GQ:Nat:=311
abbrev HB:Nat:=312
abbrev HC:Nat:=313
abbrev T9:Nat:=315
abbrev Tg:Nat:=319
abbrev E3:Nat:=320
abbrev RR:Nat:=321
abbrev HJ:Nat:=322
abbrev RT:Nat:=323
abbrev Se:Nat:=324
abbrev Tk:Nat:=325
abbrev Gj:Nat:=326
abbrev F3:Nat:=327
abbrev F2:Nat:=328
abbrev Gg:Nat:=329
abbrev SX:Nat:=331
abbrev Q67:Nat:=332
abbrev T8:Nat:=333
abbrev Q62:Nat:=334
abbrev T5:Nat:=335
abbrev Gi:Nat:=336
abbrev TM:Nat:=337
abbrev Q63:Nat:=338
abbrev SD:Nat:=339
abbrev Ry:Nat:=340
abbrev Gk:Nat:=341
open Go.Proofs.Tryz
def Pj:List Item:=[cJ 5 .eql 4 0]
def Pi:List Item:=[sJ 1 2 7]
def Qa99:SC:=cT 5 (sR (mJ 6 0::aJ 7 Gf [.t 6]::Pi) [2] .ret) .skip
def Ph:List Item:=[sJ 1 2 9]
def Qbaa:SC:=sR (mJ 8 0::aJ 9 R5 [.t 8]::Ph) [2] .ret
def Qbab:SC:=.seq (sR (mJ 3 0::aJ 4 Qv [.t 3,kI 12]::Pj) [0,2,5] Qa99) Qbaa
def Qbqh:SC:=sR [eI 2 (.alloc [.sl true 3 []])] [0,2] Qbab
abbrev FR:List RS:=[.cell 2 1 true]
theorem Qbol:mFn prog HD 1 10 Qbqh FR=true:=ZB
def Qaq2:SC:=cT 24 (sR [zJ 4 0] [4] .ret) .skip
def Qaq3:SC:=cT 36 (sR [mJ 37 0,kJ 38 37,fJ 39 0 38,lJ 40 39,mJ 41 5,iJ 42 1 40 41,lJ 43 42,fI 44 (.cvt .i64 (.t 43)),mJ 45 1,bJ 46 .rem 44 45,mJ 4 46] [4] .ret) .skip
def Qaq4:SC:=sR [mJ 96 6,mJ 97 1,bJ 98 .rem 96 97,mJ 4 98] [4] .ret
def Qaq5:SC:=sR [mJ 92 6,mJ 93 6,cJ 94 .quo 93 64,bJ 95 .xor 92 94,mJ 6 95] [1,6] Qaq4
def Qaq6:SC:=.seq (.aA 46 [0,1,2,3,4,5,6,7,8,9,10,11,12,13,14,15,16,17,18,19,20,21,22,23,24,25,26,27,28,29,30,31,32,33,34,35,36,37,38,39,40,41,42,43,44,45] ( mJ 47 0::kJ 48 47::fJ 49 0 48::lJ 50 49::mJ 51 5::mJ 52 0::kJ 53 52::fJ 54 0 53::lJ 55 54::nJ 56 55::bJ 57 .rem 51 56::iJ 58 1 50 57::lJ 59 58::fI 60 (.cvt .i64 (.t 59))::cJ 61 .mul 60 131::mJ 62 0::kJ 63 62::fJ 64 0 63::lJ 65 64::mJ 66 5::cJ 67 .mul 66 7::cJ 68 .add 67 3::mJ 69 0::kJ 70 69::fJ 71 0 70::lJ 72 71::nJ 73 72::bJ 74 .rem 68 73::iJ 75 1 65 74::lJ 76 75::fI 77 (.cvt .i64 (.t 76))::cJ 78 .mul 77 1117::bJ 79 .add 61 78::mJ 80 5::cJ 81 .mul 80 29::bJ 82 .add 79 81::mJ 83 5::mJ 84 0::kJ 85 84::fJ 86 0 85::lJ 87 86::nJ 88 87::bJ 89 .quo 83 88::cJ 90 .mul 89 53::bJ 91 .add 82 90::mJ 6 91::[]) [1,6]) Qaq5
def Qaq7:SC:=.seq (sR [mJ 30 5,mJ 31 0,kJ 32 31,fJ 33 0 32,lJ 34 33,nJ 35 34,bJ 36 .lss 30 35] [0,1,5,36] Qaq3) Qaq6
def Qaq8:SC:=sR [mJ 25 0,kJ 26 25,fJ 27 1 26,lJ 28 27,cJ 29 .sub 28 1,mJ 5 29] [0,1,5] Qaq7
def Qaq9:SC:=.seq (sR [mJ 15 1,cJ 16 .lss 15 1,mJ 17 16,gFm 18 17 0,gF 19 17 (.nck (.t 18)),gFf 20 17 0 19,gFl 21 17 20,gF 22 17 (.len (.t 21)),gF 23 17 (.bin 0 .eql (.t 22) (kI 0)),pT 24 17 23] [0,1,24] Qaq2) Qaq8
def Qara:SC:=sR [mJ 7 0,mJ 8 0,kJ 9 8,fJ 10 1 9,lJ 11 10,cJ 12 .add 11 1,kJ 13 7,fJ 14 1 13,sJ 1 14 12] [0,1] Qaq9
def Qa50:SC:=sR [zJ 4 0] [0,1] Qara
abbrev RM:List RS:=[.tmp 4]
theorem Qa0c:mFn prog Qv 2 99 Qa50 RM=true:=ZB
def M4:List Item:=[sJ 1 3 9]
def M3:List Item:=eI 3 (.alloc [.sl true 3 []])::M4
def M2:List Item:=aJ 9 Ti [.t 8]::M3
def M1:List Item:=[hJ 11 10,iJ 17 3 11 16,mJ 4 17]
def M0:List Item:=[hJ 21 20,iJ 29 5 21 28,mJ 5 29]
def Mz:List Item:=[mJ 6 41]
def My:List Item:=[kJ 49 46,fJ 50 2 49,sJ 1 50 48]
def Qbk7:SC:=cT 58 (.reg [mJ 59 5,kJ 60 59,fJ 61 4 60,lJ 62 61,mJ 63 6,fI 64 (.iad 1 (.t 62) (kI 0)),sJ 1 64 63] [2,3]) .skip
def Qbk8:SC:=cT 78 (.reg [mJ 79 5,kJ 80 79,fJ 81 1 80,lJ 82 81,mJ 83 6,fI 84 (.iad 4 (.t 82) (kI 0)),fJ 85 1 84,sJ 1 85 83] [2,3]) .skip
def Mx:List Item:=[hJ 97 96,fI 108 (.iad 4 (.t 97) (kI 0)),fJ 109 2 108,sJ 1 109 107]
def Qbdu:SC:=cT 93 (.aA 17 [0,1,2,3,4,5,6,7,8,9,10,11,12,13,3,14,15,16] ( mJ 94 5::kJ 95 94::fJ 96 1 95::lJ 97 96::mJ 98 5::kJ 99 98::fJ 100 1 99::lJ 101 100::fI 102 (.iad 4 (.t 101) (kI 0))::fJ 103 2 102::lJ 104 103::mJ 105 6::fI 106 (.aG 1 [.t 105])::xJ 107 1 104 106::Mx) [2,3]) .skip
def NS:List Item:=[kJ 122 112,fJ 123 0 122,sJ 1 123 121]
def NR:List Item:=[hJ 130 129,bJ 133 .add 130 132,kJ 134 126,fJ 135 1 134,sJ 1 135 133]
def NQ:List Item:=[hJ 147 146,fI 151 (.iad 4 (.t 147) (kI 0)),fJ 152 3 151,sJ 1 152 150]
def Qbdv:SC:=cT 143 (.aA 10 [0,1,2,3,4,5,6,3,7,8,9] ( mJ 144 5::kJ 145 144::fJ 146 1 145::lJ 147 146::mJ 148 0::fI 149 (.aG 1 [kI 256,kI (-1),kI 1])::aJ 150 AV [.t 148,.t 149]::NQ) [2,3]) .skip
def Qbdw:SC:=cT 136 (sR [mJ 138 5,kJ 139 138,fJ 140 1 139,lJ 141 140,nJ 142 141,cJ 143 .gtr 142 0] [0,2,3,5,143] Qbdv) .skip
def Qbdx:SC:=cT 124 (.aA 11 [0,1,2,3,4,5,6,4,7,8,9,10] ( mJ 126 4::mJ 127 4::kJ 128 127::fJ 129 0 128::lJ 130 129::mJ 131 0::aJ 132 Qv [.t 131,kI 2]::NR) [2,3]) (sR [cJ 137 .eql 43 7,mJ 136 137] [0,2,3,5,136] Qbdw)
def Qbdy:SC:=cT 110 (.reg (mJ 112 5::mJ 113 5::kJ 114 113::fJ 115 0 114::lJ 116 115::mJ 117 6::fI 118 (.aG 1 [.t 117])::fI 119 (.bld [.int .i64 0,.sl true 1 []] [(0,1,kI 0),(1,1,.t 118)])::fI 120 (.aG 2 [.t 119])::xJ 121 2 116 120::NS) [2,3]) (sR [cJ 125 .eql 43 6,mJ 124 125] [0,2,3,4,5,43,124] Qbdx)
def Qbdz:SC:=cT 86 (sR [mJ 88 5,kJ 89 88,fJ 90 1 89,lJ 91 90,nJ 92 91,cJ 93 .gtr 92 0] [2,3,5,6,93] Qbdu) (sR [cJ 111 .eql 43 5,mJ 110 111] [0,2,3,4,5,6,43,110] Qbdy)
def Qbd0:SC:=cT 71 (sR [mJ 73 5,kJ 74 73,fJ 75 1 74,lJ 76 75,nJ 77 76,cJ 78 .gtr 77 0] [2,3,5,6,78] Qbk8) (sR [cJ 87 .eql 43 4,mJ 86 87] [0,2,3,4,5,6,43,86] Qbdz)
def Qbd1:SC:=cT 65 (.reg [mJ 67 5,mJ 68 6,kJ 69 67,fJ 70 3 69,sJ 1 70 68] [2,3]) (sR [cJ 72 .eql 43 3,mJ 71 72] [0,2,3,4,5,6,43,71] Qbd0)
def Qbd2:SC:=cT 51 (sR [mJ 53 5,kJ 54 53,fJ 55 4 54,lJ 56 55,nJ 57 56,cJ 58 .gtr 57 0] [2,3,5,6,58] Qbk7) (sR [cJ 66 .eql 43 2,mJ 65 66] [0,2,3,4,5,6,43,65] Qbd1)
def Qbd3:SC:=cT 44 (.reg (mJ 46 5::mJ 47 0::aJ 48 Qv [.t 47,kI 5]::My) [2,3]) (sR [cJ 52 .eql 43 1,mJ 51 52] [0,2,3,4,5,6,43,51] Qbd2)
def Qbd4:SC:=.block 0 (sR [cJ 45 .eql 43 0,mJ 44 45] [0,2,3,4,5,6,43,44] Qbd3)
def Qbd5:SC:=sR [tJ 153 1 3,sJ 1 2 153] [2] .ret
def Qbd6:SC:=.seq (sR [mJ 42 0,aJ 43 Qv [.t 42,kI 32]] [0,2,3,4,5,6,43] Qbd4) Qbd5
def Qbd7:SC:=.seq (.aA 13 [0,1,2,3,4,5,6,7,8,9,10,11,12] ( mJ 30 0::mJ 31 4::kJ 32 31::fJ 33 1 32::lJ 34 33::mJ 35 4::kJ 36 35::fJ 37 2 36::lJ 38 37::nJ 39 38::fI 40 (.aG 1 [kI (-1),.t 34,.t 39,kI 0,kI 1])::aJ 41 AV [.t 30,.t 40]::Mz) [0,2,3,4,5,6]) Qbd6
def Qbd8:SC:=.seq (.aA 13 [0,1,2,3,4,5,6,7,8,9,10,3,11,12] ( mJ 18 4::kJ 19 18::fJ 20 2 19::lJ 21 20::mJ 22 0::mJ 23 4::kJ 24 23::fJ 25 2 24::lJ 26 25::nJ 27 26::aJ 28 Qv [.t 22,.t 27]::M0) [0,2,3,4,5]) Qbd7
def Qbd9:SC:=.seq (.aA 9 [0,1,2,3,4,5,6,1,7,8] ( fJ 10 0 3::lJ 11 10::mJ 12 0::fJ 13 0 3::lJ 14 13::nJ 15 14::aJ 16 Qv [.t 12,.t 15]::M1) [0,2,3,4]) Qbd8
def Qbea:SC:=sR (mJ 7 0::aJ 8 SA [.t 7]::M2) [0,2,3] Qbd9
def Qbv0:SC:=sR [eI 2 (.alloc [.sl true 3 []])] [0,2] Qbea
abbrev IU:List RS:=[.cell 2 1 true]
theorem Qbuq:mFn prog Gf 1 154 Qbv0 IU=true:=ZB
def OP:List Item:=[cJ 6 .eql 5 0]
def P0:List Item:=[sJ 1 3 9]
def Pz:List Item:=eI 3 (.alloc [.sl true 3 []])::P0
def Py:List Item:=aJ 9 Gc [.t 8]::Pz
def Qbas:SC:=cT 11 (sR [tJ 12 1 3,sJ 1 2 12] [2] .ret) .skip
def Qbat:SC:=sR [tJ 10 1 3,aJ 11 DC [.t 10]] [0,2,3,11] Qbas
def Qbau:SC:=cT 6 (sR (mJ 7 0::aJ 8 Gh [.t 7]::Py) [0,2,3] Qbat) .skip
def Px:List Item:=[sJ 1 2 14]
def MU:SC:=sR (mJ 13 0::aJ 14 SA [.t 13]::Px) [2] .ret
def Qbav:SC:=.seq (sR (mJ 4 0::aJ 5 Qv [.t 4,kI 2]::OP) [0,2,6] Qbau) MU
def Qbqn:SC:=sR [eI 2 (.alloc [.sl true 3 []])] [0,2] Qbav
abbrev S8:List RS:=[.cell 2 1 true]
theorem Qbor:mFn prog R5 1 15 Qbqn S8=true:=ZB
def Q0i:List Item:=[iJ 10 1 5 9,lJ 11 10,mJ 4 11]
def Qaxv:SC:=sR (mJ 5 1::mJ 6 0::mJ 7 1::nJ 8 7::aJ 9 Qv [.t 6,.t 8]::Q0i) [4] .ret
def Qbcy:SC:=sR [zJ 4 0] [0,1] Qaxv
abbrev Nk:List RS:=[.tmp 4]
theorem Qa9l:mFn prog AV 2 12 Qbcy Nk=true:=ZB
def Qwj:List Item:=[sJ 1 3 5]
def Qwk:List Item:=[fJ 23 0 3,sJ 1 23 22]
def Qwl:List Item:=hJ 14 13::fI 21 (.aG 3 [.t 20])::xJ 22 3 14 21::Qwk
def Qarg:SC:=.reg [mJ 11 4,cJ 12 .add 11 1,mJ 4 12] [1,2,3,4]
def Qarh:SC:=.seq (.block 1 (.aA 12 [0,1,2,3,4,5,6,7,1,8,9,10,11] ( fJ 13 0 3::lJ 14 13::fJ 15 0 1::lJ 16 15::mJ 17 4::iJ 18 3 16 17::tJ 19 3 18::aJ 20 Eo [.t 19]::Qwl) [1,2,3,4])) Qarg
def Qal5:SC:=.seq (sR [mJ 6 4,fJ 7 0 1,lJ 8 7,nJ 9 8,bJ 10 .lss 6 9] [1,2,3,4,10] (cT 10 .skip (.exit 0))) Qarh
def Qari:SC:=sR [tJ 24 1 3,sJ 1 2 24] [2] .ret
def Qarj:SC:=.seq (sR [zJ 4 0] [1,2,3,4] (bL 0 Qal5)) Qari
def Qark:SC:=sR (fI 5 (.bld [.sl true 3 []] [])::eI 3 (.alloc [.sl true 3 []])::Qwj) [1,2,3] Qarj
def Qa6s:SC:=sR [vJ 1 0,eI 2 (.alloc [.sl true 3 []])] [1,2] Qark
abbrev Pq:List RS:=[.cell 2 1 true]
theorem Qa0h:mFn prog Ti 1 25 Qa6s Pq=true:=ZB
def Mc:List Item:=[sJ 1 3 9]
def Mb:List Item:=[mJ 4 12]
def Ma:List Item:=[fJ 24 0 3,sJ 1 24 23]
def LZ:List Item:=hJ 18 17::fI 22 (.aG 3 [.t 21])::xJ 23 3 18 22::Ma
def Qblt:SC:=.reg [mJ 15 4,cJ 16 .sub 15 1,mJ 4 16] [0,2,3,4]
def Qblu:SC:=.seq (.block 1 (.aA 9 [0,1,2,3,4,1,5,6,7,8] ( fJ 17 0 3::lJ 18 17::mJ 19 0::tJ 20 1 3::aJ 21 Ge [.t 19,.t 20]::LZ) [0,2,3,4])) Qblt
def Qbfr:SC:=.seq (sR [mJ 13 4,cJ 14 .gtr 13 0] [0,2,3,4,14] (cT 14 .skip (.exit 0))) Qblu
def LY:List Item:=[mJ 5 27]
def LX:List Item:=[hJ 33 32,iJ 39 3 33 38,mJ 6 39]
def LW:List Item:=[mJ 7 46]
def Od:List Item:=[sJ 2 8 53]
def Oc:List Item:=fI 53 (.bld [.int .i64 0,.sl true 1 []] [(0,1,.t 52)])::eI 8 (.alloc [.int .i64 0,.sl true 1 []])::Od
def Ob:List Item:=[nJ 59 58,zJ 60 0]
def N9:List Item:=[fJ 72 1 8,sJ 1 72 71]
def N8:List Item:=hJ 63 62::fI 70 (.aG 1 [.t 69])::xJ 71 1 63 70::N9
def Qbfe:SC:=.reg [cJ 73 .add 60 1,mJ 60 73] [0,2,3,5,6,7,8,59,60]
def Qbff:SC:=.seq (.block 5 (.aA 12 [0,1,2,3,4,5,6,7,1,8,9,10,11] ( fJ 62 1 8::lJ 63 62::mJ 64 0::mJ 65 6::kJ 66 65::fJ 67 1 66::lJ 68 67::aJ 69 Qv [.t 64,.t 68]::N8) [0,2,3,5,6,7,8,59,60])) Qbfe
def Qa64:SC:=sR [bJ 61 .lss 60 59] [0,2,3,5,6,7,8,59,60,61] (cX 61 4 Qbff)
def N7:List Item:=[hJ 79 78,iJ 92 5 79 80,fJ 93 0 92,sJ 1 93 91]
def Qbfg:SC:=cT 75 (.aA 19 [0,1,2,3,4,5,6,7,8,9,10,11,12,13,14,15,3,16,17,18] ( mJ 76 6::kJ 77 76::fJ 78 2 77::lJ 79 78::mJ 80 7::mJ 81 6::kJ 82 81::fJ 83 2 82::lJ 84 83::mJ 85 7::iJ 86 5 84 85::fJ 87 0 86::lJ 88 87::tJ 89 2 8::fI 90 (.aG 2 [.t 89])::xJ 91 2 88 90::N7) [0,2,3,5]) .skip
def Qbfh:SC:=sR [mJ 74 7,cJ 75 .gtr 74 0] [0,2,3,5,6,7,8,75] Qbfg
def Qbfi:SC:=.seq (sR (mJ 54 6::kJ 55 54::tJ 56 3 55::mJ 57 7::aJ 58 C8 [.t 56,.t 57]::Ob) [0,2,3,5,6,7,8,59,60] (bL 4 Qa64)) Qbfh
def Qbfj:SC:=sR (mJ 47 0::mJ 48 6::kJ 49 48::fJ 50 1 49::lJ 51 50::aJ 52 Qv [.t 47,.t 51]::Oc) [0,2,3,5,6,7,8] Qbfi
def Qbfk:SC:=sR (mJ 40 0::mJ 41 6::kJ 42 41::fJ 43 2 42::lJ 44 43::nJ 45 44::aJ 46 Qv [.t 40,.t 45]::LW) [0,2,3,5,6,7] Qbfj
def Qbfl:SC:=.reg [mJ 30 5,cJ 31 .sub 30 1,mJ 5 31] [0,2,3,5]
def Qbfm:SC:=.seq (.block 3 (.seq (.aA 9 [0,1,2,3,4,5,6,1,7,8] ( fJ 32 0 3::lJ 33 32::mJ 34 0::fJ 35 0 3::lJ 36 35::nJ 37 36::aJ 38 Qv [.t 34,.t 37]::LX) [0,2,3,5,6]) Qbfk)) Qbfl
def Qa65:SC:=.seq (sR [mJ 28 5,cJ 29 .gtr 28 0] [0,2,3,5,29] (cT 29 .skip (.exit 2))) Qbfm
def Qbfn:SC:=sR [tJ 94 1 3,sJ 1 2 94] [2] .ret
def Qbfo:SC:=.seq (sR (mJ 25 0::fI 26 (.aG 1 [kI 0,kI 0,kI 1,kI 3])::aJ 27 AV [.t 25,.t 26]::LY) [0,2,3,5] (bL 2 Qa65)) Qbfn
def Qbfp:SC:=.seq (sR (mJ 10 0::fI 11 (.aG 1 [kI 1,kI 2,kI 1,kI 3])::aJ 12 AV [.t 10,.t 11]::Mb) [0,2,3,4] (bL 0 Qbfr)) Qbfo
def Qbfq:SC:=sR (fI 9 (.bld [.sl true 3 []] [])::eI 3 (.alloc [.sl true 3 []])::Mc) [0,2,3] Qbfp
def Qbv6:SC:=sR [eI 2 (.alloc [.sl true 3 []])] [0,2] Qbfq
abbrev IQ:List RS:=[.cell 2 1 true]
theorem Qbuv:mFn prog SA 1 95 Qbv6 IQ=true:=ZB
def Qn0:List Item:=[oJ 11 10]
def Qafz:SC:=cT 11 (sR [fB 2 false] [2] .ret) .skip
def Qn1:List Item:=[sJ 3 5 23]
def Sv:List Item:=[gF 41 36 (.not (.t 40)),pT 42 36 41]
def Vp:List Item:=gF 34 28 (.not (.t 33))::pT 35 28 34::mJ 36 35::gFf 37 36 2 5::gFl 38 36 37::gF 39 36 (.len (.t 38))::.e (some 40) (some (36,false)) (.call AJ [.t 39,kI 1,kI 160])::Sv
def Qn2:List Item:=oJ 27 26::mJ 28 27::gFf 29 28 1 5::gFl 30 28 29::gFf 31 28 0 5::gFl 32 28 31::.e (some 33) (some (28,false)) (.call AJ [.t 30,.t 32,kI 300])::Vp
def s_sp_UnitValid_6:SC:=cT 42 (sR [fB 2 false] [2] .ret) .skip
def Vo:List Item:=[gF 74 69 (.not (.t 73)),pT 75 69 74]
def Qq4:SC:=cT 75 (sR [fB 2 false] [2] .ret) .skip
def Qaf0:SC:=sR (mJ 67 3::cJ 68 .gtr 67 800::mJ 69 68::gF 70 69 (.ld 1 true (.t 1))::gFm 71 69 4::gFm 72 69 6::.e (some 73) (some (69,false)) (.call Q66 [.t 70,.t 71,.t 72])::Vo) [1,3,4,5,6,75] Qq4
def Qny:SC:=.reg [mJ 48 6,cJ 49 .add 48 1,mJ 6 49] [1,3,4,5,6]
def Q9j:SC:=.seq (.block 3 (.seq (.aA 18 [0,1,2,3,4,5,6,7,8,9,10,11,12,13,14,15,16,17] ( mJ 50 3::fJ 51 2 5::lJ 52 51::mJ 53 6::iJ 54 5 52 53::fJ 55 1 54::lJ 56 55::nJ 57 56::bJ 58 .add 50 57::fJ 59 2 5::lJ 60 59::mJ 61 6::iJ 62 5 60 61::fJ 63 0 62::lJ 64 63::nJ 65 64::bJ 66 .add 58 65::mJ 3 66::[]) [1,3,4,5,6]) Qaf0)) Qny
def Q6g:SC:=.seq (sR [mJ 43 6,fJ 44 2 5,lJ 45 44,nJ 46 45,bJ 47 .lss 43 46] [1,3,4,5,6,47] (cT 47 .skip (.exit 2))) Q9j
def Qnz:SC:=sR [zJ 6 0] [1,3,4,5,6] (bL 2 Q6g)
def Q9k:SC:=.seq (sR (fJ 24 0 5::lJ 25 24::aJ 26 AJ [.t 25,kI 0,kI 3]::Qn2) [1,3,4,5,42] s_sp_UnitValid_6) Qnz
def Vr:SC:=.reg [mJ 17 4,cJ 18 .add 17 1,mJ 4 18] [1,3,4]
def Q9l:SC:=.seq (.block 1 (sR (fJ 19 0 1::lJ 20 19::mJ 21 4::iJ 22 3 20 21::tJ 23 3 22::eI 5 (.alloc [.int .i64 0,.int .i64 0,.sl true 5 []])::Qn1) [1,3,4,5] Q9k)) Vr
def Q6h:SC:=.seq (sR [mJ 12 4,fJ 13 0 1,lJ 14 13,nJ 15 14,bJ 16 .lss 12 15] [1,3,4,16] (cT 16 .skip (.exit 0))) Q9l
def Vq:SC:=sR [fB 2 true] [2] .ret
def Q9m:SC:=.seq (sR [zJ 4 0] [1,3,4] (bL 0 Q6h)) Vq
def Q9n:SC:=sR [zJ 3 0] [1,3] Q9m
def Q9o:SC:=.seq (sR (fJ 7 0 1::lJ 8 7::nJ 9 8::aJ 10 AJ [.t 9,kI 1,kI 4]::Qn0) [1,11] Qafz) Q9n
def Qasp:SC:=sR [vJ 1 0,fB 2 false] [1] Q9o
abbrev HS:List RS:=[.tmp 2]
theorem Qao5:mFn prog DC 1 76 Qasp HS=true:=ZB
def LU:List Item:=[sJ 1 3 5]
def LT:List Item:=[fJ 20 0 3,sJ 1 20 19]
def LR:List Item:=hJ 14 13::fI 18 (.aG 3 [.t 17])::xJ 19 3 14 18::LT
def Qbl0:SC:=.reg [mJ 11 4,cJ 12 .add 11 1,mJ 4 12] [1,2,3,4]
def Qbl1:SC:=.seq (.block 1 (.aA 9 [0,1,2,3,4,1,5,6,7,8] ( fJ 13 0 3::lJ 14 13::tJ 15 1 1::mJ 16 4::aJ 17 G2 [.t 15,.t 16]::LR) [1,2,3,4])) Qbl0
def Qbfw:SC:=.seq (sR [mJ 6 4,fJ 7 0 1,lJ 8 7,nJ 9 8,bJ 10 .lss 6 9] [1,2,3,4,10] (cT 10 .skip (.exit 0))) Qbl1
def Qbl2:SC:=sR [tJ 21 1 3,sJ 1 2 21] [2] .ret
def Qbl3:SC:=.seq (sR [zJ 4 0] [1,2,3,4] (bL 0 Qbfw)) Qbl2
def Qbl4:SC:=sR (fI 5 (.bld [.sl true 3 []] [])::eI 3 (.alloc [.sl true 3 []])::LU) [1,2,3] Qbl3
def Yy:SC:=sR [vJ 1 0,eI 2 (.alloc [.sl true 3 []])] [1,2] Qbl4
abbrev IN:List RS:=[.cell 2 1 true]
theorem Qbux:mFn prog Gc 1 22 Yy IN=true:=ZB
def MF:List Item:=[mJ 3 13]
def ME:List Item:=fI 12 (.bld [.pnil,.sl true 3 [],.sl true 1 [],.int .i64 0,.int .i64 0] [(0,1,.t 8),(4,1,.t 11)])::eI 13 (.boxm (.t 12))::MF
def MD:List Item:=[mJ 4 16]
def MC:List Item:=[hJ 26 25,.chk 27 none (.len (.t 26)),.chk 28 none (.iad 1 (.t 22) (.t 27)),hJ 29 28,sJ 3 5 32]
def MB:List Item:=eI 5 (.alloc [.str [],.sl true 1 [],.sl true 5 []])::MC
def MA:List Item:=hJ 26 25::.chk 27 none (.len (.t 26))::.chk 28 none (.iad 1 (.t 22) (.t 27))::hJ 29 28::aJ 32 RC [.t 21,.t 29,.t 31]::MB
def M9:List Item:=[kJ 41 33,fJ 42 1 41,sJ 1 42 40]
def Qbko:SC:=.aA 11 [0,1,2,3,4,5,6,7,8,9,10] ( mJ 33 3::mJ 34 3::kJ 35 34::fJ 36 1 35::lJ 37 36::tJ 38 3 5::fI 39 (.aG 3 [.t 38])::xJ 40 3 37 39::M9) [0,2,3,4]
def Qbkp:SC:=.reg [mJ 19 4,cJ 20 .sub 19 1,mJ 4 20] [0,2,3,4]
def Qbkq:SC:=.seq (.block 1 (.seq (.aA 12 [0,1,2,3,4,5,6,7,8,9,10,5,6,7,8,11,12,5,6,7,8,13] ( mJ 21 3::fI 22 (.aG 1 [.k (.c (.str [102])),.k (.c (.str [103])),.k (.c (.str [104]))])::mJ 23 3::kJ 24 23::fJ 25 1 24::lJ 26 25::nJ 27 26::iJ 28 1 22 27::lJ 29 28::mJ 30 0::aJ 31 Qv [.t 30,kI 3]::MA) [0,2,3,4,5]) Qbko)) Qbkp
def Qa6a:SC:=.seq (sR [mJ 17 4,cJ 18 .gtr 17 0] [0,2,3,4,18] (cT 18 .skip (.exit 0))) Qbkq
def OF:List Item:=[sJ 3 6 47]
def Oa:List Item:=eI 6 (.alloc [.str [],.sl true 1 [],.sl true 5 []])::OF
def NZ:List Item:=eI 47 (.call RC [.t 43,.k (.c (.str [109])),.t 46])::Oa
def NY:List Item:=[hJ 52 51,.chk 54 none (.ld 3 true (.t 6)),sJ 1 7 57]
def NX:List Item:=fI 57 (.bld [.sl true 3 []] [(0,1,.t 56)])::eI 7 (.alloc [.sl true 3 []])::NY
def NW:List Item:=.chk 54 none (.ld 3 true (.t 6))::xJ 56 3 53 55::NX
def NV:List Item:=[oJ 60 59]
def Qbc5:SC:=cT 60 (sR [fI 61 (.bld [.int .i64 0,.int .i64 0,.str [],.sl true 4 []] [(0,1,kI 1),(1,1,kI 1)]),fI 62 (.aG 4 [.t 61]),fI 63 (.bld [.int .i64 0,.str [],.sl true 4 [],.sl true 5 [],.sl true 5 []] [(0,1,kI 3),(2,1,.t 62)]),fI 64 (.aG 5 [.t 63]),fI 65 (.bld [.str [],.sl true 1 [],.sl true 5 []] [(0,1,.k (.c (.str [109]))),(2,1,.t 64)]),fI 66 (.aG 3 [.t 65]),fI 67 (.bld [.sl true 3 []] [(0,1,.t 66)]),sJ 1 2 67] [2] .ret) .skip
def Qbc6:SC:=sR [tJ 68 1 7,sJ 1 2 68] [2] .ret
def Qbc7:SC:=.seq (.seq (.seq .gh (.reg (tJ 58 1 7::aJ 59 Vt [.t 58]::NV) [2,7,60])) Qbc5) Qbc6
def Qbc8:SC:=.seq (.aA 10 [0,1,2,3,4,6,7,5,6,8,9,10,4,6,11] ( fI 48 (.aG 3 [])::mJ 49 3::kJ 50 49::fJ 51 1 50::lJ 52 51::tJ 54 3 6::fI 55 (.aG 3 [.t 54])::xJ 53 3 48 52::NW) [2,7]) Qbc7
def Qbc9:SC:=sR (mJ 43 3::mJ 44 0::fI 45 (.aG 1 [kI 0,kI 1,kI 2,kI 1])::aJ 46 AV [.t 44,.t 45]::NZ) [2,3,6] Qbc8
def Qbda:SC:=.seq (sR (mJ 14 0::fI 15 (.aG 1 [kI 0,kI 1,kI 1,kI 2])::aJ 16 AV [.t 14,.t 15]::MD) [0,2,3,4] (bL 0 Qa6a)) Qbc9
def Qbdb:SC:=sR (mJ 8 0::mJ 9 0::fI 10 (.aG 1 [kI 14,kI 20,kI 8,kI 26])::aJ 11 AV [.t 9,.t 10]::ME) [0,2,3] Qbda
def YC:SC:=sR [eI 2 (.alloc [.sl true 3 []])] [0,2] Qbdb
abbrev Fq:List RS:=[.cell 2 1 true]
theorem Qbum:mFn prog Gh 1 69 YC Fq=true:=ZB
def MJ:List Item:=[sJ 3 3 9]
def MI:List Item:=[fJ 27 2 3,sJ 1 27 26]
def MH:List Item:=hJ 18 17::fI 25 (.aG 5 [.t 24])::xJ 26 5 18 25::MI
def Qblb:SC:=.reg [mJ 15 4,cJ 16 .add 15 1,mJ 4 16] [1,2,3,4]
def Qblc:SC:=.seq (.block 1 (.aA 12 [0,1,2,3,4,5,6,7,1,8,9,10,11] ( fJ 17 2 3::lJ 18 17::fJ 19 2 1::lJ 20 19::mJ 21 4::iJ 22 5 20 21::tJ 23 5 22::aJ 24 Sm [.t 23]::MH) [1,2,3,4])) Qblb
def Qbex:SC:=.seq (sR [mJ 10 4,fJ 11 2 1,lJ 12 11,nJ 13 12,bJ 14 .lss 10 13] [1,2,3,4,14] (cT 14 .skip (.exit 0))) Qblc
def Qbld:SC:=sR [tJ 28 3 3,sJ 3 2 28] [2] .ret
def Qble:SC:=.seq (sR [zJ 4 0] [1,2,3,4] (bL 0 Qbex)) Qbld
def Qblf:SC:=sR (fJ 5 0 1::lJ 6 5::fJ 7 1 1::lJ 8 7::fI 9 (.bld [.int .i64 0,.int .i64 0,.sl true 5 []] [(0,1,.t 6),(1,1,.t 8)])::eI 3 (.alloc [.int .i64 0,.int .i64 0,.sl true 5 []])::MJ) [1,2,3] Qble
def Qbv2:SC:=sR [vJ 1 0,eI 2 (.alloc [.int .i64 0,.int .i64 0,.sl true 5 []])] [1,2] Qblf
abbrev IS:List RS:=[.cell 2 3 true]
theorem Qbus:mFn prog Eo 1 29 Qbv2 IS=true:=ZB
def Oi:List Item:=[mJ 5 41]
def Qbez:SC:=cT 37 (sR (mJ 38 5::mJ 39 6::fI 40 (.aG 1 [.t 39])::xJ 41 1 38 40::Oi) [1,2,5,6] (.exit 2)) .skip
def Qbe0:SC:=.reg [mJ 25 7,cJ 26 .add 25 1,mJ 7 26] [1,2,5,6,7]
def Qbe1:SC:=.seq (.block 3 (sR [fJ 27 2 2,lJ 28 27,mJ 29 6,iJ 30 5 28 29,fJ 31 4 30,lJ 32 31,mJ 33 7,iJ 34 1 32 33,lJ 35 34,mJ 36 1,bJ 37 .eql 35 36] [1,2,5,6,7,37] Qbez)) Qbe0
def Qa6y:SC:=.seq (sR [mJ 16 7,fJ 17 2 2,lJ 18 17,mJ 19 6,iJ 20 5 18 19,fJ 21 4 20,lJ 22 21,nJ 23 22,bJ 24 .lss 16 23] [1,2,5,6,7,24] (cT 24 .skip (.exit 2))) Qbe1
def Mo:SC:=.reg [mJ 14 6,cJ 15 .add 14 1,mJ 6 15] [1,2,5,6]
def Qbe2:SC:=.seq (.block 1 (sR [zJ 7 0] [1,2,5,6,7] (bL 2 Qa6y))) Mo
def Qa6z:SC:=.seq (sR [mJ 9 6,fJ 10 2 2,lJ 11 10,nJ 12 11,bJ 13 .lss 9 12] [1,2,5,6,13] (cT 13 .skip (.exit 0))) Qbe2
def Mn:SC:=sR [mJ 42 5,mJ 4 42] [4] .ret
def Qbe3:SC:=.seq (sR [zJ 6 0] [1,2,5,6] (bL 0 Qa6z)) Mn
def Qa6x:SC:=sR [fI 8 (.aG 1 []),mJ 5 8] [1,2,5] Qbe3
def Qbrp:SC:=sR [vJ 2 0,fI 4 (.mv (.k (.c (.sl true 1 []))))] [1,2] Qa6x
abbrev FC:List RS:=[.tmp 4]
theorem Qbpb:mFn prog C8 2 43 Qbrp FC=true:=ZB
def Mv:List Item:=[sJ 3 5 13]
def Mu:List Item:=fI 13 (.bld [.int .i64 0,.int .i64 0,.sl true 5 []] [(0,1,.t 12)])::eI 5 (.alloc [.int .i64 0,.int .i64 0,.sl true 5 []])::Mv
def Mt:List Item:=[hJ 15 14,bJ 19 .add 16 18,fJ 20 1 5,sJ 1 20 19]
def Ms:List Item:=[mJ 6 23]
def Mr:List Item:=[sJ 5 8 29]
def MM:List Item:=[mJ 9 32]
def ML:List Item:=[fJ 46 1 8,sJ 1 46 45]
def MK:List Item:=hJ 38 37::fI 44 (.aG 4 [.t 43])::xJ 45 4 38 44::ML
def Qbk9:SC:=.reg [mJ 35 9,cJ 36 .sub 35 1,mJ 9 36] [0,3,4,5,6,7,8,9]
def Qbla:SC:=.seq (.block 3 (.aA 11 [0,1,2,3,4,5,6,1,7,8,9,10] ( fJ 37 1 8::lJ 38 37::mJ 39 0::tJ 40 1 3::fJ 41 1 5::lJ 42 41::aJ 43 Gd [.t 39,.t 40,.t 42]::MK) [0,3,4,5,6,7,8,9])) Qbk9
def Qa6q:SC:=.seq (sR [mJ 33 9,cJ 34 .gtr 33 0] [0,3,4,5,6,7,8,9,34] (cT 34 .skip (.exit 2))) Qbla
def NH:List Item:=[fJ 51 3 8,sJ 1 51 50]
def NG:List Item:=[fJ 55 2 8,sJ 1 55 54]
def RI:List Item:=[gT 66 63 (.bin 0 .gtr (.t 65) (kI 0)),gF 67 58 (.pick (.t 63) (.t 66) (.k (.c (.bool false)))),pT 68 58 67]
def Mw:SC:=cT 68 (.reg [fJ 69 2 8,.e none none (.sto 1 (.t 69) (kI 3))] [0,3,4,5,6,7,8]) .skip
def NF:List Item:=[fI 79 (.aG 1 [.t 78]),fJ 80 4 8,sJ 1 80 79]
def Qbeg:SC:=.reg (mJ 75 0::mJ 76 7::mJ 77 6::aJ 78 CT [.t 75,.t 76,.t 77]::NF) [0,3,4,5,6,7,8]
def NE:List Item:=[fI 91 (.aG 1 [.t 86,.t 90]),fJ 92 4 8,sJ 1 92 91]
def ND:List Item:=mJ 87 0::mJ 88 7::mJ 89 6::aJ 90 CT [.t 87,.t 88,.t 89]::NE
def Qbeh:SC:=cT 81 (.reg (mJ 83 0::mJ 84 7::mJ 85 6::aJ 86 CT [.t 83,.t 84,.t 85]::ND) [0,3,4,5,6,7,8]) .skip
def Qbei:SC:=cT 72 (sR [fJ 74 3 8,.e none none (.sto 1 (.t 74) (kI 0))] [0,3,4,5,6,7,8] Qbeg) (sR [cJ 82 .eql 71 2,mJ 81 82] [0,3,4,5,6,7,8,81] Qbeh)
def Qbej:SC:=.block 4 (sR [cJ 73 .eql 71 1,mJ 72 73] [0,3,4,5,6,7,8,71,72] Qbei)
def NB:List Item:=[fJ 98 2 5,sJ 1 98 97]
def Qbek:SC:=.reg (fJ 93 2 5::lJ 94 93::tJ 95 5 8::fI 96 (.aG 5 [.t 95])::xJ 97 5 94 96::NB) [0,3,4,5,6,7]
def Qbel:SC:=.seq (sR [fJ 70 2 8,lJ 71 70] [0,3,4,5,6,7,8,71] Qbej) Qbek
def Qbem:SC:=.seq (sR (mJ 56 6::cJ 57 .eql 56 1::mJ 58 57::gFm 59 58 7::gFm 60 58 6::gF 61 58 (.bin 0 .sub (.t 60) (kI 1))::gF 62 58 (.bin 0 .eql (.t 59) (.t 61))::gFm 63 58 62::gTm 64 63 0::.e (some 65) (some (63,true)) (.call Qv [.t 64,kI 3])::RI) [0,3,4,5,6,7,8,68] Mw) Qbel
def Qben:SC:=sR (mJ 52 0::fI 53 (.aG 1 [kI 2,kI 1,kI 2,kI 1,kI 3])::aJ 54 AV [.t 52,.t 53]::NG) [0,3,4,5,6,7,8] Qbem
def Qbeo:SC:=sR (mJ 47 0::fJ 48 1 5::lJ 49 48::aJ 50 Qv [.t 47,.t 49]::NH) [0,3,4,5,6,7,8] Qben
def Qbep:SC:=.seq (sR (mJ 30 0::fI 31 (.aG 1 [kI 1,kI 2,kI 0,kI 3,kI 4])::aJ 32 AV [.t 30,.t 31]::MM) [0,3,4,5,6,7,8,9] (bL 2 Qa6q)) Qbeo
def Qbeq:SC:=.reg [mJ 27 7,cJ 28 .add 27 1,mJ 7 28] [0,3,4,5,6,7]
def Qber:SC:=.seq (.block 1 (sR (fI 29 (.bld [.sl true 2 [],.sl true 4 [],.int .i64 0,.int .i64 0,.sl true 1 []] [])::eI 8 (.alloc [.sl true 2 [],.sl true 4 [],.int .i64 0,.int .i64 0,.sl true 1 []])::Mr) [0,3,4,5,6,7,8] Qbep)) Qbeq
def Qa6r:SC:=.seq (sR [mJ 24 7,mJ 25 6,bJ 26 .lss 24 25] [0,3,4,5,6,7,26] (cT 26 .skip (.exit 0))) Qber
def Qbes:SC:=sR [tJ 99 3 5,sJ 3 4 99] [4] .ret
def Qbet:SC:=.seq (sR [zJ 7 0] [0,3,4,5,6,7] (bL 0 Qa6r)) Qbes
def Qbeu:SC:=sR (mJ 21 0::fI 22 (.aG 1 [kI 3,kI 5,kI 2,kI 1,kI 7,kI 4])::aJ 23 AV [.t 21,.t 22]::Ms) [0,3,4,5,6] Qbet
def Qbev:SC:=.seq (.aA 8 [0,1,2,3,4,1,5,6,7] ( fJ 14 0 5::lJ 15 14::cJ 16 .add 15 2::mJ 17 0::aJ 18 Qv [.t 17,kI 5]::Mt) [0,3,4,5]) Qbeu
def Qbew:SC:=sR (mJ 10 0::fI 11 (.aG 1 [kI 1,kI 0,kI 2,kI 3])::aJ 12 AV [.t 10,.t 11]::Mu) [0,3,4,5] Qbev
def Qbv1:SC:=sR [vJ 3 1,eI 4 (.alloc [.int .i64 0,.int .i64 0,.sl true 5 []])] [0,3,4] Qbew
abbrev IT:List RS:=[.cell 4 3 true]
theorem Qbur:mFn prog Ge 2 100 Qbv1 IT=true:=ZB
def YN:SC:=sR [mJ 7 0,mJ 8 1,bJ 9 .geq 7 8,mJ 10 9,gTm 11 10 0,gTm 12 10 2,gT 13 10 (.bin 0 .leq (.t 11) (.t 12)),pF 14 10 13,mJ 6 14] [6] .ret
def Qb2c:SC:=sR [fB 6 false] [0,1,2] YN
abbrev Id:List RS:=[.tmp 6]
theorem Qb1x:mFn prog AJ 3 15 Qb2c Id=true:=ZB
def NK:List Item:=[sJ 3 7 18]
def NJ:List Item:=[sJ 5 8 23]
def Qbeb:SC:=cT 30 (sR [fB 6 false] [6] .ret) .skip
def Qbec:SC:=cT 33 (.reg [zJ 9 0] [1,2,3,7,8,9]) (sR [fB 6 false] [6] .ret)
def Qbed:SC:=cT 31 (.reg [zJ 9 2] [1,2,3,7,8,9]) (sR [cJ 34 .eql 25 3,mJ 33 34] [1,2,3,7,8,33] Qbec)
def Qbee:SC:=cT 26 (sR [fJ 28 3 8,lJ 29 28,cJ 30 .neq 29 0] [1,2,3,7,8,9,30] Qbeb) (sR [cJ 32 .eql 25 2,mJ 31 32] [1,2,3,7,8,25,31] Qbed)
def Qbef:SC:=.block 0 (sR [cJ 27 .eql 25 1,mJ 26 27] [1,2,3,7,8,9,25,26] Qbee)
def RJ:List Item:=[gT 51 44 (.not (.t 50)),gF 52 40 (.pick (.t 44) (.t 51) (.k (.c (.bool false)))),pT 53 40 52]
def s_l7Block_8:SC:=cT 53 (sR [fB 6 false] [6] .ret) .skip
def NI:List Item:=[oJ 71 70]
def Qa6c:SC:=cT 71 (sR [fB 6 false] [6] .ret) .skip
def Qa6d:SC:=.reg [mJ 59 10,cJ 60 .add 59 1,mJ 10 60] [1,2,3,7,8,10]
def Qa6e:SC:=.seq (.block 2 (.seq (.aA 11 [0,1,2,3,4,5,6,7,8,9,10] ( fJ 61 4 8::lJ 62 61::mJ 63 10::iJ 64 1 62 63::lJ 65 64::fJ 66 2 7::lJ 67 66::nJ 68 67::cJ 69 .sub 68 1::aJ 70 AJ [.t 65,kI 1,.t 69]::NI) [1,2,3,7,8,10,71]) Qa6c)) Qa6d
def Qax5:SC:=.seq (sR [mJ 54 10,fJ 55 4 8,lJ 56 55,nJ 57 56,bJ 58 .lss 54 57] [1,2,3,7,8,10,58] (cT 58 .skip (.exit 1))) Qa6e
def Q5t:List Item:=[oJ 87 86]
def Qa6f:SC:=cT 87 (sR [fB 6 false] [6] .ret) .skip
def Qa6g:SC:=.reg [mJ 77 11,cJ 78 .add 77 1,mJ 11 78] [1,2,3,7,8,11]
def Qa6h:SC:=.seq (.block 4 (.seq (.aA 9 [0,1,2,3,4,5,6,7,8] ( tJ 79 1 3::mJ 80 1::fJ 81 1 8::lJ 82 81::mJ 83 11::iJ 84 4 82 83::tJ 85 4 84::aJ 86 F0 [.t 79,.t 80,.t 85]::Q5t) [1,2,3,7,8,11,87]) Qa6f)) Qa6g
def Qax6:SC:=.seq (sR [mJ 72 11,fJ 73 1 8,lJ 74 73,nJ 75 74,bJ 76 .lss 72 75] [1,2,3,7,8,11,76] (cT 76 .skip (.exit 3))) Qa6h
def Q5u:List Item:=[mJ 12 90]
def RZ:List Item:=[gF 134 123 (.not (.t 133)),pT 135 123 134]
def Tq:List Item:=gF 121 112 (.not (.t 120))::pT 122 112 121::mJ 123 122::gFf 124 123 0 8::gFl 125 123 124::gFm 126 123 13::gF 127 123 (.iad 2 (.t 125) (.t 126))::gFf 128 123 0 127::gFl 129 123 128::gFf 130 123 1 7::gFl 131 123 130::gF 132 123 (.bin 0 .sub (.t 131) (kI 1))::.e (some 133) (some (123,false)) (.call AJ [.t 129,kI 0,.t 132])::RZ
def NP:SC:=cT 135 (sR [fB 6 false] [6] .ret) .skip
def NO:SC:=.reg [mJ 96 13,cJ 97 .add 96 1,mJ 13 97] [2,7,8,12,13]
def Qa6i:SC:=.seq (.block 6 (.seq (.aA 38 [0,1,2,3,4,5,6,7,8,9,10,11,12,13,14,15,16,17,18,19,20,21,22,23,24,25,26,27,28,29,30,31,32,33,34,35,36,37] ( mJ 98 2::cJ 99 .eql 98 0::mJ 100 99::gFf 101 100 0 8::gFl 102 100 101::gFm 103 100 13::gF 104 100 (.iad 2 (.t 102) (.t 103))::gFf 105 100 1 104::gFl 106 100 105::gF 107 100 (.len (.t 106))::gFm 108 100 12::gF 109 100 (.len (.t 108))::gF 110 100 (.bin 0 .neq (.t 107) (.t 109))::pT 111 100 110::mJ 112 111::gF 113 112 (.ld 3 true (.t 7))::gFf 114 112 0 8::gFl 115 112 114::gFm 116 112 13::gF 117 112 (.iad 2 (.t 115) (.t 116))::gFf 118 112 1 117::gFl 119 112 118::.e (some 120) (some (112,false)) (.call SB [.t 113,.t 119])::Tq) [2,7,8,12,13,135]) NP)) NO
def Qax7:SC:=.seq (sR [mJ 91 13,fJ 92 0 8,lJ 93 92,nJ 94 93,bJ 95 .lss 91 94] [2,7,8,12,13,95] (cT 95 .skip (.exit 5))) Qa6i
def NN:SC:=sR [fB 6 true] [6] .ret
def Qa6j:SC:=.seq (sR [zJ 13 0] [2,7,8,12,13] (bL 5 Qax7)) NN
def Qa6k:SC:=sR (tJ 88 3 7::mJ 89 2::aJ 90 C8 [.t 88,.t 89]::Q5u) [2,7,8,12] Qa6j
def Qa6l:SC:=.seq (sR [zJ 11 0] [1,2,3,7,8,11] (bL 3 Qax6)) Qa6k
def NM:SC:=.seq (sR [zJ 10 0] [1,2,3,7,8,10] (bL 1 Qax5)) Qa6l
def NL:SC:=.seq (sR (fJ 35 4 8::lJ 36 35::nJ 37 36::mJ 38 9::bJ 39 .neq 37 38::mJ 40 39::gFf 41 40 2 8::gFl 42 40 41::gF 43 40 (.bin 0 .neq (.t 42) (kI 1))::gFm 44 40 43::gTf 45 44 3 8::gTl 46 44 45::gTf 47 44 1 7::gTl 48 44 47::gT 49 44 (.bin 0 .sub (.t 48) (kI 1))::.e (some 50) (some (44,true)) (.call AJ [.t 46,kI 0,.t 49])::RJ) [1,2,3,7,8,53] s_l7Block_8) NM
def Qa6m:SC:=.seq (sR [fJ 24 2 8,lJ 25 24] [1,2,3,7,8,9,25] Qbef) NL
def Qa6n:SC:=sR [zJ 9 1] [1,2,3,7,8,9] Qa6m
def Qa6o:SC:=sR (fJ 19 2 7::lJ 20 19::mJ 21 2::iJ 22 5 20 21::tJ 23 5 22::eI 8 (.alloc [.sl true 2 [],.sl true 4 [],.int .i64 0,.int .i64 0,.sl true 1 []])::NJ) [1,2,3,7,8] Qa6n
def Qa6p:SC:=sR (fJ 14 0 3::lJ 15 14::mJ 16 1::iJ 17 3 15 16::tJ 18 3 17::eI 7 (.alloc [.int .i64 0,.int .i64 0,.sl true 5 []])::NK) [1,2,3,7] Qa6o
def Qbrm:SC:=sR [vJ 3 0,fB 6 false] [1,2,3] Qa6p
abbrev GD:List RS:=[.tmp 6]
theorem Qbo9:mFn prog Q66 3 136 Qbrm GD=true:=ZB
def PM:List Item:=[sJ 3 5 13]
def PL:List Item:=[mJ 6 19]
def PK:List Item:=[hJ 29 28,.chk 30 none (.len (.t 29)),bJ 34 .add 30 33,kJ 35 27,fJ 36 1 35,fJ 37 1 36,sJ 1 37 34]
def PJ:List Item:=[kJ 59 45,fJ 60 5 59,sJ 1 60 58]
def Qbv7:SC:=.reg [mJ 43 7,cJ 44 .add 43 1,mJ 7 44] [4,5,6,7]
def YZ:SC:=.seq (.block 1 (.aA 17 [0,1,2,3,4,5,6,7,8,9,10,11,12,13,14,15,16] ( mJ 45 6::mJ 46 6::kJ 47 46::fJ 48 5 47::lJ 49 48::fJ 50 1 5::lJ 51 50::mJ 52 7::iJ 53 1 51 52::lJ 54 53::mJ 55 7::fI 56 (.bld [.str [],.int .i64 0,.int .i64 0] [(0,1,.t 54),(1,1,.t 55),(2,1,kI 0)])::fI 57 (.aG 3 [.t 56])::xJ 58 3 49 57::PJ) [4,5,6,7])) Qbv7
def Qbrz:SC:=.seq (sR [mJ 38 7,fJ 39 1 5,lJ 40 39,nJ 41 40,bJ 42 .lss 38 41] [4,5,6,7,42] (cT 42 .skip (.exit 0))) YZ
def PD:List Item:=[mJ 8 71]
def PC:List Item:=fI 70 (.aG 1 [])::aJ 71 BP [.t 67,kI 1,.t 69,kI 0,.t 70]::PD
def YY:SC:=sR [mJ 76 6,kJ 77 76,fJ 78 1 77,tJ 79 3 78,sJ 3 4 79] [4] .ret
def Qbrq:SC:=sR [mJ 72 6,mJ 73 8,fI 74 (.aG 1 []),aJ 75 C4 [.t 72,kI 3,.t 73,.t 74,kI 0]] [4,6] YY
def Qbrr:SC:=sR (mJ 67 6::mJ 68 6::aJ 69 Dk [.t 68]::PC) [4,6,8] Qbrq
def Qbrs:SC:=sR [mJ 63 6,fJ 64 2 5,lJ 65 64,aJ 66 GV [.t 63,.t 65]] [4,6] Qbrr
def Qbrt:SC:=sR [mJ 61 6,aJ 62 Cr [.t 61]] [4,5,6] Qbrs
def Qbru:SC:=.seq (sR [zJ 7 0] [4,5,6,7] (bL 0 Qbrz)) Qbrt
def Qbrv:SC:=.seq (.aA 12 [0,1,2,3,4,5,6,2,3,7,8,9,10,11] ( mJ 27 6::fJ 28 1 5::lJ 29 28::nJ 30 29::fJ 31 2 5::lJ 32 31::aJ 33 Hk [.t 32]::PK) [4,5,6]) Qbru
def Qbrw:SC:=sR [mJ 20 6,fJ 21 1 5,lJ 22 21,nJ 23 22,kJ 24 20,fJ 25 1 24,fJ 26 0 25,sJ 1 26 23] [4,5,6] Qbrv
def Qbrx:SC:=sR (tJ 14 1 2::fJ 15 1 5::lJ 16 15::nJ 17 16::fI 18 (.bld [.sl true 3 [],.int .i64 0,.int .i64 0,.sl true 5 [],.int .i64 0,.sl true 3 [],.int .i64 0,.sl true 1 []] [(0,1,.t 14),(6,1,.t 17)])::eI 19 (.boxm (.t 18))::PL) [4,5,6] Qbrw
def Qbry:SC:=sR (fJ 9 0 2::lJ 10 9::mJ 11 1::iJ 12 3 10 11::tJ 13 3 12::eI 5 (.alloc [.str [],.sl true 1 [],.sl true 5 []])::PM) [2,4,5] Qbrx
def Qb2f:SC:=sR [vJ 2 0,eI 4 (.alloc [.int .i64 0,.int .i64 0,.sl true 5 []])] [1,2,4] Qbry
abbrev Ic:List RS:=[.cell 4 3 true]
theorem Qb10:mFn prog G2 2 80 Qb2f Ic=true:=ZB
def Q5o:List Item:=[sJ 3 7 26]
def Q5p:List Item:=fI 26 (.bld [.str [],.sl true 1 [],.sl true 5 []] [(0,1,.t 19),(1,1,.t 25)])::eI 7 (.alloc [.str [],.sl true 1 [],.sl true 5 []])::Q5o
def Q5q:List Item:=[fJ 29 2 7,sJ 1 29 28]
def Tr:List Item:=[gT 41 35 (.bin 0 .gtr (.t 40) (kI 0)),pF 42 35 41]
def Q5r:List Item:=[fJ 59 2 7,sJ 1 59 58]
def Q5s:List Item:=hJ 52 51::fI 55 (.aG 4 [.t 54])::fI 56 (.bld [.int .i64 0,.str [],.sl true 4 [],.sl true 5 [],.sl true 5 []] [(0,1,kI 7),(2,1,.t 55)])::fI 57 (.aG 5 [.t 56])::xJ 58 5 52 57::Q5r
def Qa56:SC:=.aA 10 [0,1,2,3,1,4,5,6,7,8,9] ( fJ 51 2 7::lJ 52 51::mJ 53 0::aJ 54 Dh [.t 53,kI 2]::Q5s) [6,7]
def s_l3Gen_fn_7:SC:=cT 42 (sR [mJ 43 0,mJ 44 0,kJ 45 44,fJ 46 4 45,lJ 47 46,cJ 48 .sub 47 1,kJ 49 43,fJ 50 4 49,sJ 1 50 48] [0,6,7] Qa56) .skip
def SH:SC:=sR [tJ 60 3 7,sJ 3 6 60] [6] .ret
def Qa57:SC:=.seq (sR (mJ 30 0::kJ 31 30::fJ 32 4 31::lJ 33 32::cJ 34 .gtr 33 0::mJ 35 34::gTm 36 35 0::gT 37 35 (.nck (.t 36))::gTf 38 35 0 37::gTl 39 35 38::.e (some 40) (some (35,true)) (.call Qv [.t 39,kI 4])::Tr) [0,6,7,42] s_l3Gen_fn_7) SH
def Qaxx:SC:=sR (mJ 27 0::aJ 28 GW [.t 27,kI 3]::Q5q) [0,6,7] Qa57
def Qaxy:SC:=sR (mJ 19 1::fI 20 (.aG 1 [])::mJ 21 0::kJ 22 21::fJ 23 2 22::lJ 24 23::xJ 25 1 20 24::Q5p) [0,6,7] Qaxx
def Qaxz:SC:=sR [mJ 14 0,mJ 15 2,cJ 16 .sub 15 1,kJ 17 14,fJ 18 3 17,sJ 1 18 16] [0,1,6] Qaxy
def Qax0:SC:=sR [mJ 8 0,fI 9 (.aG 1 [.k (.c (.str [97])),.k (.c (.str [98])),.k (.c (.str [99]))]),mJ 10 2,fI 11 (.sli 1 (.t 9) none (some (.t 10))),kJ 12 8,fJ 13 2 12,sJ 1 13 11] [0,1,2,6] Qaxz
def Qbkn:SC:=sR [eI 6 (.alloc [.str [],.sl true 1 [],.sl true 5 []])] [0,1,2,6] Qax0
abbrev Ru:List RS:=[.cell 6 3 true]
theorem Qbjh:mFn prog RC 3 61 Qbkn Ru=true:=ZB
def Qhu:List Item:=[oJ 8 7]
def Q2x:SC:=cT 8 (sR [fB 2 false] [2] .ret) .skip
def Qhv:List Item:=[oJ 22 21]
def Q2y:SC:=cT 22 (sR [fB 2 false] [2] .ret) .skip
def Q2z:SC:=.reg [mJ 14 3,cJ 15 .add 14 1,mJ 3 15] [1,3]
def Q20:SC:=.seq (.block 1 (sR (fJ 16 0 1::lJ 17 16::mJ 18 3::iJ 19 3 17 18::tJ 20 3 19::aJ 21 Gt [.t 20]::Qhv) [1,3,22] Q2y)) Q2z
def Qze:SC:=.seq (sR [mJ 9 3,fJ 10 0 1,lJ 11 10,nJ 12 11,bJ 13 .lss 9 12] [1,3,13] (cT 13 .skip (.exit 0))) Q20
def Qhw:List Item:=[cJ 25 .leq 24 40,mJ 2 25]
def Q21:SC:=sR (tJ 23 1 1::aJ 24 F1 [.t 23]::Qhw) [2] .ret
def Q22:SC:=.seq (sR [zJ 3 0] [1,3] (bL 0 Qze)) Q21
def Qzd:SC:=.seq (sR (fJ 4 0 1::lJ 5 4::nJ 6 5::aJ 7 AJ [.t 6,kI 1,kI 4]::Qhu) [1,8] Q2x) Q22
def Q9g:SC:=sR [vJ 1 0,fB 2 false] [1] Qzd
abbrev Vk:List RS:=[.tmp 2]
theorem Q7e:mFn prog Vt 1 26 Q9g Vk=true:=ZB
def Qqd:List Item:=[hJ 10 9,hJ 12 11,hJ 15 14,sJ 5 3 17]
def Qqe:List Item:=hJ 10 9::hJ 12 11::fI 17 (.bld [.sl true 2 [],.sl true 4 [],.int .i64 0,.int .i64 0,.sl true 1 []] [(0,1,.t 7),(1,1,.t 8),(2,1,.t 10),(3,1,.t 12),(4,1,.t 16)])::eI 3 (.alloc [.sl true 2 [],.sl true 4 [],.int .i64 0,.int .i64 0,.sl true 1 []])::Qqd
def Qqf:List Item:=[fJ 44 0 3,sJ 1 44 43]
def Qqg:List Item:=hJ 26 25::hJ 28 27::.chk 30 none (.iad 2 (.t 28) (.t 29))::hJ 32 31::fI 41 (.bld [.int .i64 0,.sl true 1 []] [(0,1,.t 32),(1,1,.t 40)])::fI 42 (.aG 2 [.t 41])::xJ 43 2 26 42::Qqf
def Qal3:SC:=.reg [mJ 23 4,cJ 24 .add 23 1,mJ 4 24] [1,2,3,4]
def Qal4:SC:=.seq (.block 1 (.aA 21 [0,1,2,3,4,5,6,7,8,9,10,11,12,13,14,15,1,3,5,7,16,17,18,19,20] ( fJ 25 0 3::lJ 26 25::fJ 27 0 1::lJ 28 27::mJ 29 4::iJ 30 2 28 29::fJ 31 0 30::lJ 32 31::fI 33 (.aG 1 [])::fJ 34 0 1::lJ 35 34::mJ 36 4::iJ 37 2 35 36::fJ 38 1 37::lJ 39 38::xJ 40 1 33 39::Qqg) [1,2,3,4])) Qal3
def Qae2:SC:=.seq (sR [mJ 18 4,fJ 19 0 1,lJ 20 19,nJ 21 20,bJ 22 .lss 18 21] [1,2,3,4,22] (cT 22 .skip (.exit 0))) Qal4
def Qqh:List Item:=[sJ 4 6 56]
def Qqi:List Item:=[fJ 72 1 3,sJ 1 72 71]
def Qqj:List Item:=hJ 58 57::hJ 60 59::hJ 62 61::hJ 68 67::fI 69 (.bld [.int .i64 0,.int .i64 0,.sl true 1 [],.int .i64 0] [(0,1,.t 60),(1,1,.t 62),(2,1,.t 66),(3,1,.t 68)])::fI 70 (.aG 4 [.t 69])::xJ 71 4 58 70::Qqi
def Qaev:SC:=.aA 17 [0,1,2,3,4,5,6,7,8,10,11,9,1,3,5,11,12,13,14,15,16] ( fJ 57 1 3::lJ 58 57::fJ 59 0 6::lJ 60 59::fJ 61 1 6::lJ 62 61::fI 63 (.aG 1 [])::fJ 64 2 6::lJ 65 64::fJ 67 3 6::lJ 68 67::xJ 66 1 63 65::Qqj) [1,2,3,5]
def Qaew:SC:=.reg [mJ 50 5,cJ 51 .add 50 1,mJ 5 51] [1,2,3,5]
def Qaex:SC:=.seq (.block 3 (sR (fJ 52 1 1::lJ 53 52::mJ 54 5::iJ 55 4 53 54::tJ 56 4 55::eI 6 (.alloc [.int .i64 0,.int .i64 0,.sl true 1 [],.int .i64 0])::Qqh) [1,2,3,5,6] Qaev)) Qaew
def Q8q:SC:=.seq (sR [mJ 45 5,fJ 46 1 1,lJ 47 46,nJ 48 47,bJ 49 .lss 45 48] [1,2,3,5,49] (cT 49 .skip (.exit 2))) Qaex
def Qaey:SC:=sR [tJ 73 5 3,sJ 5 2 73] [2] .ret
def Qaez:SC:=.seq (sR [zJ 5 0] [1,2,3,5] (bL 2 Q8q)) Qaey
def Qae0:SC:=.seq (sR [zJ 4 0] [1,2,3,4] (bL 0 Qae2)) Qaez
def Qae1:SC:=.seq (.aA 11 [0,1,2,3,4,5,6,7,8,9,3,5,10,11,3,5,8,12] ( fI 7 (.aG 2 [])::fI 8 (.aG 4 [])::fJ 9 2 1::lJ 10 9::fJ 11 3 1::lJ 12 11::fI 13 (.aG 1 [])::fJ 14 4 1::lJ 15 14::xJ 16 1 13 15::Qqe) [1,2,3]) Qae0
def Qax8:SC:=sR [vJ 1 0,eI 2 (.alloc [.sl true 2 [],.sl true 4 [],.int .i64 0,.int .i64 0,.sl true 1 []])] [1,2] Qae1
abbrev Q3s:List RS:=[.cell 2 5 true]
theorem Qau5:mFn prog Sm 1 74 Qax8 Q3s=true:=ZB
def Mi:List Item:=[mJ 7 13]
def Mh:List Item:=[sJ 4 8 18]
def Mg:List Item:=fI 18 (.bld [.int .i64 0,.int .i64 0,.sl true 1 [],.int .i64 0] [(0,1,.t 14),(1,1,.t 17)])::eI 8 (.alloc [.int .i64 0,.int .i64 0,.sl true 1 [],.int .i64 0])::Mh
def Mf:List Item:=[mJ 9 20]
def Me:List Item:=[fI 30 (.aG 1 [.t 29]),fI 31 (.bld [.int .i64 0,.int .i64 0,.sl true 1 [],.int .i64 0] [(0,1,kI 13),(1,1,kI (-1)),(2,1,.t 30)]),sJ 4 6 31]
def Qblp:SC:=cT 26 (sR (mJ 27 0::mJ 28 2::aJ 29 Qv [.t 27,.t 28]::Me) [6] .ret) .skip
def Md:List Item:=[fJ 37 3 8,sJ 1 37 36]
def Qblq:SC:=.reg [fJ 38 0 4,lJ 39 38,fJ 40 3 8,lJ 41 40,iJ 42 3 39 41,fJ 43 0 42,lJ 44 43,mJ 9 44] [0,2,6,7,8,9]
def Qblr:SC:=sR (mJ 32 0::fJ 33 0 4::lJ 34 33::nJ 35 34::aJ 36 Qv [.t 32,.t 35]::Md) [0,2,4,6,7,8] Qblq
def Qbls:SC:=cT 22 (.seq (sR [fJ 23 0 4,lJ 24 23,nJ 25 24,cJ 26 .eql 25 0] [0,2,4,6,7,8,26] Qblp) Qblr) .skip
def Oh:List Item:=[fJ 50 3 8,sJ 1 50 49]
def Qbe5:SC:=cT 46 (.reg (mJ 47 0::fI 48 (.aG 1 [kI 0,kI 1,kI 2,kI 3,kI 15,kI 16,kI 255])::aJ 49 AV [.t 47,.t 48]::Oh) [0,2,6,7,8,9]) .skip
def Og:List Item:=[oJ 53 52]
def Qbe6:SC:=cT 53 (.reg [fJ 54 1 8,.e none none (.sto 1 (.t 54) (kI (-1)))] [0,2,6,8,9]) .skip
def Of:List Item:=[fJ 67 2 8,sJ 1 67 66]
def Oe:List Item:=hJ 61 60::fI 65 (.aG 1 [.t 64])::xJ 66 1 61 65::Of
def Qbe7:SC:=.reg [mJ 58 10,cJ 59 .add 58 1,mJ 10 59] [0,2,6,8,9,10]
def Qbe8:SC:=.seq (.block 1 (.aA 9 [0,1,2,3,4,1,5,6,7,8] ( fJ 60 2 8::lJ 61 60::mJ 62 0::mJ 63 2::aJ 64 Qv [.t 62,.t 63]::Oe) [0,2,6,8,9,10])) Qbe7
def Qa61:SC:=.seq (sR [mJ 55 10,mJ 56 9,bJ 57 .lss 55 56] [0,2,6,8,9,10,57] (cT 57 .skip (.exit 0))) Qbe8
def Qbe9:SC:=sR [tJ 68 4 8,sJ 4 6 68] [6] .ret
def Ml:SC:=.seq (sR [zJ 10 0] [0,2,6,8,9,10] (bL 0 Qa61)) Qbe9
def Mk:SC:=.seq (sR (mJ 51 7::aJ 52 Eu [.t 51]::Og) [0,2,6,8,9,53] Qbe6) Ml
def Mj:SC:=.seq (sR [mJ 45 7,cJ 46 .eql 45 1] [0,2,6,7,8,9,46] Qbe5) Mk
def Qbfa:SC:=.seq (sR [mJ 21 7,cJ 22 .eql 21 14] [0,2,4,6,7,8,9,22] Qbls) Mj
def Qbfb:SC:=sR (mJ 19 7::aJ 20 Hl [.t 19]::Mf) [0,2,4,6,7,8,9] Qbfa
def Qbfc:SC:=sR (mJ 14 7::mJ 15 0::mJ 16 2::aJ 17 Qv [.t 15,.t 16]::Mg) [0,2,4,6,7,8] Qbfb
def Qbfd:SC:=sR (mJ 11 0::fI 12 (.aG 1 [kI 1,kI 1,kI 2,kI 3,kI 4,kI 5,kI 8,kI 9,kI 10,kI 13,kI 3,kI 6,kI 7,kI 11,kI 12,kI 14])::aJ 13 AV [.t 11,.t 12]::Mi) [0,2,4,6,7] Qbfc
def Qbv4:SC:=sR [vJ 4 1,eI 6 (.alloc [.int .i64 0,.int .i64 0,.sl true 1 [],.int .i64 0])] [0,2,4,6] Qbfd
abbrev G6:List RS:=[.cell 6 4 true]
theorem Qbuu:mFn prog Gd 3 69 Qbv4 G6=true:=ZB
def F9:List Item:=[gT 14 11 (.bin 0 .gtr (.t 13) (kI 0)),pF 15 11 14]
def PO:List Item:=[bJ 24 .add 17 23,mJ 6 24]
def s_l7To_2:SC:=cT 15 (sR (mJ 16 1::cJ 17 .add 16 1::mJ 18 0::mJ 19 2::cJ 20 .sub 19 1::mJ 21 1::bJ 22 .sub 20 21::aJ 23 Qv [.t 18,.t 22]::PO) [6] .ret) .skip
def PN:List Item:=[fI 29 (.bin 0 .add (kI 1) (.t 28)),mJ 6 29]
def IM:SC:=sR (mJ 25 0::mJ 26 2::cJ 27 .sub 26 1::aJ 28 Qv [.t 25,.t 27]::PN) [6] .ret
def Qbv5:SC:=.seq (sR (mJ 7 1::mJ 8 2::cJ 9 .sub 8 1::bJ 10 .lss 7 9::mJ 11 10::gTm 12 11 0::.e (some 13) (some (11,true)) (.call Qv [.t 12,kI 4])::F9) [0,1,2,15] s_l7To_2) IM
def Qb2e:SC:=sR [zJ 6 0] [0,1,2] Qbv5
abbrev D5:List RS:=[.tmp 6]
theorem Qb1z:mFn prog CT 3 30 Qb2e D5=true:=ZB
def KY:List Item:=[sJ 3 7 12]
def Q8r:List Item:=[gF 22 17 (.not (.t 21)),pT 23 17 22]
def KX:List Item:=oJ 16 15::mJ 17 16::gF 18 17 (.ld 3 true (.t 7))::gFf 19 17 2 5::gFl 20 17 19::.e (some 21) (some (17,false)) (.call SB [.t 18,.t 20])::Q8r
def s_l7Ins_3:SC:=cT 23 (sR [fB 6 false] [6] .ret) .skip
def Q8s:List Item:=[gF 38 34 (.not (.t 37)),gFm 39 34 38,gTf 40 39 1 5,gTl 41 39 40,gT 42 39 (.bin 0 .neq (.t 41) (kI (-1))),gF 43 34 (.pick (.t 39) (.t 42) (.k (.c (.bool false)))),pT 44 34 43]
def KW:List Item:=fI 33 (.bin 1 .neq (.t 26) (.t 32))::mJ 34 33::gFf 35 34 0 5::gFl 36 34 35::.e (some 37) (some (34,false)) (.call Eu [.t 36])::Q8s
def KV:List Item:=hJ 28 27::hJ 30 29::aJ 32 AJ [.t 28,kI 0,.t 31]::KW
def s_l7Ins_7:SC:=cT 44 (sR [fB 6 false] [6] .ret) .skip
def Rt:List Item:=[mJ 53 52,gTf 54 53 2 5,gTl 55 53 54,gT 56 53 (.len (.t 55)),gTf 57 53 0 3,gTl 58 53 57,gTf 59 53 3 5,gTl 60 53 59,gT 61 53 (.iad 3 (.t 58) (.t 60)),gTf 62 53 0 61,gTl 63 53 62,gT 64 53 (.bin 0 .eql (.t 56) (.t 63)),pF 65 53 64,mJ 6 65]
def Qbrn:SC:=cT 47 (.seq (.aA 19 [0,1,2,3,4,5,6,7,8,9,10,11,12,13,14,15,16,17,18] ( fJ 48 3 5::lJ 49 48::mJ 50 1::cJ 51 .sub 50 1::aJ 52 AJ [.t 49,kI 0,.t 51]::Rt) [6]) .ret) .skip
def Q2m:List Item:=[pF 77 73 76,mJ 78 77,gTf 79 78 3 5,gTl 80 78 79,gT 81 78 (.bin 0 .eql (.t 80) (kI 0)),gTm 82 78 81,gFf 83 82 0 5,gFl 84 82 83,gF 85 82 (.bin 0 .eql (.t 84) (kI 1)),gT 86 78 (.pick (.t 82) (.k (.c (.bool true))) (.t 85)),pF 87 78 86,mJ 6 87]
def MG:List Item:=hJ 67 66::.chk 68 none (.len (.t 67))::bJ 72 .eql 68 71::mJ 73 72::gTf 74 73 3 5::gTl 75 73 74::.e (some 76) (some (73,true)) (.call AJ [.t 75,kI 0,kI 255])::Q2m
def Qblg:SC:=.seq (.aA 23 [0,1,2,3,4,5,1,2,6,7,8,9,10,11,12,13,14,15,16,17,18,19,20,21,22] ( fJ 66 2 5::lJ 67 66::nJ 68 67::fJ 69 0 5::lJ 70 69::aJ 71 Hl [.t 70]::MG) [6]) .ret
def La:SC:=.seq (sR [fJ 45 0 5,lJ 46 45,cJ 47 .eql 46 14] [1,3,5,47] Qbrn) Qblg
def KZ:SC:=.seq (.seq (.aA 21 [0,1,3,4,5,6,7,2,4,6,8,9,10,11,12,13,14,15,16,17,18,19,20] ( fJ 24 0 5::lJ 25 24::fJ 27 1 5::lJ 28 27::fJ 29 1 7::lJ 30 29::cJ 31 .sub 30 1::aJ 26 Eu [.t 25]::KV) [1,3,5,44]) s_l7Ins_7) La
def Qblh:SC:=.seq (sR (fJ 13 0 5::lJ 14 13::aJ 15 AJ [.t 14,kI 1,kI 14]::KX) [1,3,5,7,23] s_l7Ins_3) KZ
def Qbli:SC:=sR (fJ 8 0 3::lJ 9 8::mJ 10 1::iJ 11 3 9 10::tJ 12 3 11::eI 7 (.alloc [.int .i64 0,.int .i64 0,.sl true 5 []])::KY) [1,3,5,7] Qblh
def Qb0d:SC:=sR [vJ 3 0,vJ 5 2,fB 6 false] [1,3,5] Qbli
abbrev CL:List RS:=[.tmp 6]
theorem VI:mFn prog F0 3 88 Qb0d CL=true:=ZB
def Mm:List Item:=[oJ 20 19]
def Qblk:SC:=cT 20 (sR [fB 4 false] [4] .ret) .skip
def Qbll:SC:=.reg [mJ 10 5,cJ 11 .add 10 1,mJ 5 11] [1,2,5]
def Qblm:SC:=.seq (.block 1 (.seq (.aA 9 [0,1,2,3,4,5,6,7,8] ( mJ 12 1::mJ 13 5::iJ 14 1 12 13::lJ 15 14::fJ 16 1 2::lJ 17 16::cJ 18 .sub 17 1::aJ 19 AJ [.t 15,kI 0,.t 18]::Mm) [1,2,5,20]) Qblk)) Qbll
def Qbe4:SC:=.seq (sR [mJ 6 5,mJ 7 1,nJ 8 7,bJ 9 .lss 6 8] [1,2,5,9] (cT 9 .skip (.exit 0))) Qblm
def Qbln:SC:=sR [fB 4 true] [4] .ret
def Qblo:SC:=.seq (sR [zJ 5 0] [1,2,5] (bL 0 Qbe4)) Qbln
def Qbv3:SC:=sR [vJ 2 0,fB 4 false] [1,2] Qblo
abbrev Fo:List RS:=[.tmp 4]
theorem Qbut:mFn prog SB 2 21 Qbv3 Fo=true:=ZB
def LV:List Item:=[bJ 33 .add 26 32,mJ 3 33]
def Mq:List Item:=.chk 29 none (.iad 5 (.t 27) (.t 28))::hJ 31 30::bJ 26 .add 19 25::aJ 32 Hk [.t 31]::LV
def Mp:List Item:=.chk 22 none (.iad 5 (.t 20) (.t 21))::hJ 24 23::.chk 29 none (.iad 5 (.t 27) (.t 28))::hJ 31 30::bJ 19 .add 11 18::aJ 25 Hk [.t 24]::Mq
def Qblv:SC:=.reg [mJ 9 4,cJ 10 .add 9 1,mJ 4 10] [0,3,4]
def Qblw:SC:=.seq (.block 1 (.aA 24 [0,1,2,3,4,5,6,9,10,11,12,13,16,17,18,19,20,7,11,13,18,20,8,14,18,20,15,21,22,23] ( mJ 11 3::mJ 12 0::mJ 13 4::iJ 14 5 12 13::fJ 15 0 14::lJ 16 15::cJ 17 .eql 16 1::mJ 20 0::mJ 21 4::iJ 22 5 20 21::fJ 23 3 22::lJ 24 23::mJ 27 0::mJ 28 4::iJ 29 5 27 28::fJ 30 4 29::lJ 31 30::aJ 18 Q65 [.t 17]::Mp) [0,3,4])) Qblv
def Qbfs:SC:=.seq (sR [mJ 5 4,mJ 6 0,nJ 7 6,bJ 8 .lss 5 7] [0,3,4,8] (cT 8 .skip (.exit 0))) Qblw
def Qblx:SC:=sR [mJ 34 3,mJ 2 34] [2] .ret
def Qbly:SC:=.seq (sR [zJ 4 0] [0,3,4] (bL 0 Qbfs)) Qblx
def Qblz:SC:=sR [zJ 3 0] [0,3] Qbly
def Yz:SC:=sR [zJ 2 0] [0] Qblz
abbrev IP:List RS:=[.tmp 2]
theorem Qbuw:mFn prog Hk 1 35 Yz IP=true:=ZB
def Qqp:List Item:=[kJ 15 3,fJ 16 1 15,fJ 17 2 16,sJ 1 17 14]
def Qam2:SC:=sR [mJ 18 0,kJ 19 18,fJ 20 1 19,fJ 21 2 20,lJ 22 21,nJ 23 22,cJ 24 .sub 23 1,mJ 2 24] [2] .ret
def Qam3:SC:=sR (mJ 3 0::mJ 4 0::kJ 5 4::fJ 6 1 5::fJ 7 2 6::lJ 8 7::fI 9 (.aG 2 [])::fI 10 (.aG 4 [])::fI 11 (.aG 1 [])::fI 12 (.bld [.sl true 2 [],.sl true 4 [],.int .i64 0,.int .i64 0,.sl true 1 []] [(0,1,.t 9),(1,1,.t 10),(4,1,.t 11)])::fI 13 (.aG 5 [.t 12])::xJ 14 5 8 13::Qqp) [0] Qam2
def Qayd:SC:=sR [zJ 2 0] [0] Qam3
abbrev Q3u:List RS:=[.tmp 2]
theorem Qau7:mFn prog Cr 1 25 Qayd Q3u=true:=ZB
def Qan2:SC:=.reg [mJ 15 5,cJ 16 .add 15 1,mJ 5 16] [0,1,4,5]
def Qan3:SC:=.seq (.block 1 (.reg [mJ 17 0,mJ 18 1,mJ 19 5,iJ 20 5 18 19,tJ 21 5 20,aJ 22 Tf [.t 17,.t 21]] [0,1,4,5])) Qan2
def Qafe:SC:=.seq (sR [mJ 11 5,mJ 12 1,nJ 13 12,bJ 14 .lss 11 13] [0,1,4,5,14] (cT 14 .skip (.exit 0))) Qan3
def Qan4:SC:=.reg [mJ 23 0,mJ 24 0,kJ 25 24,fJ 26 5 25,lJ 27 26,mJ 28 4,fI 29 (.sli 3 (.t 27) none (some (.t 28))),kJ 30 23,fJ 31 5 30,sJ 1 31 29] []
def Qan5:SC:=.seq (sR [zJ 5 0] [0,1,4,5] (bL 0 Qafe)) Qan4
def Qayn:SC:=sR [mJ 6 0,kJ 7 6,fJ 8 5 7,lJ 9 8,nJ 10 9,mJ 4 10] [0,1,4] Qan5
abbrev Tc:List RS:=[]
theorem Qau9:mFn prog GV 2 32 Qayn Tc=true:=ZB
def Q0u:List Item:=[kJ 34 22,fJ 35 1 34,sJ 1 35 33]
def Qayf:SC:=sR [mJ 36 2,mJ 10 36] [10] .ret
def Qayg:SC:=sR (mJ 22 11::mJ 23 11::kJ 24 23::fJ 25 1 24::lJ 26 25::mJ 27 1::mJ 28 2::mJ 29 4::mJ 30 3::fI 31 (.bld [.int .i64 0,.int .i64 0,.sl true 1 [],.int .i64 0] [(0,1,.t 27),(1,1,.t 28),(2,1,.t 29),(3,1,.t 30)])::fI 32 (.aG 4 [.t 31])::xJ 33 4 26 32::Q0u) [2] Qayf
def Qayh:SC:=.seq (.aA 11 [0,1,2,3,4,5,6,7,8,9,10] ( mJ 12 0::kJ 13 12::fJ 14 1 13::fJ 15 2 14::lJ 16 15::mJ 17 0::kJ 18 17::fJ 19 4 18::lJ 20 19::iJ 21 5 16 20::mJ 11 21::[]) [1,2,3,4,11]) Qayg
def Qbfu:SC:=sR [zJ 10 0] [0,1,2,3,4] Qayh
abbrev Nh:List RS:=[.tmp 10]
theorem Qa9o:mFn prog BP 5 37 Qbfu Nh=true:=ZB
def Qanf:SC:=sR [mJ 13 0,kJ 14 13,fJ 15 1 14,fJ 16 1 15,lJ 17 16,cJ 18 .sub 17 1,mJ 2 18] [2] .ret
def Qang:SC:=sR [mJ 3 0,mJ 4 0,kJ 5 4,fJ 6 1 5,fJ 7 1 6,lJ 8 7,cJ 9 .add 8 1,kJ 10 3,fJ 11 1 10,fJ 12 1 11,sJ 1 12 9] [0] Qanf
def Qaye:SC:=sR [zJ 2 0] [0] Qang
abbrev Q3v:List RS:=[.tmp 2]
theorem Qau8:mFn prog Dk 1 19 Qaye Q3v=true:=ZB
def Qar4:SC:=.reg [mJ 33 0,mJ 34 4,kJ 35 33,fJ 36 4 35,sJ 1 36 34] []
def Qar5:SC:=sR [mJ 29 10,mJ 30 3,kJ 31 29,fJ 32 4 31,sJ 1 32 30] [0,4] Qar4
def Qar6:SC:=sR [mJ 25 10,mJ 26 2,kJ 27 25,fJ 28 3 27,sJ 1 28 26] [0,3,4,10] Qar5
def Qar7:SC:=sR [mJ 21 10,mJ 22 1,kJ 23 21,fJ 24 2 23,sJ 1 24 22] [0,2,3,4,10] Qar6
def Qa7d:SC:=.seq (.aA 11 [0,1,2,3,4,5,6,7,8,9,10] ( mJ 11 0::kJ 12 11::fJ 13 1 12::fJ 14 2 13::lJ 15 14::mJ 16 0::kJ 17 16::fJ 18 4 17::lJ 19 18::iJ 20 5 15 19::mJ 10 20::[]) [0,1,2,3,4,10]) Qar7
abbrev Po:List RS:=[]
theorem Qa0k:mFn prog C4 5 37 Qa7d Po=true:=ZB
def Qpz:List Item:=[mJ 7 18]
def Qp0:List Item:=[mJ 6 34]
def Qp1:List Item:=xJ 34 5 30 33::Qp0
def Qakf:SC:=.reg [mJ 28 7,cJ 29 .sub 28 1,mJ 7 29] [0,1,5,6,7]
def Qakg:SC:=.seq (.block 1 (.reg (mJ 30 6::mJ 31 0::mJ 32 1::aJ 33 Tj [.t 31,.t 32]::Qp1) [0,1,5,6,7])) Qakf
def Qaet:SC:=.seq (sR [mJ 19 7,cJ 20 .gtr 19 0,mJ 21 20,gTm 22 21 0,gT 23 21 (.nck (.t 22)),gTf 24 21 4 23,gTl 25 21 24,gT 26 21 (.bin 0 .gtr (.t 25) (kI 0)),pF 27 21 26] [0,1,5,6,7,27] (cT 27 .skip (.exit 0))) Qakg
def Qakh:SC:=sR [mJ 39 6,mJ 4 39] [4] .ret
def Qaki:SC:=sR [mJ 35 0,mJ 36 5,kJ 37 35,fJ 38 2 37,sJ 1 38 36] [6] Qakh
def Qakj:SC:=.seq (sR (mJ 13 0::kJ 14 13::fJ 15 0 14::lJ 16 15::fI 17 (.aG 1 [kI 2,kI 3,kI 1,kI 4])::aJ 18 AV [.t 16,.t 17]::Qpz) [0,1,5,6,7] (bL 0 Qaet)) Qaki
def Qakk:SC:=sR [fI 12 (.aG 5 []),mJ 6 12] [0,1,5,6] Qakj
def Qaes:SC:=sR [mJ 8 0,kJ 9 8,fJ 10 2 9,lJ 11 10,mJ 5 11] [0,1,5] Qakk
def Qaxw:SC:=sR [fI 4 (.mv (.k (.c (.sl true 5 []))))] [0,1] Qaes
abbrev Q3r:List RS:=[.tmp 4]
theorem Qau3:mFn prog GW 2 40 Qaxw Q3r=true:=ZB
def Qvr:List Item:=[hJ 12 11,hJ 16 15,sJ 4 5 18]
def Qvs:List Item:=eI 5 (.alloc [.int .i64 0,.int .i64 0,.str [],.sl true 4 []])::Qvr
def TH:List Item:=[gF 31 25 (.bin 0 .gtr (.t 30) (kI 0)),pT 32 25 31]
def s_l3Gen_expr_3:SC:=cT 32 (sR [tJ 33 4 5,sJ 4 4 33] [4] .ret) .skip
def Qvt:List Item:=[hJ 37 36,hJ 41 40,hJ 45 44,.chk 46 none (.len (.t 45)),.chk 48 none (.iad 3 (.t 37) (.t 47)),.chk 49 none (.ld 3 true (.t 48)),sJ 3 6 49]
def Qvu:List Item:=hJ 37 36::iJ 48 3 37 47::tJ 49 3 48::eI 6 (.alloc [.str [],.sl true 1 [],.sl true 5 []])::Qvt
def Qvv:List Item:=[sJ 4 7 52]
def Qvw:List Item:=[fJ 73 3 7,sJ 1 73 72]
def Qvx:List Item:=hJ 61 60::fI 71 (.aG 4 [.t 70])::xJ 72 4 61 71::Qvw
def Qarc:SC:=.reg [mJ 58 8,cJ 59 .add 58 1,mJ 8 59] [0,4,6,7,8]
def Qakl:SC:=.seq (.block 1 (.aA 15 [0,1,2,3,4,5,6,7,8,9,10,1,11,12,13,14] ( fJ 60 3 7::lJ 61 60::mJ 62 0::kJ 63 62::fJ 64 0 63::lJ 65 64::mJ 66 0::kJ 67 66::fJ 68 2 67::lJ 69 68::aJ 70 Eh [.t 65,.t 69,kI 2]::Qvx) [0,4,6,7,8])) Qarc
def Qaeu:SC:=.seq (sR [mJ 53 8,fJ 54 1 6,lJ 55 54,nJ 56 55,bJ 57 .lss 53 56] [0,4,6,7,8,57] (cT 57 .skip (.exit 0))) Qakl
def Qp2:List Item:=[cJ 79 .eql 78 0]
def Qakm:SC:=cT 79 (sR [tJ 80 4 7,sJ 4 4 80] [4] .ret) .skip
def Qp3:List Item:=[.chk 87 none (.ld 4 true (.t 7)),fI 97 (.aG 4 [.t 87,.t 96]),fI 98 (.bld [.int .i64 0,.int .i64 0,.str [],.sl true 4 []] [(0,1,.t 86),(3,1,.t 97)]),sJ 4 4 98]
def Qp4:List Item:=.chk 87 none (.ld 4 true (.t 7))::hJ 91 90::hJ 95 94::aJ 96 Eh [.t 91,.t 95,kI 2]::Qp3
def Qakn:SC:=.seq (.aA 19 [0,1,2,3,4,6,7,8,9,10,11,12,13,14,5,6,10,14,15,6,16,17,18] ( mJ 81 0::kJ 82 81::fJ 83 0 82::lJ 84 83::fI 85 (.aG 1 [kI 3,kI 4,kI 8,kI 10])::tJ 87 4 7::mJ 88 0::kJ 89 88::fJ 90 0 89::lJ 91 90::mJ 92 0::kJ 93 92::fJ 94 2 93::lJ 95 94::aJ 86 AV [.t 84,.t 85]::Qp4) [4]) .ret
def Qako:SC:=.seq (sR (mJ 74 0::kJ 75 74::fJ 76 0 75::lJ 77 76::aJ 78 Qv [.t 77,kI 2]::Qp2) [0,4,7,79] Qakm) Qakn
def Qakp:SC:=.seq (sR [zJ 8 0] [0,4,6,7,8] (bL 0 Qaeu)) Qako
def Qakq:SC:=sR (fJ 50 0 6::lJ 51 50::fI 52 (.bld [.int .i64 0,.int .i64 0,.str [],.sl true 4 []] [(0,1,kI 13),(2,1,.t 51)])::eI 7 (.alloc [.int .i64 0,.int .i64 0,.str [],.sl true 4 []])::Qvv) [0,4,6,7] Qakp
def Qvq:SC:=.seq (.aA 16 [0,1,2,3,4,5,6,7,8,9,10,11,12,13,3,14,15,16,3,7,11,12,14,15,17] ( mJ 34 0::kJ 35 34::fJ 36 1 35::lJ 37 36::mJ 38 0::kJ 39 38::fJ 40 0 39::lJ 41 40::mJ 42 0::kJ 43 42::fJ 44 1 43::lJ 45 44::nJ 46 45::aJ 47 Qv [.t 41,.t 46]::Qvu) [0,4,6]) Qakq
def Qakr:SC:=.seq (sR (mJ 19 0::kJ 20 19::fJ 21 1 20::lJ 22 21::nJ 23 22::cJ 24 .eql 23 0::mJ 25 24::gFm 26 25 0::gF 27 25 (.nck (.t 26))::gFf 28 25 0 27::gFl 29 25 28::.e (some 30) (some (25,false)) (.call Qv [.t 29,kI 4])::TH) [0,4,5,32] s_l3Gen_expr_3) Qvq
def Qaks:SC:=.seq (.aA 10 [0,1,2,3,4,5,6,7,8,9,10,3,7,11] ( mJ 9 0::kJ 10 9::fJ 11 0 10::lJ 12 11::mJ 13 0::kJ 14 13::fJ 15 2 14::lJ 16 15::mJ 17 1::aJ 18 Eh [.t 12,.t 16,.t 17]::Qvs) [0,4,5]) Qakr
def Qa55:SC:=sR [eI 4 (.alloc [.int .i64 0,.int .i64 0,.str [],.sl true 4 []])] [0,1,4] Qaks
abbrev RL:List RS:=[.cell 4 4 true]
theorem Qa0e:mFn prog Dh 2 99 Qa55 RL=true:=ZB
def PQ:List Item:=[oJ 17 16]
def YH:SC:=cT 17 (sR [fB 2 false] [2] .ret) .skip
def YG:SC:=.reg [mJ 9 3,cJ 10 .add 9 1,mJ 3 10] [1,3]
def YF:SC:=.seq (.block 1 (sR (fJ 11 1 1::lJ 12 11::mJ 13 3::iJ 14 1 12 13::lJ 15 14::aJ 16 GQ [.t 15]::PQ) [1,3,17] YH)) YG
def Qbrj:SC:=.seq (sR [mJ 4 3,fJ 5 1 1,lJ 6 5,nJ 7 6,bJ 8 .lss 4 7] [1,3,8] (cT 8 .skip (.exit 0))) YF
def FA:List Item:=[pF 31 27 30,mJ 2 31]
def PP:List Item:=mJ 21 20::gTf 22 21 1 1::gTl 23 21 22::gT 24 21 (.len (.t 23))::gT 25 21 (.bin 0 .leq (.t 24) (kI 3))::pF 26 21 25::mJ 27 26::gTf 28 27 2 1::gTl 29 27 28::.e (some 30) (some (27,true)) (.call HB [.t 29,kI 4])::FA
def YE:SC:=sR (fJ 18 0 1::lJ 19 18::aJ 20 GQ [.t 19]::PP) [2] .ret
def YD:SC:=.seq (sR [zJ 3 0] [1,3] (bL 0 Qbrj)) YE
def Qb2d:SC:=sR [vJ 1 0,fB 2 false] [1] YD
abbrev EO:List RS:=[.tmp 2]
theorem Qb1y:mFn prog Gt 1 32 Qb2d EO=true:=ZB
def Lb:List Item:=[bJ 20 .add 12 19,mJ 3 20]
def Qbrd:SC:=.reg [mJ 10 4,cJ 11 .add 10 1,mJ 4 11] [1,3,4]
def Qbre:SC:=.seq (.block 1 (.reg (mJ 12 3::fJ 13 0 1::lJ 14 13::mJ 15 4::iJ 16 3 14 15::fJ 17 2 16::lJ 18 17::aJ 19 HC [.t 18]::Lb) [1,3,4])) Qbrd
def Qbkj:SC:=.seq (sR [mJ 5 4,fJ 6 0 1,lJ 7 6,nJ 8 7,bJ 9 .lss 5 8] [1,3,4,9] (cT 9 .skip (.exit 0))) Qbre
def Qbrf:SC:=sR [mJ 21 3,mJ 2 21] [2] .ret
def Qbrg:SC:=.seq (sR [zJ 4 0] [1,3,4] (bL 0 Qbkj)) Qbrf
def Qbrh:SC:=sR [zJ 3 0] [1,3] Qbrg
def Qb0c:SC:=sR [vJ 1 0,zJ 2 0] [1] Qbrh
abbrev Iv:List RS:=[.tmp 2]
theorem VJ:mFn prog F1 1 22 Qb0c Iv=true:=ZB
def Oj:List Item:=[mJ 5 4,gTm 6 5 0,gT 7 5 (.bin 0 .neq (.t 6) (kI 12)),pF 8 5 7,mJ 9 8,gTm 10 9 0,gT 11 9 (.bin 0 .neq (.t 10) (kI 13)),pF 12 9 11,mJ 2 12]
def Qbey:SC:=sR (mJ 3 0::aJ 4 AJ [.t 3,kI 1,kI 14]::Oj) [2] .ret
def Qbro:SC:=sR [fB 2 false] [0] Qbey
abbrev Rj:List RS:=[.tmp 2]
theorem Qbpa:mFn prog Eu 1 13 Qbro Rj=true:=ZB
def M5:List Item:=[mJ 24 23,gFm 25 24 0,gF 26 24 (.bin 0 .eql (.t 25) (kI 12)),pT 27 24 26,mJ 21 27]
def Qbk2:SC:=cT 21 (sR [zJ 2 2] [2] .ret) .skip
def Qbk3:SC:=cT 6 (sR [zJ 2 1] [2] .ret) (sR (mJ 22 0::aJ 23 AJ [.t 22,kI 3,kI 9]::M5) [21] Qbk2)
def Qbk4:SC:=cT 3 (sR [zJ 2 0] [2] .ret) (sR [mJ 7 0,cJ 8 .eql 7 2,mJ 9 8,gFm 10 9 0,gF 11 9 (.bin 0 .eql (.t 10) (kI 10)),pT 12 9 11,mJ 13 12,gFm 14 13 0,gF 15 13 (.bin 0 .eql (.t 14) (kI 11)),pT 16 13 15,mJ 17 16,gFm 18 17 0,gF 19 17 (.bin 0 .eql (.t 18) (kI 13)),pT 20 17 19,mJ 6 20] [0,6] Qbk3)
def Qbk5:SC:=sR [zJ 2 (-1)] [2] .ret
def Qbk6:SC:=.seq (.block 0 (sR [mJ 4 0,cJ 5 .eql 4 1,mJ 3 5] [0,3] Qbk4)) Qbk5
def Y9:SC:=sR [zJ 2 0] [0] Qbk6
abbrev Fp:List RS:=[.tmp 2]
theorem Qbup:mFn prog Hl 1 28 Y9 Fp=true:=ZB
def Qbdr:SC:=cT 3 (sR [zJ 2 1] [2] .ret) .skip
def Qbds:SC:=sR [zJ 2 0] [2] .ret
def Qbdt:SC:=.seq (sR [mJ 3 0] [3] Qbdr) Qbds
def Qbrl:SC:=sR [zJ 2 0] [0] Qbdt
abbrev FD:List RS:=[.tmp 2]
theorem Qbo8:mFn prog Q65 1 4 Qbrl FD=true:=ZB
def Qasf:SC:=cT 11 (sR [mJ 12 0,tJ 13 5 3,aJ 14 Tg [.t 12,.t 13]] [] .ret) .skip
def Qwx:List Item:=[mJ 4 32]
def Qwy:List Item:=fI 31 (.aG 1 [.t 30])::xJ 32 1 23 31::Qwx
def Qasg:SC:=.reg [mJ 21 5,cJ 22 .add 21 1,mJ 5 22] [0,3,4,5]
def Qash:SC:=.seq (.block 1 (.reg (mJ 23 4::mJ 24 0::fJ 25 2 3::lJ 26 25::mJ 27 5::iJ 28 4 26 27::tJ 29 4 28::aJ 30 E3 [.t 24,.t 29]::Qwy) [0,3,4,5])) Qasg
def Qan1:SC:=.seq (sR [mJ 16 5,fJ 17 2 3,lJ 18 17,nJ 19 18,bJ 20 .lss 16 19] [0,3,4,5,20] (cT 20 .skip (.exit 0))) Qash
def Qwz:List Item:=[kJ 58 44,fJ 59 5 58,sJ 1 59 57]
def Qasi:SC:=.reg [mJ 60 0,mJ 61 0,kJ 62 61,fJ 63 6 62,lJ 64 63,cJ 65 .add 64 1,kJ 66 60,fJ 67 6 66,sJ 1 67 65] []
def Qasj:SC:=.seq (.aA 17 [0,1,2,3,4,5,6,7,8,9,10,11,12,13,14,15,16] ( mJ 44 0::mJ 45 0::kJ 46 45::fJ 47 5 46::lJ 48 47::fJ 49 1 3::lJ 50 49::mJ 51 0::kJ 52 51::fJ 53 6 52::lJ 54 53::fI 55 (.bld [.str [],.int .i64 0,.int .i64 0] [(0,1,.t 50),(1,1,.t 54),(2,1,kI 0)])::fI 56 (.aG 3 [.t 55])::xJ 57 3 48 56::Qwz) [0]) Qasi
def Qw0:List Item:=[mJ 75 4,aJ 76 BP [.t 70,kI 2,.t 74,kI 0,.t 75]]
def Qqz:List Item:=[.chk 91 none (.iad 1 (.t 90) (kI 0)),hJ 92 91,aJ 96 C4 [.t 89,kI 3,.t 92,.t 93,.t 95]]
def Qq0:List Item:=[mJ 6 100]
def Qq1:List Item:=[mJ 7 102]
def Qq2:List Item:=[mJ 8 104]
def Qanj:SC:=.reg [mJ 127 0,mJ 128 8,fI 129 (.aG 1 [.t 128]),mJ 130 8,aJ 131 C4 [.t 127,kI 1,kI 0,.t 129,.t 130]] []
def Qank:SC:=sR [mJ 123 0,fJ 124 4 3,lJ 125 124,aJ 126 GV [.t 123,.t 125]] [0,8] Qanj
def Qanl:SC:=sR [mJ 118 0,mJ 119 8,fI 120 (.aG 1 [.t 119]),mJ 121 7,aJ 122 C4 [.t 118,kI 1,kI 0,.t 120,.t 121]] [0,3,8] Qank
def Qanm:SC:=sR [mJ 114 0,fJ 115 3 3,lJ 116 115,aJ 117 GV [.t 114,.t 116]] [0,3,7,8] Qanl
def Qann:SC:=sR [mJ 105 0,mJ 106 4,fI 107 (.iad 1 (.t 106) (kI 0)),lJ 108 107,mJ 109 6,mJ 110 7,fI 111 (.aG 1 [.t 109,.t 110]),mJ 112 6,aJ 113 C4 [.t 105,kI 2,.t 108,.t 111,.t 112]] [0,3,7,8] Qanm
def Qano:SC:=sR (mJ 103 0::aJ 104 Cr [.t 103]::Qq2) [0,3,4,6,7,8] Qann
def Qanp:SC:=sR (mJ 101 0::aJ 102 Cr [.t 101]::Qq1) [0,3,4,6,7] Qano
def Qanq:SC:=cT 97 (sR (mJ 99 0::aJ 100 Cr [.t 99]::Qq0) [0,3,4,6] Qanp) .skip
def Qanr:SC:=cT 87 (.aA 8 [0,1,2,3,4,5,6,2,3,7] ( mJ 89 0::mJ 90 4::fI 91 (.iad 1 (.t 90) (kI 0))::lJ 92 91::fI 93 (.aG 1 [])::mJ 94 0::aJ 95 Cr [.t 94]::Qqz) []) (sR [cJ 98 .eql 34 5,mJ 97 98] [0,3,4,97] Qanq)
def Qans:SC:=cT 82 (.reg [mJ 84 0,mJ 85 4,aJ 86 BP [.t 84,kI 12,kI (-1),kI 0,.t 85]] []) (sR [cJ 88 .eql 34 7,mJ 87 88] [0,3,4,34,87] Qanr)
def Qant:SC:=cT 77 (.reg [mJ 79 0,mJ 80 4,aJ 81 BP [.t 79,kI 13,kI (-1),kI 0,.t 80]] []) (sR [cJ 83 .eql 34 4,mJ 82 83] [0,3,4,34,82] Qans)
def Qanu:SC:=cT 68 (.reg (mJ 70 0::mJ 71 0::fJ 72 1 3::lJ 73 72::aJ 74 RR [.t 71,.t 73]::Qw0) []) (sR [cJ 78 .eql 34 3,mJ 77 78] [0,3,4,34,77] Qant)
def Qanv:SC:=cT 35 (sR [mJ 37 0,mJ 38 0,kJ 39 38,fJ 40 6 39,lJ 41 40,mJ 42 4,aJ 43 BP [.t 37,kI 2,.t 41,kI 0,.t 42]] [0,3] Qasj) (sR [cJ 69 .eql 34 2,mJ 68 69] [0,3,4,34,68] Qanu)
def Qanw:SC:=.block 2 (sR [cJ 36 .eql 34 1,mJ 35 36] [0,3,4,34,35] Qanv)
def Qanx:SC:=.seq (.seq .gh (.reg [fJ 33 0 3,lJ 34 33] [0,3,4,34])) Qanw
def Qany:SC:=.seq (sR [zJ 5 0] [0,3,4,5] (bL 0 Qan1)) Qanx
def Qanz:SC:=sR [fI 15 (.aG 1 []),mJ 4 15] [0,3,4] Qany
def Qan0:SC:=.seq (sR [fJ 9 0 3,lJ 10 9,cJ 11 .eql 10 6] [0,3,11] Qasf) Qanz
def Qa7f:SC:=sR [vJ 3 1] [0,3] Qan0
abbrev SK:List RS:=[]
theorem Qa0m:mFn prog Tf 2 132 Qa7f SK=true:=ZB
def Qv8:List Item:=[mJ 5 19]
def Qv9:List Item:=[fI 42 (.aG 4 [.t 41]),fI 43 (.bld [.int .i64 0,.str [],.sl true 4 [],.sl true 5 [],.sl true 5 []] [(0,1,kI 2),(1,1,.t 39),(2,1,.t 42)]),fI 44 (.aG 5 [.t 43]),mJ 4 44]
def Qwa:List Item:=aJ 41 Dh [.t 40,kI 3]::Qv9
def Qwb:List Item:=[fI 52 (.aG 5 [.t 51]),mJ 4 52]
def Qwc:List Item:=aJ 51 RT [.t 48,.t 50]::Qwb
def Qwd:List Item:=[fI 62 (.aG 4 [.t 61]),fI 63 (.bld [.int .i64 0,.str [],.sl true 4 [],.sl true 5 [],.sl true 5 []] [(0,1,kI 3),(2,1,.t 62)]),fI 64 (.aG 5 [.t 63]),mJ 4 64]
def Qwe:List Item:=[fI 72 (.aG 4 [.t 69,.t 71]),fI 73 (.bld [.int .i64 0,.str [],.sl true 4 [],.sl true 5 [],.sl true 5 []] [(0,1,kI 4),(2,1,.t 72)]),fI 74 (.aG 5 [.t 73]),mJ 4 74]
def Qwf:List Item:=mJ 70 0::aJ 71 Dh [.t 70,kI 2]::Qwe
def Qwg:List Item:=[fI 80 (.aG 4 [.t 79]),fI 81 (.bld [.int .i64 0,.int .i64 0,.str [],.sl true 4 []] [(0,1,kI 12),(3,1,.t 80)]),fI 82 (.aG 4 [.t 81]),fI 83 (.bld [.int .i64 0,.str [],.sl true 4 [],.sl true 5 [],.sl true 5 []] [(0,1,kI 3),(2,1,.t 82)]),fI 84 (.aG 5 [.t 83]),mJ 4 84]
def Qwh:List Item:=[sJ 5 6 95]
def Qp7:List Item:=fI 95 (.bld [.int .i64 0,.str [],.sl true 4 [],.sl true 5 [],.sl true 5 []] [(0,1,kI 5),(2,1,.t 90),(3,1,.t 94)])::eI 6 (.alloc [.int .i64 0,.str [],.sl true 4 [],.sl true 5 [],.sl true 5 []])::Qwh
def Qp8:List Item:=fI 90 (.aG 4 [.t 89])::mJ 91 0::mJ 92 1::cJ 93 .sub 92 1::aJ 94 GW [.t 91,.t 93]::Qp7
def Qp9:List Item:=[cJ 101 .eql 100 0]
def Qqa:List Item:=[fJ 106 4 6,sJ 1 106 105]
def Qak0:SC:=cT 101 (.reg (mJ 102 0::mJ 103 1::cJ 104 .sub 103 1::aJ 105 GW [.t 102,.t 104]::Qqa) [6]) .skip
def Qv6:SC:=sR [tJ 107 5 6,fI 108 (.aG 5 [.t 107]),mJ 4 108] [4] .ret
def Qak1:SC:=.seq (sR (mJ 96 0::kJ 97 96::fJ 98 0 97::lJ 99 98::aJ 100 Qv [.t 99,kI 2]::Qp9) [0,1,6,101] Qak0) Qv6
def Ve:List Item:=[gT 118 112 (.bin 0 .eql (.t 117) (kI 0)),pF 119 112 118,mJ 109 119]
def Qqb:List Item:=[fI 122 (.aG 4 [.t 121]),fI 123 (.bld [.int .i64 0,.str [],.sl true 4 [],.sl true 5 [],.sl true 5 []] [(0,1,kI 7),(2,1,.t 122)]),fI 124 (.aG 5 [.t 123]),mJ 4 124]
def Qv7:SC:=cT 109 (sR (mJ 120 0::aJ 121 Dh [.t 120,kI 2]::Qqb) [4] .ret) .skip
def Qak2:SC:=cT 85 (sR (mJ 88 0::aJ 89 Dh [.t 88,kI 3]::Qp8) [0,1,6] Qak1) (sR (mJ 110 5::cJ 111 .eql 110 11::mJ 112 111::gTm 113 112 0::gT 114 112 (.nck (.t 113))::gTf 115 112 0 114::gTl 116 112 115::.e (some 117) (some (112,true)) (.call Qv [.t 116,kI 3])::Ve) [0,1,109] Qv7)
def Qak3:SC:=cT 75 (sR (mJ 78 0::aJ 79 Se [.t 78]::Qwg) [4] .ret) (sR [mJ 86 5,cJ 87 .lss 86 11,mJ 85 87] [0,1,5,85] Qak2)
def Qak4:SC:=cT 65 (sR (mJ 68 0::aJ 69 Se [.t 68]::Qwf) [4] .ret) (sR [mJ 76 5,cJ 77 .eql 76 8,mJ 75 77] [0,1,5,75] Qak3)
def Qak5:SC:=cT 53 (sR (mJ 60 0::aJ 61 Dh [.t 60,kI 3]::Qwd) [4] .ret) (sR [mJ 66 5,cJ 67 .eql 66 7,mJ 65 67] [0,1,5,65] Qak4)
def Qak6:SC:=cT 45 (sR (mJ 48 0::mJ 49 0::aJ 50 Dh [.t 49,kI 3]::Qwc) [4] .ret) (sR [mJ 54 5,cJ 55 .lss 54 7,mJ 56 55,gFm 57 56 1,gF 58 56 (.bin 0 .lss (.t 57) (kI 2)),pT 59 56 58,mJ 53 59] [0,1,5,53] Qak5)
def Qak7:SC:=cT 20 (.seq (.aA 15 [0,1,2,3,4,5,6,7,9,8,10,11,12,13,14] ( mJ 31 0::kJ 32 31::fJ 33 0 32::lJ 34 33::mJ 35 0::kJ 36 35::fJ 37 2 36::lJ 38 37::mJ 40 0::aJ 39 HJ [.t 34,.t 38]::Qwa) [4]) .ret) (sR [mJ 46 5,cJ 47 .lss 46 5,mJ 45 47] [0,1,5,45] Qak6)
def Qqc:List Item:=[mJ 4 127]
def TG:SC:=sR (mJ 125 0::mJ 126 1::aJ 127 Tk [.t 125,.t 126]::Qqc) [4] .ret
def Qak8:SC:=.seq (.block 0 (sR [mJ 21 5,cJ 22 .lss 21 3,mJ 23 22,gTm 24 23 0,gT 25 23 (.nck (.t 24)),gTf 26 23 2 25,gTl 27 23 26,gT 28 23 (.len (.t 27)),gT 29 23 (.bin 0 .gtr (.t 28) (kI 0)),pF 30 23 29,mJ 20 30] [0,1,5,20] Qak7)) TG
def Qak9:SC:=sR (mJ 15 0::kJ 16 15::fJ 17 0 16::lJ 18 17::aJ 19 Qv [.t 18,kI 13]::Qv8) [0,1,5] Qak8
def Qala:SC:=sR [mJ 7 0,mJ 8 0,kJ 9 8,fJ 10 4 9,lJ 11 10,cJ 12 .sub 11 1,kJ 13 7,fJ 14 4 13,sJ 1 14 12] [0,1] Qak9
def Qa59:SC:=sR [fI 4 (.mv (.k (.c (.sl true 5 []))))] [0,1] Qala
abbrev CB:List RS:=[.tmp 4]
theorem Qa0g:mFn prog Tj 2 128 Qa59 CB=true:=ZB
def Q2h:List Item:=[gF 13 10 (.bin 0 .eql (.t 12) (kI 0)),pT 14 10 13]
def MR:List Item:=[sJ 4 6 17]
def s_l2Expr_2:SC:=cT 14 (sR (mJ 15 0::mJ 16 1::aJ 17 Gj [.t 15,.t 16]::MR) [6] .ret) .skip
def Ng:List Item:=[cJ 20 .eql 19 0]
def Nf:List Item:=[fI 29 (.aG 4 [.t 28]),fI 30 (.bld [.int .i64 0,.int .i64 0,.str [],.sl true 4 []] [(0,1,.t 23),(3,1,.t 29)]),sJ 4 6 30]
def Nc:List Item:=mJ 24 0::mJ 25 1::mJ 26 2::cJ 27 .sub 26 1::aJ 28 Eh [.t 24,.t 25,.t 27]::Nf
def Qbj9:SC:=cT 20 (sR (mJ 21 0::fI 22 (.aG 1 [kI 11,kI 12,kI 11])::aJ 23 AV [.t 21,.t 22]::Nc) [6] .ret) .skip
def Nb:List Item:=[mJ 7 33]
def Na:List Item:=[fI 45 (.aG 4 [.t 39,.t 44]),fI 46 (.bld [.int .i64 0,.int .i64 0,.str [],.sl true 4 []] [(0,1,.t 34),(3,1,.t 45)]),sJ 4 6 46]
def MZ:List Item:=mJ 40 0::mJ 41 1::mJ 42 2::cJ 43 .sub 42 1::aJ 44 Eh [.t 40,.t 41,.t 43]::Na
def Qbce:SC:=sR (mJ 34 7::mJ 35 0::mJ 36 1::mJ 37 2::cJ 38 .sub 37 1::aJ 39 Eh [.t 35,.t 36,.t 38]::MZ) [6] .ret
def Qbcf:SC:=sR (mJ 31 0::fI 32 (.aG 1 [kI 3,kI 3,kI 4,kI 5,kI 6,kI 7,kI 8,kI 9,kI 10])::aJ 33 AV [.t 31,.t 32]::Nb) [0,1,2,6,7] Qbce
def MS:SC:=.seq (sR (mJ 18 0::aJ 19 Qv [.t 18,kI 7]::Ng) [0,1,2,6,20] Qbj9) Qbcf
def Qbcg:SC:=.seq (sR (mJ 8 2::cJ 9 .lss 8 2::mJ 10 9::gFm 11 10 0::.e (some 12) (some (10,false)) (.call Qv [.t 11,kI 4])::Q2h) [0,1,2,6,14] s_l2Expr_2) MS
def YM:SC:=sR [eI 6 (.alloc [.int .i64 0,.int .i64 0,.str [],.sl true 4 []])] [0,1,2,6] Qbcg
abbrev DO:List RS:=[.cell 6 4 true]
theorem Qbuh:mFn prog Eh 3 47 YM DO=true:=ZB
def TD:List Item:=[gT 13 10 (.not (.t 12)),pF 14 10 13,mJ 2 14]
def Q0v:List Item:=mJ 5 4::gTm 6 5 0::gT 7 5 (.lens (.t 6))::gT 8 5 (.bin 0 .leq (.t 7) (kI 4))::pF 9 5 8::mJ 10 9::gTm 11 10 0::.e (some 12) (some (10,true)) (.call F2 [.t 11])::TD
def Qays:SC:=sR (mJ 3 0::aJ 4 F3 [.t 3,kI 1]::Q0v) [2] .ret
def Qbf3:SC:=sR [fB 2 false] [0] Qays
abbrev Q1d:List RS:=[.tmp 2]
theorem Qa9q:mFn prog GQ 1 15 Qbf3 Q1d=true:=ZB
def NT:List Item:=[oJ 18 17]
def Qbdl:SC:=cT 18 (sR [fB 4 false] [4] .ret) .skip
def Qbdm:SC:=.reg [mJ 10 5,cJ 11 .add 10 1,mJ 5 11] [0,1,5]
def Qbdn:SC:=.seq (.block 1 (sR (mJ 12 0::mJ 13 5::iJ 14 5 12 13::tJ 15 5 14::mJ 16 1::aJ 17 Gg [.t 15,.t 16]::NT) [0,1,5,18] Qbdl)) Qbdm
def Qa6b:SC:=.seq (sR [mJ 6 5,mJ 7 0,nJ 8 7,bJ 9 .lss 6 8] [0,1,5,9] (cT 9 .skip (.exit 0))) Qbdn
def Qbdo:SC:=sR [fB 4 true] [4] .ret
def Qbdp:SC:=.seq (sR [zJ 5 0] [0,1,5] (bL 0 Qa6b)) Qbdo
def Qbrk:SC:=sR [fB 4 false] [0,1] Qbdp
abbrev FE:List RS:=[.tmp 4]
theorem Qbo7:mFn prog HB 2 19 Qbrk FE=true:=ZB
def OH:List Item:=[bJ 27 .add 20 26,mJ 3 27]
def OG:List Item:=.chk 23 none (.iad 5 (.t 21) (.t 22))::hJ 25 24::bJ 20 .add 13 19::aJ 26 HC [.t 25]::OH
def Qbcz:SC:=.reg [mJ 11 4,cJ 12 .add 11 1,mJ 4 12] [0,3,4]
def Qbc0:SC:=.seq (.block 1 (.aA 16 [0,1,2,3,4,5,8,9,10,11,12,6,10,12,7,13,14,15] ( mJ 13 3::mJ 14 0::mJ 15 4::iJ 16 5 14 15::fJ 17 3 16::lJ 18 17::mJ 21 0::mJ 22 4::iJ 23 5 21 22::fJ 24 4 23::lJ 25 24::aJ 19 HC [.t 18]::OG) [0,3,4])) Qbcz
def Qa51:SC:=.seq (sR [mJ 7 4,mJ 8 0,nJ 9 8,bJ 10 .lss 7 9] [0,3,4,10] (cT 10 .skip (.exit 0))) Qbc0
def Qbc1:SC:=sR [mJ 28 3,mJ 2 28] [2] .ret
def Qbc2:SC:=.seq (sR [zJ 4 0] [0,3,4] (bL 0 Qa51)) Qbc1
def Qbc3:SC:=sR [mJ 5 0,nJ 6 5,mJ 3 6] [0,3] Qbc2
def Qbri:SC:=sR [zJ 2 0] [0] Qbc3
abbrev Rk:List RS:=[.tmp 2]
theorem Qbo6:mFn prog HC 1 29 Qbri Rk=true:=ZB
def Qwt:List Item:=[mJ 4 9]
def Qwu:List Item:=[mJ 5 11]
def Qwv:List Item:=[mJ 6 13]
def Qww:List Item:=[mJ 7 24]
def Qar8:SC:=.reg [mJ 36 0,mJ 37 4,fI 38 (.aG 1 [.t 37]),mJ 39 6,aJ 40 C4 [.t 36,kI 1,kI 0,.t 38,.t 39]] []
def Qar9:SC:=sR [mJ 32 0,fJ 33 3 3,lJ 34 33,aJ 35 GV [.t 32,.t 34]] [0,4,6] Qar8
def Qasa:SC:=sR [mJ 25 0,mJ 26 7,mJ 27 5,mJ 28 6,fI 29 (.aG 1 [.t 27,.t 28]),mJ 30 5,aJ 31 C4 [.t 25,kI 2,.t 26,.t 29,.t 30]] [0,3,4,6] Qar9
def Qasb:SC:=sR (mJ 19 0::fJ 20 2 3::lJ 21 20::fI 22 (.iad 4 (.t 21) (kI 0))::tJ 23 4 22::aJ 24 E3 [.t 19,.t 23]::Qww) [0,3,4,5,6,7] Qasa
def Qasc:SC:=sR [mJ 14 0,mJ 15 4,fI 16 (.aG 1 [.t 15]),mJ 17 4,aJ 18 C4 [.t 14,kI 1,kI 0,.t 16,.t 17]] [0,3,4,5,6] Qasb
def Qasd:SC:=sR (mJ 12 0::aJ 13 Cr [.t 12]::Qwv) [0,3,4,5,6] Qasc
def Qanh:SC:=sR (mJ 10 0::aJ 11 Cr [.t 10]::Qwu) [0,3,4,5] Qasd
def Qani:SC:=sR (mJ 8 0::aJ 9 Cr [.t 8]::Qwt) [0,3,4] Qanh
def Qa7e:SC:=sR [vJ 3 1] [0,3] Qani
abbrev Pn:List RS:=[]
theorem Qa0l:mFn prog Tg 2 41 Qa7e Pn=true:=ZB
def Qwn:List Item:=[mJ 4 17]
def Qwo:List Item:=hJ 15 14::aJ 17 BP [.t 11,kI 1,.t 13,.t 15,.t 16]::Qwn
def Qwp:List Item:=[mJ 4 23]
def Qwq:List Item:=[mJ 4 28]
def Qar0:SC:=cT 24 (sR (mJ 26 0::tJ 27 4 3::aJ 28 SX [.t 26,.t 27]::Qwq) [4] .ret) .skip
def Qar1:SC:=cT 18 (sR (mJ 20 0::fJ 21 2 3::lJ 22 21::aJ 23 RR [.t 20,.t 22]::Qwp) [4] .ret) (sR [cJ 25 .eql 8 10,mJ 24 25] [0,3,24] Qar0)
def Qar2:SC:=cT 9 (.seq (.aA 8 [0,1,3,4,5,2,4,6,7] ( mJ 11 0::mJ 12 0::fJ 14 1 3::lJ 15 14::fI 16 (.aG 1 [])::aJ 13 Dk [.t 12]::Qwo) [4]) .ret) (sR [cJ 19 .eql 8 2,mJ 18 19] [0,3,8,18] Qar1)
def Qar3:SC:=.block 0 (sR [cJ 10 .eql 8 1,mJ 9 10] [0,3,8,9] Qar2)
def Qwr:List Item:=[mJ 5 46]
def Qws:List Item:=fI 45 (.aG 1 [.t 44])::xJ 46 1 37 45::Qwr
def Qam4:SC:=.reg [mJ 35 6,cJ 36 .add 35 1,mJ 6 36] [0,3,5,6]
def Qam5:SC:=.seq (.block 2 (.reg (mJ 37 5::mJ 38 0::fJ 39 3 3::lJ 40 39::mJ 41 6::iJ 42 4 40 41::tJ 43 4 42::aJ 44 E3 [.t 38,.t 43]::Qws) [0,3,5,6])) Qam4
def Qafd:SC:=.seq (sR [mJ 30 6,fJ 31 3 3,lJ 32 31,nJ 33 32,bJ 34 .lss 30 33] [0,3,5,6,34] (cT 34 .skip (.exit 1))) Qam5
def Qqq:List Item:=[mJ 4 55]
def Qqr:List Item:=mJ 54 5::aJ 55 BP [.t 51,kI 10,.t 53,kI 0,.t 54]::Qqq
def Qqs:List Item:=[mJ 4 62]
def Qqt:List Item:=mJ 61 5::aJ 62 BP [.t 58,kI 11,.t 60,kI 0,.t 61]::Qqs
def Qqu:List Item:=[mJ 4 76]
def Qqv:List Item:=aJ 76 BP [.t 65,kI 14,.t 67,.t 74,.t 75]::Qqu
def Qqw:List Item:=.chk 71 none (.ld 1 true (.t 70))::hJ 73 72::aJ 74 Q67 [.t 71,.t 73]::Qqv
def Qam6:SC:=cT 63 (.seq (.aA 13 [0,1,3,4,5,6,7,8,10,2,6,8,9,11,12] ( mJ 65 0::mJ 66 0::mJ 68 0::kJ 69 68::fJ 70 0 69::tJ 71 1 70::fJ 72 2 3::lJ 73 72::mJ 75 5::aJ 67 Dk [.t 66]::Qqw) [4]) .ret) .skip
def Qam7:SC:=cT 56 (sR (mJ 58 0::mJ 59 0::aJ 60 Dk [.t 59]::Qqt) [4] .ret) (sR [cJ 64 .eql 48 13,mJ 63 64] [0,3,5,63] Qam6)
def Qam8:SC:=cT 49 (sR (mJ 51 0::mJ 52 0::aJ 53 Dk [.t 52]::Qqr) [4] .ret) (sR [cJ 57 .eql 48 12,mJ 56 57] [0,3,5,48,56] Qam7)
def Qam9:SC:=.block 3 (sR [cJ 50 .eql 48 11,mJ 49 50] [0,3,5,48,49] Qam8)
def Qqx:List Item:=[mJ 4 83]
def Qqy:List Item:=hJ 79 78::aJ 83 BP [.t 77,.t 79,.t 81,kI 0,.t 82]::Qqx
def Qana:SC:=.seq (.aA 8 [0,1,2,3,5,4,2,6,7] ( mJ 77 0::fJ 78 0 3::lJ 79 78::mJ 80 0::mJ 82 5::aJ 81 Dk [.t 80]::Qqy) [4]) .ret
def Qanb:SC:=.seq (.seq (.seq .gh (.reg [fJ 47 0 3,lJ 48 47] [0,3,5,48])) Qam9) Qana
def Qanc:SC:=.seq (sR [zJ 6 0] [0,3,5,6] (bL 1 Qafd)) Qanb
def Qand:SC:=sR [fI 29 (.aG 1 []),mJ 5 29] [0,3,5] Qanc
def Qane:SC:=.seq (sR [fJ 7 0 3,lJ 8 7] [0,3,8] Qar3) Qand
def Qa7c:SC:=sR [vJ 3 1,zJ 4 0] [0,3] Qane
abbrev SL:List RS:=[.tmp 4]
theorem Qa0j:mFn prog E3 2 84 Qa7c SL=true:=ZB
def Qayi:SC:=cT 25 (sR [mJ 26 0,kJ 27 26,fJ 28 5 27,lJ 29 28,mJ 30 5,iJ 31 3 29 30,fJ 32 1 31,lJ 33 32,mJ 4 33] [4] .ret) .skip
def Qayj:SC:=.reg [mJ 14 5,cJ 15 .sub 14 1,mJ 5 15] [0,1,5]
def Qayk:SC:=.seq (.block 1 (sR [mJ 16 0,kJ 17 16,fJ 18 5 17,lJ 19 18,mJ 20 5,iJ 21 3 19 20,fJ 22 0 21,lJ 23 22,mJ 24 1,bJ 25 .eql 23 24] [0,1,5,25] Qayi)) Qayj
def Qase:SC:=.seq (sR [mJ 12 5,cJ 13 .geq 12 0] [0,1,5,13] (cT 13 .skip (.exit 0))) Qayk
def Qayl:SC:=sR [zJ 4 (-1)] [4] .ret
def Qaym:SC:=.seq (sR [mJ 6 0,kJ 7 6,fJ 8 5 7,lJ 9 8,nJ 10 9,cJ 11 .sub 10 1,mJ 5 11] [0,1,5] (bL 0 Qase)) Qayl
def Qbfv:SC:=sR [zJ 4 0] [0,1] Qaym
abbrev Q1c:List RS:=[.tmp 4]
theorem Qa9p:mFn prog RR 2 34 Qbfv Q1c=true:=ZB
def Q5n:List Item:=[iJ 10 1 5 9,lJ 11 10,mJ 4 11]
def Qa5z:SC:=sR (mJ 5 1::mJ 6 0::mJ 7 1::nJ 8 7::aJ 9 Qv [.t 6,.t 8]::Q5n) [4] .ret
def Qbki:SC:=sR [fI 4 (.mv (.k (.c (.str []))))] [0,1] Qa5z
abbrev Lm:List RS:=[.tmp 4]
theorem Qbjg:mFn prog HJ 2 12 Qbki Lm=true:=ZB
def Q0j:List Item:=[mJ 5 7]
def Q0k:List Item:=[kJ 18 8,fJ 19 2 18,sJ 1 19 17]
def Q0l:List Item:=mJ 15 5::fI 16 (.aG 1 [.t 15])::xJ 17 1 14 16::Q0k
def Qax2:SC:=sR [mJ 20 5,tJ 21 4 3,fI 22 (.aG 4 [.t 21]),fI 23 (.bld [.int .i64 0,.str [],.sl true 4 [],.sl true 5 [],.sl true 5 []] [(0,1,kI 1),(1,1,.t 20),(2,1,.t 22)]),sJ 5 4 23] [4] .ret
def Qax3:SC:=sR (mJ 8 0::fI 9 (.aG 1 [])::mJ 10 0::kJ 11 10::fJ 12 2 11::lJ 13 12::xJ 14 1 9 13::Q0l) [3,4,5] Qax2
def Qax4:SC:=sR (mJ 6 0::aJ 7 T8 [.t 6]::Q0j) [0,3,4,5] Qax3
def Qbc4:SC:=sR [vJ 3 1,eI 4 (.alloc [.int .i64 0,.str [],.sl true 4 [],.sl true 5 [],.sl true 5 []])] [0,3,4] Qax4
abbrev Nj:List RS:=[.cell 4 5 true]
theorem Qa9m:mFn prog RT 2 24 Qbc4 Nj=true:=ZB
def Qvo:List Item:=[fI 11 (.bld [.int .i64 0,.int .i64 0,.str [],.sl true 4 []] [(0,1,kI 1),(1,1,.t 10)]),fI 12 (.aG 4 [.t 4,.t 11]),fI 13 (.bld [.int .i64 0,.int .i64 0,.str [],.sl true 4 []] [(0,1,kI 7),(3,1,.t 12)]),sJ 4 2 13]
def Qvp:List Item:=hJ 8 7::aJ 10 AV [.t 8,.t 9]::Qvo
def Qarb:SC:=.seq (.aA 12 [0,2,3,4,5,6,1,5,7,8,9,10,11] ( mJ 3 0::mJ 5 0::kJ 6 5::fJ 7 0 6::lJ 8 7::fI 9 (.aG 1 [kI 16,kI 16,kI 16,kI 8,kI 17,kI 0])::aJ 4 Dh [.t 3,kI 2]::Qvp) [2]) .ret
def Qa54:SC:=sR [eI 2 (.alloc [.int .i64 0,.int .i64 0,.str [],.sl true 4 []])] [0,2] Qarb
abbrev Q98:List RS:=[.cell 2 4 true]
theorem Qa0d:mFn prog Se 1 14 Qa54 Q98=true:=ZB
def Qvz:List Item:=[sJ 5 5 17]
def Qv0:List Item:=eI 5 (.alloc [.int .i64 0,.str [],.sl true 4 [],.sl true 5 [],.sl true 5 []])::Qvz
def Qv1:List Item:=fI 16 (.bld [.int .i64 0,.int .i64 0,.str [],.sl true 4 []] [(0,1,kI 1),(1,1,.t 15)])::aJ 17 RT [.t 9,.t 16]::Qv0
def Qv2:List Item:=[sJ 4 6 20]
def Qv3:List Item:=[mJ 7 24]
def Qv4:List Item:=[sJ 5 8 32]
def Qv5:List Item:=[.chk 41 none (.ld 5 true (.t 5)),.chk 42 none (.ld 4 true (.t 6)),fI 48 (.bld [.int .i64 0,.str [],.sl true 4 [],.sl true 5 [],.sl true 5 []] [(0,1,kI 6),(2,1,.t 43),(3,1,.t 47)]),fI 49 (.aG 5 [.t 41,.t 48]),mJ 4 49]
def Qard:SC:=.seq (.aA 10 [0,1,2,3,4,5,6,0,1,7,8,9] ( tJ 41 5 5::tJ 42 4 6::fI 43 (.aG 4 [.t 42])::mJ 44 7::tJ 45 5 8::fI 46 (.aG 5 [.t 45])::xJ 47 5 44 46::Qv5) [4]) .ret
def Qare:SC:=sR [mJ 33 0,mJ 34 0,kJ 35 34,fJ 36 4 35,lJ 37 36,cJ 38 .sub 37 2,kJ 39 33,fJ 40 4 39,sJ 1 40 38] [5,6,7,8] Qard
def Qarf:SC:=sR (fJ 25 1 5::lJ 26 25::tJ 27 4 6::fI 28 (.bld [.int .i64 0,.int .i64 0,.str [],.sl true 4 []] [(0,1,kI 1),(1,1,kI 1)])::fI 29 (.aG 4 [.t 27,.t 28])::fI 30 (.bld [.int .i64 0,.int .i64 0,.str [],.sl true 4 []] [(0,1,kI 4),(3,1,.t 29)])::fI 31 (.aG 4 [.t 30])::fI 32 (.bld [.int .i64 0,.str [],.sl true 4 [],.sl true 5 [],.sl true 5 []] [(0,1,kI 2),(1,1,.t 26),(2,1,.t 31)])::eI 8 (.alloc [.int .i64 0,.str [],.sl true 4 [],.sl true 5 [],.sl true 5 []])::Qv4) [0,5,6,7,8] Qare
def Qakx:SC:=sR (mJ 21 0::mJ 22 1::cJ 23 .sub 22 1::aJ 24 GW [.t 21,.t 23]::Qv3) [0,5,6,7] Qarf
def Qaky:SC:=sR (fJ 18 1 5::lJ 19 18::fI 20 (.bld [.int .i64 0,.int .i64 0,.str [],.sl true 4 []] [(0,1,kI 2),(2,1,.t 19)])::eI 6 (.alloc [.int .i64 0,.int .i64 0,.str [],.sl true 4 []])::Qv2) [0,1,5,6] Qakx
def Qakz:SC:=sR (mJ 9 0::mJ 10 0::kJ 11 10::fJ 12 0 11::lJ 13 12::fI 14 (.aG 1 [kI 2,kI 3,kI 1,kI 0,kI 5])::aJ 15 AV [.t 13,.t 14]::Qv1) [0,1,5] Qaky
def Qa58:SC:=sR [fI 4 (.mv (.k (.c (.sl true 5 []))))] [0,1] Qakz
abbrev Q99:List RS:=[.tmp 4]
theorem Qa0f:mFn prog Tk 2 50 Qa58 Q99=true:=ZB
def Q2k:List Item:=[gF 11 8 (.bin 0 .eql (.t 10) (kI 0)),pT 12 8 11]
def MP:List Item:=[fI 16 (.bld [.int .i64 0,.int .i64 0,.str [],.sl true 4 []] [(0,1,kI 1),(1,1,.t 15)]),sJ 4 4 16]
def s_l2Leaf_2:SC:=cT 12 (sR (mJ 13 0::fI 14 (.aG 1 [kI 0,kI 1,kI 2,kI 3,kI 5,kI 7,kI 15,kI 16,kI 100,kI 255])::aJ 15 AV [.t 13,.t 14]::MP) [4] .ret) .skip
def MO:List Item:=[fI 20 (.bld [.int .i64 0,.int .i64 0,.str [],.sl true 4 []] [(0,1,kI 2),(2,1,.t 19)]),sJ 4 4 20]
def Lc:SC:=sR (mJ 17 0::mJ 18 1::aJ 19 HJ [.t 17,.t 18]::MO) [4] .ret
def Qbkh:SC:=.seq (sR (mJ 5 1::nJ 6 5::cJ 7 .eql 6 0::mJ 8 7::gFm 9 8 0::.e (some 10) (some (8,false)) (.call Qv [.t 9,kI 3])::Q2k) [0,1,4,12] s_l2Leaf_2) Lc
def YJ:SC:=sR [eI 4 (.alloc [.int .i64 0,.int .i64 0,.str [],.sl true 4 []])] [0,1,4] Qbkh
abbrev DN:List RS:=[.cell 4 4 true]
theorem Qbuk:mFn prog Gj 2 21 YJ DN=true:=ZB
def Lj:List Item:=[mJ 16 1,bJ 17 .neq 15 16]
def Qbqy:SC:=cT 17 (sR [fB 4 false] [4] .ret) .skip
def Qbqz:SC:=.reg [mJ 10 5,cJ 11 .add 10 1,mJ 5 11] [0,1,5]
def Qbq0:SC:=.seq (.block 1 (sR (mJ 12 0::mJ 13 5::fI 14 (.idx (.t 12) (.t 13))::aJ 15 Q62 [.t 14]::Lj) [0,1,5,17] Qbqy)) Qbqz
def Qbj7:SC:=.seq (sR [mJ 6 5,mJ 7 0,fI 8 (.lens (.t 7)),bJ 9 .lss 6 8] [0,1,5,9] (cT 9 .skip (.exit 0))) Qbq0
def Qbq1:SC:=sR [mJ 18 0,fI 19 (.lens (.t 18)),cJ 20 .gtr 19 0,mJ 4 20] [4] .ret
def Qbq2:SC:=.seq (sR [zJ 5 0] [0,1,5] (bL 0 Qbj7)) Qbq1
def Qb0a:SC:=sR [fB 4 false] [0,1] Qbq2
abbrev Gl:List RS:=[.tmp 4]
theorem VL:mFn prog F3 2 21 Qb0a Gl=true:=ZB
def Lh:List Item:=[mJ 3 5]
def Qbq4:SC:=cT 17 (sR [fB 2 true] [2] .ret) .skip
def Qbq5:SC:=.reg [mJ 10 4,cJ 11 .add 10 1,mJ 4 11] [0,3,4]
def Qbq6:SC:=.seq (.block 1 (sR [mJ 12 3,mJ 13 4,iJ 14 1 12 13,lJ 15 14,mJ 16 0,bJ 17 .eql 15 16] [0,3,4,17] Qbq4)) Qbq5
def Qbj8:SC:=.seq (sR [mJ 6 4,mJ 7 3,nJ 8 7,bJ 9 .lss 6 8] [0,3,4,9] (cT 9 .skip (.exit 0))) Qbq6
def Qbq7:SC:=sR [fB 2 false] [2] .ret
def Qbq8:SC:=.seq (sR [zJ 4 0] [0,3,4] (bL 0 Qbj8)) Qbq7
def Qbq9:SC:=sR (aJ 5 T5 []::Lh) [0,3] Qbq8
def Qb0b:SC:=sR [fB 2 false] [0] Qbq9
abbrev Gs:List RS:=[.tmp 2]
theorem VK:mFn prog F2 1 18 Qb0b Gs=true:=ZB
def RE:List Item:=[.chk 17 (some (15,false)) (.ld 1 false (.t 16)),.chk 18 (some (15,false)) (.len (.t 17)),gF 22 15 (.bin 0 .neq (.t 18) (.t 21)),pT 23 15 22]
def Q2l:List Item:=gF 13 9 (.not (.t 12))::pT 14 9 13::mJ 15 14::gFf 16 15 2 2::gFl 17 15 16::gF 18 15 (.len (.t 17))::gFf 19 15 0 2::gFl 20 15 19::.e (some 21) (some (15,false)) (.call Gi [.t 20])::RE
def s_l3Stmt_2:SC:=cT 23 (sR [fB 4 false] [4] .ret) .skip
def M7:List Item:=[fI 36 (.bin 1 .neq (.t 32) (.t 35)),mJ 37 36,gFm 38 37 5,gF 39 37 (.not (.t 38)),gFm 40 37 39,gTf 41 40 1 2,gTl 42 40 41,gT 43 40 (.bin 0 .neq (.t 42) (.k (.c (.str [])))),gF 44 37 (.pick (.t 40) (.t 43) (.k (.c (.bool false)))),pT 45 37 44]
def Qbkr:SC:=cT 45 (sR [fB 4 false] [4] .ret) .skip
def M6:List Item:=[oJ 59 58]
def Qbks:SC:=cT 59 (sR [fB 4 false] [4] .ret) .skip
def Qbkt:SC:=.reg [mJ 51 6,cJ 52 .add 51 1,mJ 6 52] [1,2,6]
def Qbku:SC:=.seq (.block 1 (sR (fJ 53 2 2::lJ 54 53::mJ 55 6::iJ 56 4 54 55::tJ 57 4 56::aJ 58 TM [.t 57]::M6) [1,2,6,59] Qbks)) Qbkt
def Qbdk:SC:=.seq (sR [mJ 46 6,fJ 47 2 2,lJ 48 47,nJ 49 48,bJ 50 .lss 46 49] [1,2,6,50] (cT 50 .skip (.exit 0))) Qbku
def Qbdc:SC:=cT 70 (sR [fB 4 false] [4] .ret) .skip
def Qbdd:SC:=cT 95 (sR [fB 4 false] [4] .ret) .skip
def SG:List Item:=[pF 107 101 106,mJ 4 107]
def NU:List Item:=mJ 101 100::gTf 102 101 4 2::gTl 103 101 102::gTm 104 101 1::gT 105 101 (.bin 0 .sub (.t 104) (kI 1))::.e (some 106) (some (101,true)) (.call HB [.t 103,.t 105])::SG
def Qbde:SC:=sR (fJ 96 3 2::lJ 97 96::mJ 98 1::cJ 99 .sub 98 1::aJ 100 HB [.t 97,.t 99]::NU) [4] .ret
def Qbdf:SC:=.seq (sR [fJ 71 4 2,lJ 72 71,nJ 73 72,cJ 74 .gtr 73 0,mJ 75 74,gTf 76 75 0 2,gTl 77 75 76,gT 78 75 (.bin 0 .neq (.t 77) (kI 5)),pF 79 75 78,mJ 80 79,gFf 81 80 3 2,gFl 82 80 81,gF 83 80 (.len (.t 82)),gF 84 80 (.bin 0 .gtr (.t 83) (kI 0)),gFm 85 80 84,gTf 86 85 0 2,gTl 87 85 86,gT 88 85 (.bin 0 .neq (.t 87) (kI 5)),gF 89 80 (.pick (.t 85) (.t 88) (.k (.c (.bool false)))),gFm 90 80 89,gTf 91 90 0 2,gTl 92 90 91,gT 93 90 (.bin 0 .neq (.t 92) (kI 6)),gF 94 80 (.pick (.t 90) (.t 93) (.k (.c (.bool false)))),pT 95 80 94] [1,2,95] Qbdd) Qbde
def Qbdg:SC:=.seq (sR [fJ 60 0 2,lJ 61 60,cJ 62 .eql 61 8,mJ 63 62,gTf 64 63 2 2,gTl 65 63 64,gT 66 63 (.iad 4 (.t 65) (kI 0)),gTf 67 63 0 66,gTl 68 63 67,gT 69 63 (.bin 0 .neq (.t 68) (kI 13)),pF 70 63 69] [1,2,70] Qbdc) Qbdf
def Qbdh:SC:=.seq (sR [zJ 6 0] [1,2,6] (bL 0 Qbdk)) Qbdg
def Qbdi:SC:=.seq (sR (mJ 32 5::fJ 33 1 2::lJ 34 33::aJ 35 GQ [.t 34]::M7) [1,2,45] Qbkr) Qbdh
def M8:SC:=sR [fJ 24 0 2,lJ 25 24,cJ 26 .eql 25 1,mJ 27 26,gFf 28 27 0 2,gFl 29 27 28,gF 30 27 (.bin 0 .eql (.t 29) (kI 2)),pT 31 27 30,mJ 5 31] [1,2,5] Qbdi
def Qbdj:SC:=.seq (.seq (.aA 17 [0,1,2,3,4,5,6,7,8,9,10,11,12,13,14,10,11,15,16] ( mJ 7 1::cJ 8 .lss 7 1::mJ 9 8::gFf 10 9 0 2::gFl 11 9 10::.e (some 12) (some (9,false)) (.call AJ [.t 11,kI 1,kI 8])::Q2l) [1,2,23]) s_l3Stmt_2) M8
def YB:SC:=sR [vJ 2 0,fB 4 false] [1,2] Qbdj
abbrev DM:List RS:=[.tmp 4]
theorem Qbun:mFn prog Gg 2 108 YB DM=true:=ZB
def Q0m:List Item:=[mJ 5 16]
def Q0n:List Item:=[mJ 6 21]
def Q0o:List Item:=fI 20 (.aG 1 [])::aJ 21 BP [.t 17,kI 1,.t 19,kI 0,.t 20]::Q0n
def Q0p:List Item:=[mJ 7 23]
def Q0q:List Item:=[mJ 8 25]
def Q0r:List Item:=[mJ 9 38]
def Q0s:List Item:=[mJ 10 44]
def Q0t:List Item:=mJ 42 9::fI 43 (.aG 1 [.t 42])::aJ 44 BP [.t 39,kI 10,.t 41,kI 0,.t 43]::Q0s
def Qayb:SC:=sR [mJ 55 6,mJ 4 55] [4] .ret
def Qayc:SC:=sR [mJ 50 0,mJ 51 8,fI 52 (.aG 1 [.t 51]),mJ 53 8,aJ 54 C4 [.t 50,kI 1,kI 0,.t 52,.t 53]] [6] Qayb
def Qars:SC:=sR [mJ 45 0,mJ 46 6,mJ 47 10,fI 48 (.aG 1 [.t 47]),aJ 49 BP [.t 45,kI 10,.t 46,kI 0,.t 48]] [0,6,8] Qayc
def Qart:SC:=sR (mJ 39 0::mJ 40 0::aJ 41 Dk [.t 40]::Q0t) [0,6,8,10] Qars
def Qaru:SC:=sR (mJ 33 0::fJ 34 3 3::lJ 35 34::fI 36 (.iad 4 (.t 35) (kI 1))::tJ 37 4 36::aJ 38 E3 [.t 33,.t 37]::Q0r) [0,6,8,9] Qart
def Qarv:SC:=sR [mJ 26 0,mJ 27 5,mJ 28 7,mJ 29 8,fI 30 (.aG 1 [.t 28,.t 29]),mJ 31 7,aJ 32 C4 [.t 26,kI 2,.t 27,.t 30,.t 31]] [0,3,6,8] Qaru
def Qarw:SC:=sR (mJ 24 0::aJ 25 Cr [.t 24]::Q0q) [0,3,5,6,7,8] Qarv
def Qarx:SC:=sR (mJ 22 0::aJ 23 Cr [.t 22]::Q0p) [0,3,5,6,7] Qarw
def Qary:SC:=sR (mJ 17 0::mJ 18 0::aJ 19 Dk [.t 18]::Q0o) [0,3,5,6] Qarx
def Qarz:SC:=sR (mJ 11 0::fJ 12 3 3::lJ 13 12::fI 14 (.iad 4 (.t 13) (kI 0))::tJ 15 4 14::aJ 16 E3 [.t 11,.t 15]::Q0m) [0,3,5] Qary
def Qbft:SC:=sR [vJ 3 1,zJ 4 0] [0,3] Qarz
abbrev Ni:List RS:=[.tmp 4]
theorem Qa9n:mFn prog SX 2 56 Qbft Ni=true:=ZB
def Qbfy:SC:=cT 20 (sR [mJ 21 5,mJ 4 21] [4] .ret) .skip
def Qbfz:SC:=.reg [mJ 11 5,cJ 12 .add 11 1,mJ 5 12] [1,2,5]
def Qbf0:SC:=.seq (.block 1 (sR [fJ 13 0 2,lJ 14 13,mJ 15 5,iJ 16 3 14 15,fJ 17 0 16,lJ 18 17,mJ 19 1,bJ 20 .eql 18 19] [1,2,5,20] Qbfy)) Qbfz
def Qa72:SC:=.seq (sR [mJ 6 5,fJ 7 0 2,lJ 8 7,nJ 9 8,bJ 10 .lss 6 9] [1,2,5,10] (cT 10 .skip (.exit 0))) Qbf0
def Qbf1:SC:=sR [zJ 4 (-1)] [4] .ret
def Qbf2:SC:=.seq (sR [zJ 5 0] [1,2,5] (bL 0 Qa72)) Qbf1
def Qbr2:SC:=sR [vJ 2 0,zJ 4 0] [1,2] Qbf2
abbrev FB:List RS:=[.tmp 4]
theorem Qbpd:mFn prog Q67 2 22 Qbr2 FB=true:=ZB
def Qp5:List Item:=[cJ 16 .eql 15 0,mJ 17 16,gTm 18 17 0,gT 19 17 (.nck (.t 18)),gTf 20 17 2 19,gTl 21 17 20,gT 22 17 (.len (.t 21)),gT 23 17 (.bin 0 .gtr (.t 22) (kI 0)),pF 24 17 23]
def Qp6:List Item:=[mJ 2 33]
def Qakt:SC:=cT 24 (.seq (.aA 10 [0,1,2,3,4,5,6,7,8,9] ( mJ 25 0::kJ 26 25::fJ 27 0 26::lJ 28 27::mJ 29 0::kJ 30 29::fJ 31 2 30::lJ 32 31::aJ 33 HJ [.t 28,.t 32]::Qp6) [2]) .ret) .skip
def Qaku:SC:=.seq (.aA 13 [0,1,2,3,4,5,6,7,8,9,10,11,12] ( mJ 34 0::kJ 35 34::fJ 36 3 35::lJ 37 36::cJ 38 .rem 37 24::mJ 39 0::kJ 40 39::fJ 41 3 40::lJ 42 41::cJ 43 .rem 42 24::cJ 44 .add 43 1::fI 45 (.slis (.k (.c (.str [97,98,99,100,101,103,104,105,106,107,108,109,110,112,113,114,115,116,117,118,119,120,121,122]))) (some (.t 38)) (some (.t 44)))::mJ 2 45::[]) [2]) .ret
def Qakv:SC:=.seq (sR (mJ 11 0::kJ 12 11::fJ 13 0 12::lJ 14 13::aJ 15 Qv [.t 14,kI 9]::Qp5) [0,24] Qakt) Qaku
def Qakw:SC:=sR [mJ 3 0,mJ 4 0,kJ 5 4,fJ 6 3 5,lJ 7 6,cJ 8 .add 7 1,kJ 9 3,fJ 10 3 9,sJ 1 10 8] [0] Qakv
def Qax1:SC:=sR [fI 2 (.mv (.k (.c (.str []))))] [0] Qakw
abbrev Td:List RS:=[.tmp 2]
theorem Qau4:mFn prog T8 1 46 Qax1 Td=true:=ZB
def OK:List Item:=[cJ 20 .geq 19 0,mJ 17 20]
def Qbb8:SC:=cT 21 (sR [zJ 2 4] [2] .ret) .skip
def Qbb9:SC:=cT 17 (sR [zJ 2 3] [2] .ret) (sR [mJ 22 0,fI 23 (.bin 0 .eql (.t 22) (.k (.c (.int .u8 32)))),mJ 24 23,gFm 25 24 0,gF 26 24 (.bin 0 .eql (.t 25) (.k (.c (.int .u8 10)))),pT 27 24 26,mJ 21 27] [21] Qbb8)
def Qbca:SC:=cT 10 (sR [zJ 2 2] [2] .ret) (sR (mJ 18 0::eI 19 (.call Q63 [.k (.c (.str [40,41,123,125,59,44,43,45,42,47,37,60,61,38,33,64])),.t 18])::OK) [0,17] Qbb9)
def Qbcb:SC:=cT 3 (sR [zJ 2 1] [2] .ret) (sR [mJ 11 0,fI 12 (.bin 0 .geq (.t 11) (.k (.c (.int .u8 48)))),mJ 13 12,gTm 14 13 0,gT 15 13 (.bin 0 .leq (.t 14) (.k (.c (.int .u8 57)))),pF 16 13 15,mJ 10 16] [0,10] Qbca)
def Qbcc:SC:=sR [zJ 2 0] [2] .ret
def Qbcd:SC:=.seq (.block 0 (sR [mJ 4 0,fI 5 (.bin 0 .geq (.t 4) (.k (.c (.int .u8 97)))),mJ 6 5,gTm 7 6 0,gT 8 6 (.bin 0 .leq (.t 7) (.k (.c (.int .u8 122)))),pF 9 6 8,mJ 3 9] [0,3] Qbcb)) Qbcc
def Qbq3:SC:=sR [zJ 2 0] [0] Qbcd
abbrev GE:List RS:=[.tmp 2]
theorem Qbo2:mFn prog Q62 1 28 Qbq3 GE=true:=ZB
def Qaob:SC:=sR [fI 1 (.aG 1 [.k (.c (.str [102,110])),.k (.c (.str [108,101,116])),.k (.c (.str [115,97,121])),.k (.c (.str [112,117,116])),.k (.c (.str [105,102])),.k (.c (.str [101,108,115,101])),.k (.c (.str [108,111,111,112])),.k (.c (.str [98,97,99,107])),.k (.c (.str [100,111]))]),mJ 0 1] [0] .ret
def Qayt:SC:=sR [fI 0 (.mv (.k (.c (.sl true 1 []))))] [] Qaob
abbrev Q3x:List RS:=[.tmp 0]
theorem Qavb:mFn prog T5 0 2 Qayt Q3x=true:=ZB
def Qbkk:SC:=cT 4 (sR [zJ 2 2] [2] .ret) .skip
def Qbkl:SC:=sR [zJ 2 1] [2] .ret
def Qbkm:SC:=.seq (sR [mJ 3 0,cJ 4 .eql 3 4] [4] Qbkk) Qbkl
def YI:SC:=sR [zJ 2 0] [0] Qbkm
abbrev Fs:List RS:=[.tmp 2]
theorem Qbul:mFn prog Gi 1 5 YI Fs=true:=ZB
def Vj:List Item:=[gT 8 5 (.bin 0 .leq (.t 7) (kI 30)),pF 9 5 8,mJ 2 9]
def Qnt:List Item:=mJ 5 4::gT 6 5 (.ld 4 true (.t 1))::.e (some 7) (some (5,true)) (.call Ry [.t 6])::Vj
def Qafo:SC:=sR (tJ 3 4 1::aJ 4 SD [.t 3,kI 6]::Qnt) [2] .ret
def Qasm:SC:=sR [vJ 1 0,fB 2 false] [1] Qafo
abbrev Tx:List RS:=[.tmp 2]
theorem Qao2:mFn prog TM 1 10 Qasm Tx=true:=ZB
def Qbcr:SC:=cT 16 (sR [mJ 17 5,mJ 4 17] [4] .ret) .skip
def Qbcs:SC:=.reg [mJ 10 5,cJ 11 .add 10 1,mJ 5 11] [0,1,5]
def Qbct:SC:=.seq (.block 1 (sR [mJ 12 0,mJ 13 5,fI 14 (.idx (.t 12) (.t 13)),mJ 15 1,bJ 16 .eql 14 15] [0,1,5,16] Qbcr)) Qbcs
def Qa5y:SC:=.seq (sR [mJ 6 5,mJ 7 0,fI 8 (.lens (.t 7)),bJ 9 .lss 6 8] [0,1,5,9] (cT 9 .skip (.exit 0))) Qbct
def Qbcu:SC:=sR [zJ 4 (-1)] [4] .ret
def Qbcv:SC:=.seq (sR [zJ 5 0] [0,1,5] (bL 0 Qa5y)) Qbcu
def Qbrb:SC:=sR [zJ 4 0] [0,1] Qbcv
abbrev FG:List RS:=[.tmp 4]
theorem Qbo4:mFn prog Q63 2 18 Qbrb FG=true:=ZB
def MW:List Item:=[mJ 9 12,fI 13 (.ext (.t 9) 0),fI 14 (.ext (.t 9) 1),mJ 5 13,mJ 6 14]
def RG:List Item:=[gF 30 23 (.not (.t 29)),pT 31 23 30]
def Q2i:List Item:=gF 21 17 (.not (.t 20))::pT 22 17 21::mJ 23 22::gFf 24 23 3 2::gFl 25 23 24::gF 26 23 (.len (.t 25))::gFm 27 23 5::gFm 28 23 6::.e (some 29) (some (23,false)) (.call AJ [.t 26,.t 27,.t 28])::RG
def s_l2Form_3:SC:=cT 31 (sR [fB 4 false] [4] .ret) .skip
def Q2j:List Item:=[gF 58 54 (.not (.t 57)),pT 59 54 58,mJ 60 59,gFf 61 60 0 2,gFl 62 60 61,gF 63 60 (.bin 0 .neq (.t 62) (kI 1)),gFm 64 60 63,gTf 65 64 1 2,gTl 66 64 65,gT 67 64 (.bin 0 .neq (.t 66) (kI 0)),gF 68 60 (.pick (.t 64) (.t 67) (.k (.c (.bool false)))),pT 69 60 68]
def MV:List Item:=fI 44 (.bin 1 .neq (.t 40) (.t 43))::mJ 45 44::gFm 46 45 7::gF 47 45 (.not (.t 46))::gFm 48 45 47::gTf 49 48 2 2::gTl 50 48 49::gT 51 48 (.bin 0 .neq (.t 50) (.k (.c (.str []))))::gF 52 45 (.pick (.t 48) (.t 51) (.k (.c (.bool false))))::pT 53 45 52::mJ 54 53::gFf 55 54 1 2::gFl 56 54 55::.e (some 57) (some (54,false)) (.call AJ [.t 56,kI 0,kI 255])::Q2j
def s_l2Form_6:SC:=cT 69 (sR [fB 4 false] [4] .ret) .skip
def MQ:List Item:=[oJ 85 84]
def Qbka:SC:=cT 85 (sR [fB 4 false] [4] .ret) .skip
def Qbkb:SC:=.reg [mJ 75 8,cJ 76 .add 75 1,mJ 8 76] [1,2,8]
def Qbch:SC:=.seq (.block 1 (sR (fJ 77 3 2::lJ 78 77::mJ 79 8::iJ 80 4 78 79::tJ 81 4 80::mJ 82 1::cJ 83 .sub 82 1::aJ 84 SD [.t 81,.t 83]::MQ) [1,2,8,85] Qbka)) Qbkb
def Qa5w:SC:=.seq (sR [mJ 70 8,fJ 71 3 2,lJ 72 71,nJ 73 72,bJ 74 .lss 70 73] [1,2,8,74] (cT 74 .skip (.exit 0))) Qbch
def Qbci:SC:=sR [fB 4 true] [4] .ret
def MY:SC:=.seq (sR [zJ 8 0] [1,2,8] (bL 0 Qa5w)) Qbci
def Qbcj:SC:=.seq (sR (mJ 40 7::fJ 41 2 2::lJ 42 41::aJ 43 GQ [.t 42]::MV) [1,2,69] s_l2Form_6) MY
def MX:SC:=sR [fJ 32 0 2,lJ 33 32,cJ 34 .eql 33 2,mJ 35 34,gFf 36 35 0 2,gFl 37 35 36,gF 38 35 (.bin 0 .eql (.t 37) (kI 13)),pT 39 35 38,mJ 7 39] [1,2,7] Qbcj
def Qbck:SC:=.seq (sR (mJ 15 1::cJ 16 .lss 15 1::mJ 17 16::gFf 18 17 0 2::gFl 19 17 18::.e (some 20) (some (17,false)) (.call AJ [.t 19,kI 1,kI 13])::Q2i) [1,2,31] s_l2Form_3) MX
def Qbcl:SC:=sR (fJ 10 0 2::lJ 11 10::aJ 12 Gk [.t 11]::MW) [1,2,5,6] Qbck
def YL:SC:=sR [vJ 2 0,fB 4 false] [1,2] Qbcl
abbrev Rp:List RS:=[.tmp 4]
theorem Qbui:mFn prog SD 2 86 YL Rp=true:=ZB
def OJ:List Item:=[bJ 19 .add 12 18,mJ 3 19]
def Qbcm:SC:=.reg [mJ 10 4,cJ 11 .add 10 1,mJ 4 11] [1,3,4]
def Qbcn:SC:=.seq (.block 1 (.reg (mJ 12 3::fJ 13 3 1::lJ 14 13::mJ 15 4::iJ 16 4 14 15::tJ 17 4 16::aJ 18 Ry [.t 17]::OJ) [1,3,4])) Qbcm
def Qa5x:SC:=.seq (sR [mJ 5 4,fJ 6 3 1,lJ 7 6,nJ 8 7,bJ 9 .lss 5 8] [1,3,4,9] (cT 9 .skip (.exit 0))) Qbcn
def Qbco:SC:=sR [mJ 20 3,mJ 2 20] [2] .ret
def Qbcp:SC:=.seq (sR [zJ 4 0] [1,3,4] (bL 0 Qa5x)) Qbco
def Qbcq:SC:=sR [zJ 3 1] [1,3] Qbcp
def Qbra:SC:=sR [vJ 1 0,zJ 2 0] [1] Qbcq
abbrev Rl:List RS:=[.tmp 2]
theorem Qbo3:mFn prog Ry 1 21 Qbra Rl=true:=ZB
def Qbkc:SC:=cT 5 .skip (.reg [cJ 7 .eql 4 2,mJ 5 7] [4,5])
def Qbkd:SC:=cT 8 .skip (.reg [cJ 10 .eql 4 12,mJ 8 10] [4,8])
def Qbke:SC:=cT 11 (sR [zJ 2 0,zJ 3 3] [2,3] .ret) .skip
def Lf:SC:=cT 8 (sR [zJ 2 1,zJ 3 1] [2,3] .ret) (sR [cJ 12 .eql 4 13,mJ 11 12] [11] Qbke)
def Ld:SC:=cT 5 (sR [zJ 2 0,zJ 3 0] [2,3] .ret) (.seq (sR [cJ 9 .eql 4 11,mJ 8 9] [4,8] Qbkd) Lf)
def Qbkf:SC:=.block 0 (.seq (sR [cJ 6 .eql 4 1,mJ 5 6] [4,5] Qbkc) Ld)
def Q8p:SC:=sR [zJ 2 2,zJ 3 2] [2,3] .ret
def Qbkg:SC:=.seq (sR [mJ 4 0] [4] Qbkf) Q8p
def YK:SC:=sR [zJ 2 0,zJ 3 0] [0] Qbkg
abbrev Ro:List RS:=[.tmp 2,.tmp 3]
theorem Qbuj:mFn prog Gk 1 13 YK Ro=true:=ZB
def Qq3:List Item:=[cJ 8 .geq 7 0,mJ 4 8]
def Qan9:SC:=sR (mJ 5 0::mJ 6 1::aJ 7 HI [.t 5,.t 6]::Qq3) [4] .ret
def Qayp:SC:=sR [fB 4 false] [0,1] Qan9
abbrev Q3w:List RS:=[.tmp 4]
theorem Qava:mFn prog T6 2 9 Qayp Q3w=true:=ZB
def Qbqc:SC:=cT 17 (sR [mJ 18 5,mJ 4 18] [4] .ret) .skip
def Qbqd:SC:=.reg [mJ 10 5,cJ 11 .add 10 1,mJ 5 11] [0,1,5]
def Qbqe:SC:=.seq (.block 1 (sR [mJ 12 0,mJ 13 5,iJ 14 1 12 13,lJ 15 14,mJ 16 1,bJ 17 .eql 15 16] [0,1,5,17] Qbqc)) Qbqd
def Qbj0:SC:=.seq (sR [mJ 6 5,mJ 7 0,nJ 8 7,bJ 9 .lss 6 8] [0,1,5,9] (cT 9 .skip (.exit 0))) Qbqe
def Qbqf:SC:=sR [zJ 4 (-1)] [4] .ret
def Qbqg:SC:=.seq (sR [zJ 5 0] [0,1,5] (bL 0 Qbj0)) Qbqf
def VW:SC:=sR [zJ 4 0] [0,1] Qbqg
abbrev Gm:List RS:=[.tmp 4]
theorem VM:mFn prog En 2 19 VW Gm=true:=ZB
def Pv:List Item:=[mJ 5 15]
def Pu:List Item:=[mJ 7 26]
def Qbaw:SC:=.reg [mJ 36 7,mJ 37 6,iJ 38 1 36 37,.e none none (.sto 1 (.t 38) (.k (.c (.bool false))))] [1,3,4,5,6,7]
def Qbax:SC:=cT 31 (sR [tJ 32 3 1,mJ 33 7,fI 34 (.aG 1 []),aJ 35 GO [.t 32,kI 0,.t 33,.t 34]] [1,3,4,5,6,7] Qbaw) (.reg [mJ 39 7,mJ 40 6,iJ 41 1 39 40,.e none none (.sto 1 (.t 41) (.k (.c (.bool false))))] [1,3,4,5,6,7])
def Pt:List Item:=[mJ 8 43]
def Qbay:SC:=.reg [mJ 47 9,cJ 48 .add 47 1,mJ 9 48] [1,3,4,5,6,7,8,9]
def Qbaz:SC:=.seq (.block 3 (.reg [mJ 49 8,mJ 50 9,mJ 51 5,mJ 52 6,iJ 53 1 51 52,lJ 54 53,mJ 55 54,gTm 56 55 5,gTm 57 55 9,gT 58 55 (.iad 1 (.t 56) (.t 57)),gTl 59 55 58,pF 60 55 59,mJ 61 60,gTm 62 61 7,gTm 63 61 9,gT 64 61 (.iad 1 (.t 62) (.t 63)),gTl 65 61 64,gT 66 61 (.not (.t 65)),pF 67 61 66,iJ 68 1 49 50,sJ 1 68 67] [1,3,4,5,6,7,8,9])) Qbay
def Qa3x:SC:=.seq (sR [mJ 44 9,mJ 45 3,bJ 46 .lss 44 45] [1,3,4,5,6,7,8,9,46] (cT 46 .skip (.exit 2))) Qbaz
def Ps:List Item:=[mJ 4 72]
def Qba0:SC:=.reg (mJ 69 4::mJ 70 8::fI 71 (.aG 1 [.t 70])::xJ 72 1 69 71::Ps) [1,3,4,5,6]
def Qa3m:SC:=.seq (sR [zJ 9 0] [1,3,4,5,6,7,8,9] (bL 2 Qa3x)) Qba0
def Pw:SC:=sR (mJ 42 3::eI 43 (.mks 1 [.bool false] (.t 42))::Pt) [1,3,4,5,6,7,8] Qa3m
def Qa3n:SC:=.seq (sR [mJ 30 6,cJ 31 .neq 30 0] [1,3,4,5,6,7,31] Qbax) Pw
def Qa3o:SC:=sR [mJ 27 7,mJ 28 6,iJ 29 1 27 28,.e none none (.sto 1 (.t 29) (.k (.c (.bool true))))] [1,3,4,5,6,7] Qa3n
def Qa3p:SC:=.reg [mJ 23 6,cJ 24 .add 23 1,mJ 6 24] [1,3,4,5,6]
def Qa3q:SC:=.seq (.block 1 (sR (mJ 25 3::eI 26 (.mks 1 [.bool false] (.t 25))::Pu) [1,3,4,5,6,7] Qa3o)) Qa3p
def Qawv:SC:=.seq (sR [mJ 20 6,mJ 21 3,bJ 22 .lss 20 21] [1,3,4,5,6,22] (cT 22 .skip (.exit 0))) Qa3q
def Qa3r:SC:=sR [mJ 73 4,mJ 2 73] [2] .ret
def Qa3s:SC:=.seq (sR [zJ 6 0] [1,3,4,5,6] (bL 0 Qawv)) Qa3r
def Qa3t:SC:=sR [tJ 16 3 1,mJ 17 5,fI 18 (.aG 1 []),aJ 19 GO [.t 16,kI 0,.t 17,.t 18]] [1,3,4,5] Qa3s
def Qa3u:SC:=sR (mJ 14 3::eI 15 (.mks 1 [.bool false] (.t 14))::Pv) [1,3,4,5] Qa3t
def Qa3v:SC:=sR [fI 13 (.aG 1 []),mJ 4 13] [1,3,4] Qa3u
def Qa3w:SC:=sR [fJ 10 2 1,lJ 11 10,nJ 12 11,mJ 3 12] [1,3] Qa3v
def Qbqo:SC:=sR [vJ 1 0,fI 2 (.mv (.k (.c (.sl true 1 []))))] [1] Qa3w
abbrev PZ:List RS:=[.tmp 2]
theorem Qbos:mFn prog R0 1 74 Qbqo PZ=true:=ZB
def Qbcw:SC:=cT 5 (.reg [mJ 6 0,fI 7 (.sli 1 (.t 6) none (some (kI 2000))),mJ 0 7] [0]) .skip
def OI:List Item:=[mJ 2 10]
def MN:SC:=sR (mJ 8 0::fI 9 (.bld [.sl true 1 [],.int .i64 0] [(0,1,.t 8)])::eI 10 (.boxm (.t 9))::OI) [2] .ret
def Qbcx:SC:=.seq (sR [mJ 3 0,nJ 4 3,cJ 5 .gtr 4 2000] [0,5] Qbcw) MN
def Qbrc:SC:=sR [fI 2 (.mv (.k (.c .pnil)))] [0] Qbcx
abbrev FF:List RS:=[.tmp 2]
theorem Qbo5:mFn prog Q64 1 11 Qbrc FF=true:=ZB
def Qa7w:SC:=cT 16 (sR [mJ 17 5,mJ 4 17] [4] .ret) .skip
def Qa7x:SC:=sR [mJ 11 1,mJ 12 0,mJ 13 5,iJ 14 1 12 13,lJ 15 14,bJ 16 .eql 11 15] [0,1,5,7,8,16] Qa7w
def Qa7y:SC:=.reg [cJ 18 .add 8 1,mJ 8 18] [0,1,7,8]
def Qa7z:SC:=.seq (.block 1 (sR [mJ 10 8,mJ 5 10] [0,1,5,7,8] Qa7x)) Qa7y
def Qayr:SC:=sR [bJ 9 .lss 8 7] [0,1,7,8,9] (cX 9 0 Qa7z)
def Qa70:SC:=sR [zJ 4 (-1)] [4] .ret
def Qa71:SC:=.seq (sR [mJ 6 0,nJ 7 6,zJ 8 0] [0,1,7,8] (bL 0 Qayr)) Qa70
def Qbl7:SC:=sR [zJ 4 0] [0,1] Qa71
abbrev Q7m:List RS:=[.tmp 4]
theorem Qbjl:mFn prog HI 2 19 Qbl7 Q7m=true:=ZB
def Qts:List Item:=[oJ 14 13]
def Qao8:SC:=cT 14 (sR [fI 4 (.mv (.k (.c (.sl true 1 []))))] [4] .ret) .skip
def Qtt:List Item:=[mJ 6 20,sJ 5 7 22]
def Qtu:List Item:=[mJ 5 30]
def Qao9:SC:=cT 26 (.reg (mJ 27 5::mJ 28 6::fI 29 (.aG 1 [.t 28])::xJ 30 1 27 29::Qtu) [1,5,16,17,18]) .skip
def Qapa:SC:=sR [fJ 23 4 7,lJ 24 23,mJ 25 1,aJ 26 T6 [.t 24,.t 25]] [1,5,6,16,17,18,26] Qao9
def Qapb:SC:=.reg [cJ 31 .add 18 1,mJ 18 31] [1,5,16,17,18]
def Qapc:SC:=.seq (.block 1 (sR (mJ 20 18::iJ 21 5 16 18::tJ 22 5 21::eI 7 (.alloc [.sl true 2 [],.sl true 4 [],.int .i64 0,.int .i64 0,.sl true 1 []])::Qtt) [1,5,6,7,16,17,18] Qapa)) Qapb
def Qaix:SC:=sR [bJ 19 .lss 18 17] [1,5,16,17,18,19] (cX 19 0 Qapc)
def Qapd:SC:=sR [mJ 32 5,mJ 4 32] [4] .ret
def Qaiu:SC:=.seq (sR [fJ 15 2 2,lJ 16 15,nJ 17 16,zJ 18 0] [1,5,16,17,18] (bL 0 Qaix)) Qapd
def Qaiv:SC:=.seq (sR (mJ 8 1::fJ 9 2 2::lJ 10 9::nJ 11 10::cJ 12 .sub 11 1::aJ 13 Cd [.t 8,kI 0,.t 12]::Qts) [1,2,5,14] Qao8) Qaiu
def Qaiw:SC:=sR [fI 5 (.mv (.k (.c (.sl true 1 []))))] [1,2,5] Qaiv
def Qa1b:SC:=sR [vJ 2 0,fI 4 (.mv (.k (.c (.sl true 1 []))))] [1,2] Qaiw
abbrev SM:List RS:=[.tmp 4]
theorem Qaz5:mFn prog HP 2 33 Qa1b SM=true:=ZB
def Qhs:List Item:=[cJ 8 .geq 7 0,mJ 4 8]
def Q2n:SC:=sR (mJ 5 0::mJ 6 1::aJ 7 TO [.t 5,.t 6]::Qhs) [4] .ret
def Q8u:SC:=sR [fB 4 false] [0,1] Q2n
abbrev Qmu:List RS:=[.tmp 4]
theorem Q7d:mFn prog GZ 2 9 Q8u Qmu=true:=ZB
def V4:List Item:=[fI 8 (.ext (.t 7) 0)]
def Qeu:List Item:=[fI 10 (.ext (.t 9) 0),mJ 4 10]
def Qev:List Item:=[mJ 3 14]
def Qrs:SC:=.reg (mJ 11 3::mJ 12 4::fI 13 (.aG 1 [.t 12])::xJ 14 1 11 13::Qev) [3,6]
def Qrt:SC:=.block 1 (sR (eI 9 (.ent (.t 6))::Qeu) [3,4,6] Qrs)
def Qoz:SC:=sR (eI 7 (.nxt (.t 6))::V4) [3,6,8] (cX 8 0 Qrt)
def Qru:SC:=sR [mJ 17 3,mJ 2 17] [2] .ret
def Qrv:SC:=sR [mJ 15 3,aJ 16 Rx [.t 15]] [3] Qru
def Qrw:SC:=.seq (sR [mJ 5 0,eI 6 (.rng (.t 5))] [3,6] (bL 0 Qoz)) Qrv
def Qrx:SC:=sR [fI 3 (.mv (.k (.c (.sl true 1 []))))] [0,3] Qrw
def Qy0:SC:=sR [fI 2 (.mv (.k (.c (.sl true 1 []))))] [0] Qrx
abbrev Qg9:List RS:=[.tmp 2]
theorem Qx4:mFn prog S5 1 18 Qy0 Qg9=true:=ZB
def OY:List Item:=[oJ 37 36]
def Qbag:SC:=cT 37 (sR [fB 2 false] [2] .ret) .skip
def Qbah:SC:=.reg [mJ 21 4,cJ 22 .add 21 1,mJ 4 22] [1,3,4]
def Qbai:SC:=.seq (.block 3 (.seq (.aA 15 [0,1,2,3,4,5,6,7,8,9,10,11,12,13,14] ( fJ 23 2 1::lJ 24 23::mJ 25 3::iJ 26 5 24 25::fJ 27 4 26::lJ 28 27::mJ 29 4::iJ 30 1 28 29::lJ 31 30::fJ 32 2 1::lJ 33 32::nJ 34 33::cJ 35 .sub 34 1::aJ 36 AJ [.t 31,kI 0,.t 35]::OY) [1,3,4,37]) Qbag)) Qbah
def Qa1x:SC:=.seq (sR [mJ 12 4,fJ 13 2 1,lJ 14 13,mJ 15 3,iJ 16 5 14 15,fJ 17 4 16,lJ 18 17,nJ 19 18,bJ 20 .lss 12 19] [1,3,4,20] (cT 20 .skip (.exit 2))) Qbai
def Qbaj:SC:=.reg [mJ 10 3,cJ 11 .add 10 1,mJ 3 11] [1,3]
def Qbak:SC:=.seq (.block 1 (sR [zJ 4 0] [1,3,4] (bL 2 Qa1x))) Qbaj
def Qa1y:SC:=.seq (sR [mJ 5 3,fJ 6 2 1,lJ 7 6,nJ 8 7,bJ 9 .lss 5 8] [1,3,9] (cT 9 .skip (.exit 0))) Qbak
def Qbal:SC:=sR [fJ 38 2 1,lJ 39 38,nJ 40 39,cJ 41 .gtr 40 0,mJ 2 41] [2] .ret
def Qbam:SC:=.seq (sR [zJ 3 0] [1,3] (bL 0 Qa1y)) Qbal
def Qbqk:SC:=sR [vJ 1 0,fB 2 false] [1] Qbam
abbrev FQ:List RS:=[.tmp 2]
theorem Qboo:mFn prog Q6s 1 42 Qbqk FQ=true:=ZB
def Qa6t:SC:=.block 1 (.reg [mJ 19 5,cJ 20 .add 19 1,mJ 5 20] [0,1,5])
def Qax9:SC:=.seq (sR [mJ 7 5,mJ 8 0,nJ 9 8,bJ 10 .lss 7 9,mJ 11 10,gTm 12 11 0,gTm 13 11 5,gT 14 11 (.iad 1 (.t 12) (.t 13)),gTl 15 11 14,gTm 16 11 1,gT 17 11 (.bin 0 .lss (.t 15) (.t 16)),pF 18 11 17] [0,1,5,18] (cT 18 .skip (.exit 0))) Qa6t
def Qa6u:SC:=cT 32 (sR [mJ 33 0,mJ 4 33] [4] .ret) .skip
def Q5v:List Item:=[mJ 6 38]
def Q5w:List Item:=[mJ 4 46]
def Q5x:List Item:=.chk 45 none (.sli 1 (.t 43) (some (.t 44)) none)::xJ 46 1 42 45::Q5w
def Qa6v:SC:=.seq (.aA 9 [0,1,2,4,5,6,3,6,7,8] ( mJ 39 6::mJ 40 1::fI 41 (.aG 1 [.t 40])::mJ 43 0::mJ 44 5::fI 45 (.sli 1 (.t 43) (some (.t 44)) none)::xJ 42 1 39 41::Q5x) [4]) .ret
def NA:SC:=sR (fI 34 (.aG 1 [])::mJ 35 0::mJ 36 5::fI 37 (.sli 1 (.t 35) none (some (.t 36)))::xJ 38 1 34 37::Q5v) [0,1,5,6] Qa6v
def Ok:SC:=.seq (sR [mJ 21 5,mJ 22 0,nJ 23 22,bJ 24 .lss 21 23,mJ 25 24,gTm 26 25 0,gTm 27 25 5,gT 28 25 (.iad 1 (.t 26) (.t 27)),gTl 29 25 28,gTm 30 25 1,gT 31 25 (.bin 0 .eql (.t 29) (.t 30)),pF 32 25 31] [0,1,5,32] Qa6u) NA
def Qa6w:SC:=sR [zJ 5 0] [0,1,5] (.seq (bL 0 Qax9) Ok)
def Qblj:SC:=sR [fI 4 (.mv (.k (.c (.sl true 1 []))))] [0,1] Qa6w
abbrev Ht:List RS:=[.tmp 4]
theorem Qbji:mFn prog GN 2 47 Qblj Ht=true:=ZB
def Q4y:List Item:=[mJ 3 49]
def Qa3g:SC:=cT 36 (.aA 14 [0,1,2,3,4,5,6,7,8,9,10,11,12,13] ( tJ 37 3 4::fJ 38 2 4::lJ 39 38::mJ 40 1::iJ 41 5 39 40::fJ 42 4 41::lJ 43 42::mJ 44 9::iJ 45 1 43 44::lJ 46 45::mJ 47 2::mJ 48 3::aJ 49 GO [.t 37,.t 46,.t 47,.t 48]::Q4y) [1,2,3,4,9]) .skip
def Qa3h:SC:=.reg [mJ 22 9,cJ 23 .add 22 1,mJ 9 23] [1,2,3,4,9]
def Qa3i:SC:=.seq (.block 1 (sR [mJ 24 2,fJ 25 2 4,lJ 26 25,mJ 27 1,iJ 28 5 26 27,fJ 29 4 28,lJ 30 29,mJ 31 9,iJ 32 1 30 31,lJ 33 32,iJ 34 1 24 33,lJ 35 34,oJ 36 35] [1,2,3,4,9,36] Qa3g)) Qa3h
def Qawu:SC:=.seq (sR [mJ 13 9,fJ 14 2 4,lJ 15 14,mJ 16 1,iJ 17 5 15 16,fJ 18 4 17,lJ 19 18,nJ 20 19,bJ 21 .lss 13 20] [1,2,3,4,9,21] (cT 21 .skip (.exit 0))) Qa3i
def Q4z:List Item:=[mJ 8 53]
def Qa3j:SC:=sR (mJ 50 3::mJ 51 1::fI 52 (.aG 1 [.t 51])::xJ 53 1 50 52::Q4z) [8] .ret
def Qa3k:SC:=.seq (sR [zJ 9 0] [1,2,3,4,9] (bL 0 Qawu)) Qa3j
def Qa3l:SC:=sR [mJ 10 2,mJ 11 1,iJ 12 1 10 11,.e none none (.sto 1 (.t 12) (.k (.c (.bool true))))] [1,2,3,4] Qa3k
def Qbj3:SC:=sR [vJ 4 0,fI 8 (.mv (.k (.c (.sl true 1 []))))] [1,2,3,4] Qa3l
abbrev Lq:List RS:=[.tmp 8]
theorem Qbjd:mFn prog GO 4 54 Qbj3 Lq=true:=ZB
def Qa7l:SC:=cT 4 (sR [fI 2 (.mv (.k (.c (.sl true 1 []))))] [2] .ret) .skip
def Q5y:List Item:=[mJ 2 7]
def Qa7m:SC:=sR (fI 5 (.aG 1 [])::mJ 6 0::xJ 7 1 5 6::Q5y) [2] .ret
def Qa7n:SC:=.seq (sR [mJ 3 0,eI 4 (.nilq (.t 3))] [0,4] Qa7l) Qa7m
def Qbl5:SC:=sR [fI 2 (.mv (.k (.c (.sl true 1 []))))] [0] Qa7n
abbrev Q7l:List RS:=[.tmp 2]
theorem Qbjj:mFn prog Ez 1 8 Qbl5 Q7l=true:=ZB
def N6:List Item:=[aJ 10 In [.t 5,kI 0,.t 6,.t 9]]
def Qbfx:SC:=.reg (mJ 5 0::mJ 6 2::mJ 7 2::fI 8 (.cvt .u64 (.t 7))::aJ 9 N2 [.t 8]::N6) []
def Qbr1:SC:=sR [mJ 3 0,nJ 4 3,mJ 2 4] [0,2] Qbfx
abbrev Rh:List RS:=[]
theorem Qbpc:mFn prog Rx 1 11 Qbr1 Rh=true:=ZB
def Qawd:SC:=sR [mJ 7 1,mJ 8 0,bJ 9 .leq 7 8,mJ 10 9,gTm 11 10 0,gTm 12 10 2,gT 13 10 (.bin 0 .leq (.t 11) (.t 12)),pF 14 10 13,mJ 6 14] [6] .ret
def Qa98:SC:=sR [fB 6 false] [0,1,2] Qawd
abbrev Nv:List RS:=[.tmp 6]
theorem Qa9g:mFn prog Cd 3 15 Qa98 Nv=true:=ZB
def Qaff:SC:=cT 16 (sR [mJ 17 5,mJ 4 17] [4] .ret) .skip
def Qafg:SC:=sR [mJ 11 1,mJ 12 0,mJ 13 5,iJ 14 1 12 13,lJ 15 14,eI 16 (.ba (.t 11) [.t 15])] [0,1,5,7,8,16] Qaff
def Qafh:SC:=.reg [cJ 18 .add 8 1,mJ 8 18] [0,1,7,8]
def Qafi:SC:=.seq (.block 1 (sR [mJ 10 8,mJ 5 10] [0,1,5,7,8] Qafg)) Qafh
def Q8v:SC:=sR [bJ 9 .lss 8 7] [0,1,7,8,9] (cX 9 0 Qafi)
def Qafj:SC:=sR [zJ 4 (-1)] [4] .ret
def Qafk:SC:=.seq (sR [mJ 6 0,nJ 7 6,zJ 8 0] [0,1,7,8] (bL 0 Q8v)) Qafj
def Qask:SC:=sR [zJ 4 0] [0,1] Qafk
abbrev T1:List RS:=[.tmp 4]
theorem Qao0:mFn prog TO 2 19 Qask T1=true:=ZB
def Qw3:SC:=cT 23 (sR [mJ 24 0,mJ 25 1,mJ 26 2,aJ 27 Qb4 [.t 24,.t 25,.t 26]] [] .ret) .skip
def Qw4:SC:=cT 29 (sR [mJ 30 0,mJ 31 1,mJ 32 2,aJ 33 Qs2 [.t 30,.t 31,.t 32]] [] .ret) .skip
def Qw5:SC:=.reg [mJ 40 3,cJ 41 .sub 40 1,mJ 3 41] [0,1,2,3,8,9,10]
def Qw6:SC:=cT 35 (sR [mJ 36 0,mJ 37 1,mJ 38 2,aJ 39 Qjz [.t 36,.t 37,.t 38]] [0,1,2,3,8,9,10] Qw5) .skip
def Qsi:List Item:=[mJ 42 46,fI 47 (.ext (.t 42) 0),fI 48 (.ext (.t 42) 1),mJ 11 47,mJ 12 48]
def Qw7:SC:=.reg [zJ 12 1] [0,1,2,3,8,9,10,11,12]
def Qw8:SC:=sR [mJ 55 2,cJ 56 .sub 55 1,mJ 57 11,mJ 58 1,bJ 59 .sub 57 58,bJ 60 .sub 56 59,mJ 11 60] [0,1,2,3,8,9,10,11] Qw7
def Qw9:SC:=cT 50 (sR [mJ 51 0,mJ 52 1,mJ 53 2,aJ 54 Qli [.t 51,.t 52,.t 53]] [0,1,2,3,8,9,10,11] Qw8) .skip
def Qxa:SC:=cT 68 (sR [mJ 69 0,mJ 70 1,mJ 71 2,aJ 72 Qei [.t 69,.t 70,.t 71]] [0,1,2,3,8,9,10,11,72] (cT 72 .ret .skip)) .skip
def Qsj:List Item:=[gT 86 75 (.not (.t 85)),pF 87 75 86]
def Qo5:List Item:=[mJ 13 92]
def Qry:SC:=sR [mJ 93 13,mJ 1 93] [0,1,2,3,8,9] (.exit 1)
def Qrz:SC:=cT 87 (sR (mJ 88 0::mJ 89 1::mJ 90 2::mJ 91 11::aJ 92 Qix [.t 88,.t 89,.t 90,.t 91]::Qo5) [0,2,3,8,9,13] Qry) .skip
def Qo6:List Item:=[mJ 94 99,fI 100 (.ext (.t 94) 0),fI 101 (.ext (.t 94) 1),mJ 14 100,mJ 15 101]
def Qr0:SC:=.reg [mJ 122 14,cJ 123 .add 122 1,mJ 1 123] [0,1,2,3,8,9]
def Qr1:SC:=sR [mJ 117 0,mJ 118 1,mJ 119 14,mJ 120 3,aJ 121 In [.t 117,.t 118,.t 119,.t 120]] [0,2,3,8,9,14] Qr0
def Qr2:SC:=.reg [mJ 133 14,mJ 2 133] [0,1,2,3,8,9]
def Qr3:SC:=sR [mJ 127 0,mJ 128 14,cJ 129 .add 128 1,mJ 130 2,mJ 131 3,aJ 132 In [.t 127,.t 129,.t 130,.t 131]] [0,1,3,8,9,14] Qr2
def Qr4:SC:=cT 113 (sR [mJ 114 16,mJ 115 18,bJ 116 .geq 114 115,mJ 8 116] [0,1,2,3,8,9,14] Qr1) (sR [mJ 124 17,mJ 125 18,bJ 126 .geq 124 125,mJ 8 126] [0,1,2,3,8,9,14] Qr3)
def Qr5:SC:=sR [mJ 111 16,mJ 112 17,bJ 113 .lss 111 112] [0,1,2,3,9,14,16,17,18,113] Qr4
def Qr6:SC:=sR [mJ 109 10,cJ 110 .quo 109 8,mJ 18 110] [0,1,2,3,9,14,16,17,18] Qr5
def Qr7:SC:=sR [mJ 103 14,mJ 104 1,bJ 105 .sub 103 104,mJ 106 2,mJ 107 14,bJ 108 .sub 106 107,mJ 16 105,mJ 17 108] [0,1,2,3,9,10,14,16,17] Qr6
def Qr8:SC:=sR [mJ 102 15,mJ 9 102] [0,1,2,3,9,10,14] Qr7
def Qr9:SC:=sR (mJ 95 0::mJ 96 1::mJ 97 2::mJ 98 11::aJ 99 Qq7 [.t 95,.t 96,.t 97,.t 98]::Qo6) [0,1,2,3,10,14,15] Qr8
def Qsa:SC:=.seq (.seq (.aA 15 [0,1,2,3,4,5,6,7,8,9,10,11,12,13,14] ( mJ 73 1::cJ 74 .gtr 73 0::mJ 75 74::gTm 76 75 0::gTm 77 75 1::gT 78 75 (.bin 0 .sub (.t 77) (kI 1))::gT 79 75 (.iad 1 (.t 76) (.t 78))::gTl 80 75 79::gTm 81 75 0::gTm 82 75 11::gT 83 75 (.iad 1 (.t 81) (.t 82))::gTl 84 75 83::.e (some 85) (some (75,true)) (.call N1 [.t 80,.t 84])::Qsj) [0,1,2,3,8,9,10,11,87]) Qrz) Qr9
def Qsb:SC:=.seq (sR [mJ 61 8,mJ 62 61,gTm 63 62 9,pF 64 62 63,mJ 65 64,gTm 66 65 12,gT 67 65 (.bin 0 .eql (.t 66) (kI 1)),pF 68 65 67] [0,1,2,3,8,9,10,11,68] Qxa) Qsa
def Qsc:SC:=.seq (sR [mJ 49 12,cJ 50 .eql 49 2] [0,1,2,3,8,9,10,11,12,50] Qw9) Qsb
def Qsd:SC:=sR (mJ 43 0::mJ 44 1::mJ 45 2::aJ 46 Qma [.t 43,.t 44,.t 45]::Qsi) [0,1,2,3,8,9,10,11,12] Qsc
def Qse:SC:=.seq (sR [mJ 34 8,oJ 35 34] [0,1,2,3,8,9,10,35] Qw6) Qsd
def Qsf:SC:=.seq (sR [mJ 28 3,cJ 29 .eql 28 0] [0,1,2,3,8,9,10,29] Qw4) Qse
def Qsg:SC:=.seq (sR [mJ 22 10,cJ 23 .leq 22 12] [0,1,2,3,8,9,10,23] Qw3) Qsf
def Qo7:SC:=.block 1 (sR [mJ 19 2,mJ 20 1,bJ 21 .sub 19 20,mJ 10 21] [0,1,2,3,8,9,10] Qsg)
def Qsh:SC:=sR [fB 9 true] [0,1,2,3,8,9] (bL 0 Qo7)
def Q2o:SC:=sR [fB 8 true] [0,1,2,3,8] Qsh
abbrev Qi8:List RS:=[]
theorem Q09:mFn prog In 4 134 Q2o Qi8=true:=ZB
def Qh8:List Item:=[pF 30 19 29]
def Qh9:List Item:=[iJ 48 1 35 37,sJ 1 48 46]
def Qjp:SC:=.reg [mJ 31 7,cJ 32 .sub 31 1,mJ 7 32] [0,1,2,6,7]
def Qjq:SC:=.seq (.block 3 (.aA 18 [0,1,2,3,4,5,6,7,8,9,10,11,12,13,14,15,16,17] ( mJ 33 0::mJ 34 7::mJ 35 0::mJ 36 7::cJ 37 .sub 36 1::mJ 38 0::mJ 39 7::cJ 40 .sub 39 1::iJ 41 1 38 40::lJ 42 41::mJ 43 0::mJ 44 7::iJ 45 1 43 44::lJ 46 45::iJ 47 1 33 34::sJ 1 47 42::Qh9) [0,1,2,6,7])) Qjp
def Qia:SC:=.seq (.seq (.aA 15 [0,1,2,3,4,5,6,7,8,9,10,11,12,13,14] ( mJ 16 7::mJ 17 1::bJ 18 .gtr 16 17::mJ 19 18::gTm 20 19 0::gTm 21 19 7::gT 22 19 (.iad 1 (.t 20) (.t 21))::gTl 23 19 22::gTm 24 19 0::gTm 25 19 7::gT 26 19 (.bin 0 .sub (.t 25) (kI 1))::gT 27 19 (.iad 1 (.t 24) (.t 26))::gTl 28 19 27::.e (some 29) (some (19,true)) (.call N1 [.t 23,.t 28])::Qh8) [0,1,2,6,7,30]) (cT 30 .skip (.exit 2))) Qjq
def Qjr:SC:=.reg [mJ 13 6,cJ 14 .add 13 1,mJ 6 14] [0,1,2,6]
def Qjs:SC:=.seq (.block 1 (sR [mJ 15 6,mJ 7 15] [0,1,2,6,7] (bL 2 Qia))) Qjr
def Qib:SC:=.seq (sR [mJ 10 6,mJ 11 2,bJ 12 .lss 10 11] [0,1,2,6,12] (cT 12 .skip (.exit 0))) Qjs
def Ql3:SC:=sR [mJ 8 1,cJ 9 .add 8 1,mJ 6 9] [0,1,2,6] (bL 0 Qib)
abbrev Qdq:List RS:=[]
theorem Qlm:mFn prog Qb4 3 49 Ql3 Qdq=true:=ZB
end Go.AE.Y
