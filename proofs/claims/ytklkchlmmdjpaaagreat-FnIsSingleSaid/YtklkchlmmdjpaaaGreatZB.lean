/- Part 2 of the proof: the engine, codes, walks and plain laws, each named where it stands. -/
import Derived.Test.YtklkchlmmdjpaaaGreatZA
import Derived.Test.YtklkchlmmdjpaaaGreatProg
open Nat (reduceEqDiff reduceAdd reduceLeDiff reduceLT)
set_option linter.unusedVariables false
set_option linter.unusedSimpArgs false
set_option maxRecDepth 4000
open Array renaming getD_eq_getD_getElem?->Ji,getElem?_eq_some_iff->Jl,getElem?_eq_getElem->Jr
open Bool renaming and_eq_true->Js,not_eq_true'->Jan
open Int renaming eq_ofNat_of_zero_le->Jad
open List renaming mem_of_getElem?->Ja,mem_append->Jb,mem_append_left->Jc,mem_append_right->Jd,getD_eq_getElem?_getD->Je,mem_map->Jf,mem_cons->Jg,nodup_append->Jj,append_assoc->Jk,map_append->Jm,mem_or_eq_of_mem_set->Jn,perm_append_comm->Jo,map_cons->Jp,nil_append->Jq,mem_cons_of_mem->Jt,mem_cons_self->Ju,getElem?_eq_some_iff->Jv,getElem?_eq_getElem->Jw,length_eq_zero_iff->Jx,cons_append->Jy,take_of_length_le->Jz,append_of_mem->J0,length_map->J1,all_cons->J2,mem_singleton->J3,getElem?_set->J4,all_nil->J5,map_nil->J6,map_set->J7,getElem_set->J8,not_mem_nil->J9,map_eq_nil_iff->Jaa,drop_zero->Jab,pairwise_iff_getElem->Jac,ext_getElem->Jae,getElem_mem->Jaf,length_eq_one_iff->Jag,append_nil->Jah,length_nil->Jai,length_singleton->Jaj,flatMap_append->Jak,getElem?_drop->Jal,set_cons_zero->Jam,all_eq_true->Jaq,countP_cons->Jar,count_cons->Jas
open Nat renaming zero_add->Jap,le_refl->Jat,zero_le->Jav
open Ne renaming symm->Jao
open Option.some renaming injEq->Jh
open Prod.mk renaming injEq->Jau
namespace Go.AE
variable {P:Program}{H:Heap}{g:G}{w:World}{e:Env}{a:Act}
structure Fix where
 P:Program
 n:Nat
 ops:Array Oper
 ms:List Nat
 fa:Nat
 L:List Row
 H0:Heap
 g0:G
 w0:World
 KP:Value->Heap->Prop
 K:Env->Heap->Prop
def Fix.anc (F:Fix)(i j:Nat):Prop:=(F.ms.getD i 0).testBit j=true
def B9 (F:Fix)(listed:Array Bool)(pre:List Row)(y:Row)(t:Nat)(z:Row):Prop:=
 z∈pre/\z.2.aO=false/\¬dn listed z.1/\z.2.dst=some t/\F.anc y.1 z.1
def Pend (F:Fix)(listed:Array Bool)(a:Act)(w:World)(pre:List Row)(e:Env)(H:Heap)(g:G)(y:Row):Prop:=
 ∃(o:Oper) (x:Item) (ei:Env) (v:V),F.ops[y.1]? = some o/\AV F.P F.n F.ops o x=true/\x.dst=y.2.dst/\x.looks=y.2.looks/\(y.2.hf=true->x.hf=true)/\
  Rdy F.P x ei H v/\(∀d,y.2.dst=some d->lk d e=v)/\
  ∀t∈y.2.looks,(∀z,B9 F listed pre y t z->lk t ei=lk t e)/\((¬∃z,B9 F listed pre y t z)->RepV w g (lk t ei) (a.tmps.getD t undef))
structure DInv (F:Fix)(listed:Array Bool)(a:Act)(w:World)(pre post:List Row)(e:Env)(H:Heap)(g:G):Prop where
 split:F.L=pre++post
 rest:Bn F.P (post.map Prod.snd) e H F.KP F.K
 stp:Stp F.H0 F.g0 F.w0 H g w
 size:a.tmps.size=F.n
 defers:a.defers=[]
 lsz:listed.size=F.ops.size
 closed:∀i,dn listed i->∀j,F.anc i j->dn listed j
 eDone:∀y∈pre,y.2.isE=true->dn listed y.1
 postDone:∀y∈post,y.2.aO=false->dn listed y.1->flo F.fa y.1=true/\Early F.g0 H g w a y.2
 pend:∀y∈pre,y.2.isFl=true->¬dn listed y.1->Bj y.1 post=true\/Pend F listed a w pre e H g y
 temps:∀t,(∃y∈pre,y.2.aO=false/\¬dn listed y.1/\y.2.dst=some t)\/(∃y∈post,y.2.aO=false/\flo F.fa y.1=true/\dn listed y.1/\y.2.dst=some t)\/RepV w g (lk t e) (a.tmps.getD t undef)
 ne:∀y∈post,∀z∈post,y.2.aO=false->z.2.aO=false->dn listed y.1->dn listed z.1->y.1≠z.1->∀d d',y.2.dst=some d->z.2.dst=some d'->a.tmps.getD d undef≠a.tmps.getD d' undef
structure FixOk (F:Fix):Prop where
 rows:CI F.P F.n F.ops F.ms F.fa [] F.L=true
 all:∀i,i<F.ops.size->∃y∈F.L,y.2.aO=false/\y.1=i
theorem FixOk.row {F:Fix}(hF:FixOk F){A B:List Row}{y:Row}(h:F.L=A++y::B)(hc:y.2.aO=false):∃o,RowOk F.P F.n F.ops F.ms F.fa A y B o:=by
 have:=Ri _ _ hF.rows A y B h;exact Qbje this hc
def BK (F:Fix)(x y:Row):Prop:=∃A B,F.L=A++y::B/\x∈A
theorem FixOk.pair {F:Fix}(hF:FixOk F){x y:Row}(h:BK F x y)(hx:x.2.aO=false)(hy:y.2.aO=false):PairOk F.ms F.fa x y:=by
 obtain⟨A,B,h1,h2⟩:=h;obtain⟨o,ho⟩:=hF.row h1 hy;exact ho.pair x h2 hx
theorem BG {F:Fix}{pre post:List Row}(h:F.L=pre++post){x y:Row}(hx:x∈pre)(hy:y∈post):BK F x y:=by
 obtain⟨s,t,rfl⟩:=J0 hy;exact⟨pre++s,t,by rw[h];simp,Za0⟩
theorem DW {F:Fix}{pre post:List Row}{y x:Row}(h:F.L=pre++y::post)(hx:x∈post):BK F y x:=
 BG (pre:=pre++[y]) ZP ZF hx
theorem Q5x {F:Fix}{x y:Row}(hx:x∈F.L)(hy:y∈F.L):x=y\/BK F x y\/BK F y x:=by
 obtain⟨s,t,h⟩:=J0 hx;have:y∈s++x::t:=h▸hy;rcases Jb.1 this with k|k
 ·exact .inr (.inr ⟨s,t,h,k⟩)
 ·rcases Jg.1 k with k|k
  ·exact .inl k.symm
  ·exact .inr (.inl (DW h k))
theorem FixOk.inj {F:Fix}(hF:FixOk F){x y:Row}(hx:x∈F.L)(hy:y∈F.L)(ol:x.2.aO=false)(bV:y.2.aO=false)(h:x.1=y.1):x=y:=by
 rcases Q5x hx hy with k|k|k
 ·exact k
 ·exact absurd h (hF.pair k ol bV).ne
 ·exact absurd h.symm (hF.pair k bV ol).ne
theorem FixOk.injDst {F:Fix}(hF:FixOk F){x y:Row}(hx:x∈F.L)(hy:y∈F.L)(ol:x.2.aO=false)(bV:y.2.aO=false){t:Nat}(h1:x.2.dst=some t)(h2:y.2.dst=some t):x=y:=by
 rcases Q5x hx hy with k|k|k
 ·exact k
 ·exact absurd h2 ((hF.pair k ol bV).dst t h1)
 ·exact absurd h1 ((hF.pair k bV ol).dst t h2)
theorem DN {x:Item}(h:x.isFl=true):x.aO=false/\x.isE=false:=by
 cases x <;> simp_all[Item.isFl,Item.aO,Item.isE]
theorem C9 {x:Item}(h:x.isE=true):x.aO=false/\x.isFl=false:=by
 cases x <;> simp_all[Item.isFl,Item.aO,Item.isE]
theorem Hb {j:Nat}{y:Row}{r:List Row}(h:Bj j (y::r)=true):y.2.aO=true/\(y.1=j\/Bj j r=true):=by
 simpa[Bj]using h
theorem DInv.passFl {F:Fix}(hF:FixOk F){listed:Array Bool}{pre r:List Row}{y:Row}(hI:DInv F listed a w pre (y::r) e H g)(hy:y.2.isFl=true)(v:V)(hr:Rdy F.P y.2 e H v)
  (cf:Bn F.P (r.map Prod.snd) (putE y.2.dst v e) H F.KP F.K) (bE:¬dn listed y.1):DInv F listed a w (pre++[y]) r (putE y.2.dst v e) H g:=by
 obtain⟨bV,xA⟩:=DN hy;obtain⟨o,ho⟩:=hF.row hI.split bV;have hL:y∈F.L:=Za4
 have gk:∀z∈pre,z∈F.L:=λz hz=>ZY
 have eO:∀z∈r,z∈F.L:=λz hz=>ZY
 have ip:∀t,y.2.dst≠some t->lk t (putE y.2.dst v e)=lk t e:=by
  intro t ht
  cases hd:y.2.dst with
  |none=>rfl
  |some d=>
   simp only[putE,lk];rw[if_neg];intro h;subst h;exact ht hd
 have vG:∀t,y.2.dst=some t->lk t (putE y.2.dst v e)=v:=by
  intro t ht;rw[ht];simp[putE,lk]
 refine⟨by rw[hI.split];simp,cf,hI.stp,hI.size,hI.defers,hI.lsz,hI.closed,?_,?_,?_,?_,λy' dO z' dl=>hI.ne y' (by simp[dO]) z' (by simp[dl])⟩
 ·intro z hz iX;rcases Jb.1 hz with k|k
  ·exact hI.eDone z k iX
  ·simp at k;subst k;rw[xA]at iX;simp at iX
 ·exact λz hz=>hI.postDone z Za1
 ·intro z hz eD gD;obtain⟨cE,qy⟩:=DN eD;right;rcases Jb.1 hz with k|k
  ·rcases hI.pend z k eD gD with h|h
   ·have:=(Hb h).1;rw[bV]at this;simp at this
   ·obtain⟨o',x,ei,u,p1,p2,p3,p4,p5,p6,p7,p8⟩:=h;refine⟨o',x,ei,u,p1,p2,p3,p4,p5,p6,?_,?_⟩
    ·intro d hd;rw[ip d λh=>(hF.pair (BG hI.split k ZF) cE bV).dst d hd h];exact p7 d hd
    ·intro t ht;obtain⟨q1,q2⟩:=p8 t ht;have hb:∀z',B9 F listed (pre++[y]) z t z'->B9 F listed pre z t z':=by
      rintro z' ⟨b1,b2,b3,b4,b5⟩;refine⟨?_,b2,b3,b4,b5⟩;rcases Jb.1 b1 with b|b
      ·exact b
      ·simp at b;subst b;have:=(hF.pair (BG hI.split k ZF) cE bV).top;rw[Fix.anc,this]at b5;simp at b5
     refine⟨?_,?_⟩
     ·intro z' dl;have hz'':=hb z' dl;rw[q1 z' hz'',ip];intro h;exact (hF.pair (BG hI.split hz''.1 ZF) hz''.2.1 bV).dst t hz''.2.2.2.1 h
     ·intro bR;refine q2 λ⟨z',b1,b2⟩=>bR ⟨z',?_,b2⟩;simp[b1]
  ·simp at k;subst k;refine⟨o,z.2,e,v,ho.op,ho.item,rfl,rfl,id,hr,vG,?_⟩;intro t ht;have n4:z.2.dst≠some t:=λh=>ho.self t h ht;refine⟨?_,?_⟩
   ·intro z' dl;rw[ip t n4]
   ·intro bR;rcases hI.temps t with ⟨y',k1,k2,k3,k4⟩|⟨y',k1,k2,k3,k4,k5⟩|k
    ·exact absurd ⟨y',ZaH,k2,k3,k4,(hF.pair (BG hI.split k1 ZF) k2 cE).raw t k4 ht⟩ bR
    ·exfalso;rcases Jg.1 k1 with h|h
     ·subst h;exact n4 k5
     ·have:=(hF.pair (DW hI.split h) cE k2).war t k5 ht;exact bE (hI.closed _ k4 _ this)
    ·exact k
 ·intro t;by_cases ht:y.2.dst=some t
  ·exact .inl ⟨y,ZF,bV,bE,ht⟩
  ·rw[ip t ht];rcases hI.temps t with ⟨y',k1,k2,k3,k4⟩|⟨y',k1,k2,k3,k4,k5⟩|k
   ·exact .inl ⟨y',ZaH,k2,k3,k4⟩
   ·rcases Jg.1 k1 with h|h
    ·subst h;exact absurd k5 ht
    ·exact .inr (.inl ⟨y',h,k2,k3,k4,k5⟩)
   ·exact .inr (.inr k)
theorem DInv.passChk {F:Fix}(hF:FixOk F){listed:Array Bool}{pre r:List Row}{j d:Nat}{gd:Option (Nat×Bool)}{op:FOp}(hI:DInv F listed a w pre ((j,.chk d gd op)::r) e H g) :
  DInv F listed a w (pre++[(j,.chk d gd op)]) r e H g:=by
 have a8:=Ri _ _ hF.rows pre _ _ hI.split;obtain⟨o,c1,c2,⟨y0,c3,c4,c5,c6,c7,c8⟩,c9⟩:=Qbhu a8;have cf:=hI.rest;simp only[Jp,Bn]at cf;obtain⟨⟨r1,r2,r3⟩,r4⟩:=cf;have gk:∀z∈pre,z∈F.L:=λz hz=>ZY
 have iv:∀z t z',B9 F listed (pre++[(j,.chk d gd op)]) z t z'↔B9 F listed pre z t z':=by
  intro z t z';constructor
  ·rintro⟨b1,b2⟩;refine⟨?_,b2⟩;rcases Jb.1 b1 with b|b
   ·exact b
   ·simp at b;subst b;simp[Item.aO]at b2
  ·rintro⟨b1,b2⟩;exact⟨by simp[b1],b2⟩
 refine⟨by rw[hI.split];simp,r4,hI.stp,hI.size,hI.defers,hI.lsz,hI.closed,?_,?_,?_,?_,λy' dO z' dl=>hI.ne y' (by simp[dO]) z' (by simp[dl])⟩
 ·intro z hz iX;rcases Jb.1 hz with k|k
  ·exact hI.eDone z k iX
  ·simp at k;subst k;simp[Item.isE]at iX
 ·exact λz hz=>hI.postDone z Za1
 ·intro z hz eD gD;obtain⟨cE,qy⟩:=DN eD;have k:z∈pre:=by
   rcases Jb.1 hz with k|k
   ·exact k
   ·simp at k;subst k;simp[Item.aO]at cE
  have iK:Pend F listed a w pre e H g z->Pend F listed a w (pre++[(j,.chk d gd op)]) e H g z:=by
   rintro⟨o',x,ei,u,p1,p2,p3,p4,p5,p6,p7,p8⟩;refine⟨o',x,ei,u,p1,p2,p3,p4,p5,p6,p7,λt ht=>?_⟩;simp only[iv];exact p8 t ht
  rcases hI.pend z k eD gD with h|h
  ·rcases (Hb h).2 with h'|h'
   ·right;simp only at h';have qa:z=y0:=hF.inj (gk _ k) (gk _ c3) cE c4 (by rw[c5,<-h']);subst qa;refine⟨o,.f (some d) gd op,e,gdV gd (gdB e gd) (op.val e H),by rw[c5];exact c1,c2,by rw[c7];rfl,c6.symm,λh=>by rw[c8]at h;simp at h,⟨r1,r2,rfl⟩,?_,?_⟩
    ·intro d' cY;rw[c7]at cY;simp at cY;subst cY;exact r3
    ·intro t ht;simp only[iv];refine⟨λ_ _=>trivial,λbR=>?_⟩;rcases hI.temps t with ⟨y',k1,k2,k3,k4⟩|⟨y',k1,k2,k3,k4,k5⟩|k'
     ·exfalso;refine bR ⟨y',k1,k2,k3,k4,?_⟩;have:=c9 y' k1 k2 t k4 (by rw[<-c6];exact ht);rw[Fix.anc,c5];exact this
     ·exfalso;rcases Jg.1 k1 with h|h
      ·subst h;simp[Item.aO]at k2
      ·have:=(hF.pair (BG (pre:=pre++[(j,.chk d gd op)]) Za4 (by simp[k]) h) cE k2).war t k5 ht;exact gD (hI.closed _ k4 _ this)
     ·exact k'
   ·exact .inl h'
  ·exact .inr (iK h)
 ·intro t;rcases hI.temps t with ⟨y',k1,k2,k3,k4⟩|⟨y',k1,k2,k3,k4,k5⟩|k
  ·exact .inl ⟨y',ZaH,k2,k3,k4⟩
  ·rcases Jg.1 k1 with h|h
   ·subst h;simp[Item.aO]at k2
   ·exact .inr (.inl ⟨y',h,k2,k3,k4,k5⟩)
  ·exact .inr (.inr k)
theorem Gj {d:Option Nat}{v:V}{e:Env}{t:Nat}(h:d≠some t):lk t (putE d v e)=lk t e:=by
 cases d with
 |none=>rfl
 |some s=>
  simp only[putE,lk];rw[if_neg];intro k;subst k;exact h rfl
theorem KF {d:Option Nat}{v:V}{e:Env}{t:Nat}(h:d=some t):lk t (putE d v e)=v:=by
 subst h;simp[putE,lk]
theorem BA {a:Act}{d:Option Nat}{u:Value}{t:Nat}(h:d≠some t):(a.put d u).tmps.getD t undef=a.tmps.getD t undef:=by
 cases d with
 |none=>rfl
 |some s=>
  have:s≠t:=λk=>by subst k;exact h rfl
  simp only[Act.put];rw[Ji,Array.getElem?_setIfInBounds_ne this,<-Ji]
theorem Dp {a:Act}{d:Option Nat}{u:Value}{t:Nat}(h:d=some t)(ht:t<a.tmps.size):(a.put d u).tmps.getD t undef=u:=by
 subst h;simp only[Act.put];rw[Ji,Array.getElem?_setIfInBounds_self_of_lt ht];rfl
theorem AF {listed:Array Bool}{i j:Nat}(hi:i<listed.size):dn (listed.setIfInBounds i true) j↔j=i\/dn listed j:=by
 by_cases h:j=i
 ·subst h;simp[dn,hi]
 ·simp only[dn,getD_set_ne false (Jao h),h,false_or]
theorem Rd {n:Nat}{ops:Array Oper}{o:Oper}{x:Item}(h:AV P n ops o x=true):∀t,x.dst=some t->t<n:=by
 intro t ht;cases x <;> simp only[AV,Js]at h
 case f d gd op=>obtain⟨h1,h2⟩:=CM h.1.1;simp only[Item.dst]at ht;exact h2 t (h1.trans ht)
 case p d gd f xs=>obtain⟨h1,h2⟩:=CM h.1.1;simp only[Item.dst]at ht;exact h2 t (h1.trans ht)
 case e d gd op=>obtain⟨h1,h2⟩:=CM h.1.1;simp only[Item.dst]at ht;exact h2 t (h1.trans ht)
 case chk=>simp at h
theorem DInv.passE {F:Fix}(hF:FixOk F){listed:Array Bool}{pre r:List Row}{y:Row}(hI:DInv F listed a w pre (y::r) e H g)(hy:y.2.isE=true)(lC:¬dn listed y.1)(oi:¬flo F.fa y.1=true)
  (dF:∀j,F.anc y.1 j->dn listed j) {v:V} {u:Value} {w':World} {H':Heap} {g':G}
  (cf:Bn F.P (r.map Prod.snd) (putE y.2.dst v e) H' F.KP F.K) (aR:Stp H g w H' g' w') (hv:RepV w' g' v u) :
  DInv F (listed.setIfInBounds y.1 true) (a.put y.2.dst u) w' (pre++[y]) r (putE y.2.dst v e) H' g':=by
 obtain⟨bV,fg⟩:=C9 hy;obtain⟨o,ho⟩:=hF.row hI.split bV;have ae:y.1<listed.size:=Zau
 have gk:∀z∈pre,z∈F.L:=λz hz=>ZY
 have mZ:∀z∈pre,BK F z y:=λz hz=>BG hI.split hz ZF;refine⟨by rw[hI.split];simp,cf,hI.stp.trans aR,by rw[(Bq _ _ _).1];exact hI.size,by rw[(Bq _ _ _).2];exact hI.defers,by simp[hI.lsz],?_,?_,?_,?_,?_,?_⟩
 ·intro i hi j hj;rw[AF ae]at hi⊢;rcases hi with rfl|hi
  ·exact .inr (dF j hj)
  ·exact .inr (hI.closed i hi j hj)
 ·intro z hz iX;rw[AF ae];rcases Jb.1 hz with k|k
  ·exact .inr (hI.eDone z k iX)
  ·simp at k;subst k;exact .inl rfl
 ·intro z hz cE eU;have oe:=hF.pair (DW hI.split hz) bV cE;rw[AF ae]at eU;obtain⟨k1,k2⟩:=hI.postDone z Za1 cE (eU.resolve_left (Jao oe.ne));exact⟨k1,k2.mono aR λd hd=>BA λh=>oe.dst d h hd⟩
 ·intro z hz eD gD;obtain⟨cE,qy⟩:=DN eD;rw[AF ae]at gD;have fY:¬dn listed z.1:=λh=>gD (.inr h);have k:z∈pre:=by
   rcases Jb.1 hz with k|k
   ·exact k
   ·simp at k;subst k;rw[fg]at eD;simp at eD
  have hp:=hF.pair (mZ z k) cE bV;by_cases hh:z.2.hf=true
  ·right;rcases hI.pend z k eD fY with h|h
   ·have:=(Hb h).1;rw[bV]at this;simp at this
   ·obtain⟨o',x,ei,u',p1,p2,p3,p4,p5,p6,p7,p8⟩:=h;refine⟨o',x,ei,u',p1,p2,p3,p4,p5,p6.hcongr (p5 hh),?_,?_⟩
    ·intro d hd;rw[Gj λh=>hp.dst d hd h];exact p7 d hd
    ·intro t ht;obtain⟨q1,q2⟩:=p8 t ht;have gK:y.2.dst≠some t:=λh=>by
      have:=hp.war t h ht;exact fY (dF _ this)
     have hb:∀z',B9 F (listed.setIfInBounds y.1 true) (pre++[y]) z t z'↔B9 F listed pre z t z':=by
      intro z';constructor
      ·rintro⟨b1,b2,b3,b4,b5⟩;rw[AF ae]at b3;refine⟨?_,b2,λh=>b3 (.inr h),b4,b5⟩;rcases Jb.1 b1 with b|b
       ·exact b
       ·simp at b;subst b;exact absurd b4 gK
      ·rintro⟨b1,b2,b3,b4,b5⟩;refine⟨by simp[b1],b2,?_,b4,b5⟩;rw[AF ae];rintro (h|h)
       ·exact (hF.pair (mZ z' b1) b2 bV).ne h
       ·exact b3 h
     simp only[hb,Gj gK,BA gK];exact⟨q1,λh=>(q2 h).mono aR.le⟩
  ·left;have:=ho.cover hy z k cE (by simpa using hh);refine this ?_
   cases hx:(F.ms.getD y.1 0).testBit z.1 with
   |false=>rfl
   |true=>exact absurd (dF _ hx) fY
 ·intro t;by_cases ht:y.2.dst=some t
  ·right;right;rw[KF ht,Dp ht ZaR];exact hv
  ·rw[Gj ht,BA ht];rcases hI.temps t with ⟨y',k1,k2,k3,k4⟩|⟨y',k1,k2,k3,k4,k5⟩|k
   ·refine .inl ⟨y',ZaH,k2,?_,k4⟩;rw[AF ae];rintro (h|h)
    ·exact (hF.pair (mZ y' k1) k2 bV).ne h
    ·exact k3 h
   ·rcases Jg.1 k1 with h|h
    ·subst h;exact absurd k3 oi
    ·exact .inr (.inl ⟨y',h,k2,k3,(AF ae).2 (.inr k4),k5⟩)
   ·exact .inr (.inr (k.mono aR.le))
 ·intro y' dO z' dl f8 eE iw eU be d d' hd cY;have p1:=hF.pair (DW hI.split dO) bV f8;have p2:=hF.pair (DW hI.split dl) bV eE;rw[AF ae]at iw eU;rw[BA λh=>p1.dst d h hd,BA λh=>p2.dst d' h cY];exact hI.ne y' (by simp[dO]) z' (by simp[dl]) f8 eE (iw.resolve_left (Jao p1.ne)) (eU.resolve_left (Jao p2.ne)) be d d' hd cY
theorem DInv.passFa {F:Fix}(hF:FixOk F){listed:Array Bool}{pre r:List Row}{y:Row}(hI:DInv F listed a w pre (y::r) e H g)(bV:y.2.aO=false)(lC:dn listed y.1) :
  ∃e' H',DInv F listed a w (pre++[y]) r e' H' g:=by
 obtain⟨oi,jU⟩:=hI.postDone y ZF bV lC;obtain⟨d,cells,l,h1,h2,h3,h4⟩:=Qbmf hI.stp jU;obtain⟨d0,cells0,l0,b0,sz0,T0,cs0,e1,e2,e3,e4,e5,e6,e7,e8,e9⟩:=jU.ok;obtain⟨o,ho⟩:=hF.row hI.split bV;have hy:y.2.isE=true:=Zbf
 have fg:=(C9 hy).2;have iw:y.2.dst=some d:=Zbf
 have mZ:∀z∈pre,BK F z y:=λz hz=>BG hI.split hz ZF;have cf:=hI.rest;simp only[Jp,h1,Bn,gdO,gdB,true_and,EOp.eff]at cf;have oM:=cf.1 trivial l h2;refine⟨putE (some d) (.c (.ptr l 0)) e,H.set l (.st cells),?_⟩;refine⟨by rw[hI.split];simp,oM,h3,hI.size,hI.defers,hI.lsz,hI.closed,?_,?_,?_,?_,λy' dO z' dl=>hI.ne y' (by simp[dO]) z' (by simp[dl])⟩
 ·intro z hz iX;rcases Jb.1 hz with k|k
  ·exact hI.eDone z k iX
  ·simp at k;subst k;exact lC
 ·intro z hz cE eU;obtain⟨k1,k2⟩:=hI.postDone z Za1 cE eU;refine⟨k1,k2.other h4 λd' cY=>?_⟩;exact hI.ne y ZF z Za1 bV cE lC eU (hF.pair (DW hI.split hz) bV cE).ne d d' iw cY
 ·intro z hz eD gD;obtain⟨cE,qy⟩:=DN eD;have k:z∈pre:=by
   rcases Jb.1 hz with k|k
   ·exact k
   ·simp at k;subst k;rw[fg]at eD;simp at eD
  have hp:=hF.pair (mZ z k) cE bV;by_cases hh:z.2.hf=true
  ·right;rcases hI.pend z k eD gD with h|h
   ·have:=(Hb h).1;rw[bV]at this;simp at this
   ·obtain⟨o',x,ei,u',p1,p2,p3,p4,p5,p6,p7,p8⟩:=h;refine⟨o',x,ei,u',p1,p2,p3,p4,p5,p6.hcongr (p5 hh),?_,?_⟩
    ·intro d' cY;rw[Gj λh=>hp.dst d' cY (by rw[iw];exact h)];exact p7 d' cY
    ·intro t ht;obtain⟨q1,q2⟩:=p8 t ht;have gK:some d≠some t:=λh=>by
      have:=hp.war t (by rw[iw];exact h) ht;exact gD (hI.closed _ lC _ this)
     have hb:∀z',B9 F listed (pre++[y]) z t z'↔B9 F listed pre z t z':=by
      intro z';constructor
      ·rintro⟨b1,b2,b3,b4,b5⟩;refine⟨?_,b2,b3,b4,b5⟩;rcases Jb.1 b1 with b|b
       ·exact b
       ·simp at b;subst b;rw[iw]at b4;exact absurd b4 gK
      ·rintro⟨b1,b2⟩;exact⟨by simp[b1],b2⟩
     simp only[hb,Gj gK];exact⟨q1,q2⟩
  ·left;refine ho.cover hy z k cE (by simpa using hh) ?_
   cases hx:(F.ms.getD y.1 0).testBit z.1 with
   |false=>rfl
   |true=>exact absurd (hI.closed _ lC _ hx) gD
 ·intro t;by_cases ht:some d=some t
  ·right;right;rw[KF ht];simp at ht;subst ht;exact h4
  ·rw[Gj ht];rcases hI.temps t with ⟨y',k1,k2,k3,k4⟩|⟨y',k1,k2,k3,k4,k5⟩|k
   ·exact .inl ⟨y',ZaH,k2,k3,k4⟩
   ·rcases Jg.1 k1 with h|h
    ·subst h;rw[iw]at k5;exact absurd k5 ht
    ·exact .inr (.inl ⟨y',h,k2,k3,k4,k5⟩)
   ·exact .inr (.inr k)
theorem DInv.doneFl {F:Fix}(hF:FixOk F){listed:Array Bool}{pre post:List Row}{y:Row}(hI:DInv F listed a w pre post e H g)(dN:y∈pre)(hy:y.2.isFl=true)(lC:¬dn listed y.1)
  (dF:∀j,F.anc y.1 j->dn listed j) {v:V} {u:Value} {w':World} {g':G} (iZ:∀d,y.2.dst=some d->lk d e=v)
  (aR:Stp H g w H g' w') (hv:RepV w' g' v u) :
  DInv F (listed.setIfInBounds y.1 true) (a.put y.2.dst u) w' pre post e H g':=by
 obtain⟨bV,xA⟩:=DN hy;have im:y∈F.L:=by rw[hI.split];simp[dN]
 obtain⟨A,B,lR⟩:=J0 im;obtain⟨o,ho⟩:=hF.row lR bV;have ae:y.1<listed.size:=Zau
 have gk:∀z∈pre,z∈F.L:=λz hz=>ZY
 refine⟨hI.split,hI.rest,hI.stp.trans aR,by rw[(Bq _ _ _).1];exact hI.size,by rw[(Bq _ _ _).2];exact hI.defers,by simp[hI.lsz],?_,?_,?_,?_,?_,?_⟩
 ·intro i hi j hj;rw[AF ae]at hi⊢;rcases hi with rfl|hi
  ·exact .inr (dF j hj)
  ·exact .inr (hI.closed i hi j hj)
 ·intro z hz iX;rw[AF ae];exact .inr (hI.eDone z hz iX)
 ·intro z hz cE eU;have oe:=hF.pair (BG hI.split dN hz) bV cE;rw[AF ae]at eU;obtain⟨k1,k2⟩:=hI.postDone z hz cE (eU.resolve_left (Jao oe.ne));exact⟨k1,k2.mono aR λd hd=>BA λh=>oe.dst d h hd⟩
 ·intro z hz eD gD;obtain⟨cE,qy⟩:=DN eD;rw[AF ae]at gD;have fY:¬dn listed z.1:=λh=>gD (.inr h);have oe:z≠y:=λh=>gD (.inl (by rw[h]));rcases hI.pend z hz eD fY with h|h
  ·exact .inl h
  ·right;obtain⟨o',x,ei,u',p1,p2,p3,p4,p5,p6,p7,p8⟩:=h;refine⟨o',x,ei,u',p1,p2,p3,p4,p5,p6,p7,?_⟩;intro t ht;obtain⟨q1,q2⟩:=p8 t ht;have hb:∀z',B9 F (listed.setIfInBounds y.1 true) pre z t z'->B9 F listed pre z t z':=by
    rintro z' ⟨b1,b2,b3,b4,b5⟩;rw[AF ae]at b3;exact⟨b1,b2,λh=>b3 (.inr h),b4,b5⟩
   refine⟨λz' dl=>q1 z' (hb z' dl),λbR=>?_⟩;by_cases gK:y.2.dst=some t
   ·have iv:B9 F listed pre z t y:=by
     refine⟨dN,bV,lC,gK,?_⟩;rcases Q5x im (gk z hz)with k|k|k
     ·exact absurd k.symm oe
     ·exact (hF.pair k bV cE).raw t gK ht
     ·exact absurd (dF _ ((hF.pair k cE bV).war t gK ht)) fY
    rw[q1 y iv,iZ t gK,Dp gK (by rw[hI.size];exact Rd ho.item t gK)];exact hv
   ·rw[BA gK];refine (q2 λ⟨z',b⟩=>bR ⟨z',?_⟩).mono aR.le;obtain⟨b1,b2,b3,b4,b5⟩:=b;refine⟨b1,b2,?_,b4,b5⟩;rw[AF ae];rintro (h|h)
    ·have:=hF.inj (gk _ b1) im b2 bV h;subst this;exact gK b4
    ·exact b3 h
 ·intro t;by_cases ht:y.2.dst=some t
  ·right;right;rw[iZ t ht,Dp ht ZaR];exact hv
  ·rw[BA ht];rcases hI.temps t with ⟨y',k1,k2,k3,k4⟩|⟨y',k1,k2,k3,k4,k5⟩|k
   ·refine .inl ⟨y',k1,k2,?_,k4⟩;rw[AF ae];rintro (h|h)
    ·have:=hF.inj (gk _ k1) im k2 bV h;subst this;exact ht k4
    ·exact k3 h
   ·exact .inr (.inl ⟨y',k1,k2,k3,(AF ae).2 (.inr k4),k5⟩)
   ·exact .inr (.inr (k.mono aR.le))
 ·intro y' dO z' dl f8 eE iw eU be d d' hd cY;have p1:=hF.pair (BG hI.split dN dO) bV f8;have p2:=hF.pair (BG hI.split dN dl) bV eE;rw[AF ae]at iw eU;rw[BA λh=>p1.dst d h hd,BA λh=>p2.dst d' h cY];exact hI.ne y' dO z' dl f8 eE (iw.resolve_left (Jao p1.ne)) (eU.resolve_left (Jao p2.ne)) be d d' hd cY
theorem DInv.doneFa {F:Fix}(hF:FixOk F){listed:Array Bool}{pre post:List Row}{y:Row}(hI:DInv F listed a w pre post e H g)(dN:y∈post)(bV:y.2.aO=false)(oi:flo F.fa y.1=true)(lC:¬dn listed y.1)
  (dF:∀j,F.anc y.1 j->dn listed j) {u:Value} {w':World} {g':G}
  (aR:Stp H g w H g' w') (hv:Early F.g0 H g' w' (a.put y.2.dst u) y.2) (dS:∀x',Early F.g0 H g w a x'->∀d,x'.dst=some d->a.tmps.getD d undef≠u) :
  DInv F (listed.setIfInBounds y.1 true) (a.put y.2.dst u) w' pre post e H g':=by
 have im:y∈F.L:=by rw[hI.split];simp[dN]
 obtain⟨A,B,lR⟩:=J0 im;obtain⟨o,ho⟩:=hF.row lR bV;have ae:y.1<listed.size:=Zau
 have gk:∀z∈pre,z∈F.L:=λz hz=>ZY
 have eO:∀z∈post,z∈F.L:=λz hz=>ZY
 refine⟨hI.split,hI.rest,hI.stp.trans aR,by rw[(Bq _ _ _).1];exact hI.size,by rw[(Bq _ _ _).2];exact hI.defers,by simp[hI.lsz],?_,?_,?_,?_,?_,?_⟩
 ·intro i hi j hj;rw[AF ae]at hi⊢;rcases hi with rfl|hi
  ·exact .inr (dF j hj)
  ·exact .inr (hI.closed i hi j hj)
 ·intro z hz iX;rw[AF ae];exact .inr (hI.eDone z hz iX)
 ·intro z hz cE eU;rw[AF ae]at eU;rcases eU with h|h
  ·have:=hF.inj (eO _ hz) im cE bV h;subst this;exact⟨oi,hv⟩
  ·obtain⟨k1,k2⟩:=hI.postDone z hz cE h;refine⟨k1,k2.mono aR λd hd=>BA λhh=>?_⟩;have:=hF.injDst (eO _ hz) im cE bV hd hh;subst this;exact lC h
 ·intro z hz eD gD;obtain⟨cE,qy⟩:=DN eD;rw[AF ae]at gD;have fY:¬dn listed z.1:=λh=>gD (.inr h);rcases hI.pend z hz eD fY with h|h
  ·exact .inl h
  ·right;obtain⟨o',x,ei,u',p1,p2,p3,p4,p5,p6,p7,p8⟩:=h;refine⟨o',x,ei,u',p1,p2,p3,p4,p5,p6,p7,?_⟩;intro t ht;obtain⟨q1,q2⟩:=p8 t ht;have gK:y.2.dst≠some t:=λh=>by
    have:=(hF.pair (BG hI.split hz dN) cE bV).war t h ht;exact fY (dF _ this)
   have hb:∀z',B9 F (listed.setIfInBounds y.1 true) pre z t z'↔B9 F listed pre z t z':=by
    intro z';constructor
    ·rintro⟨b1,b2,b3,b4,b5⟩;rw[AF ae]at b3;exact⟨b1,b2,λh=>b3 (.inr h),b4,b5⟩
    ·rintro⟨b1,b2,b3,b4,b5⟩;refine⟨b1,b2,?_,b4,b5⟩;rw[AF ae];rintro (h|h)
     ·exact (hF.pair (BG hI.split b1 dN) b2 bV).ne h
     ·exact b3 h
   simp only[hb,BA gK];exact⟨q1,λh=>(q2 h).mono aR.le⟩
 ·intro t;by_cases ht:y.2.dst=some t
  ·exact .inr (.inl ⟨y,dN,bV,oi,(AF ae).2 (.inl rfl),ht⟩)
  ·rw[BA ht];rcases hI.temps t with ⟨y',k1,k2,k3,k4⟩|⟨y',k1,k2,k3,k4,k5⟩|k
   ·refine .inl ⟨y',k1,k2,?_,k4⟩;rw[AF ae];rintro (h|h)
    ·exact (hF.pair (BG hI.split k1 dN) k2 bV).ne h
    ·exact k3 h
   ·exact .inr (.inl ⟨y',k1,k2,k3,(AF ae).2 (.inr k4),k5⟩)
   ·exact .inr (.inr (k.mono aR.le))
 ·have nK:∀z'∈post,z'.2.aO=false->dn listed z'.1->z'.1≠y.1->∀d d',y.2.dst=some d->z'.2.dst=some d'->(a.put y.2.dst u).tmps.getD d undef≠(a.put y.2.dst u).tmps.getD d' undef:=by
   intro z' dl eE eU be d d' hd cY;obtain⟨_,k2⟩:=hI.postDone z' dl eE eU;rw[Dp hd (by rw[hI.size];exact Rd ho.item d hd),BA λh=>be ZaL];exact λh=>dS _ k2 d' cY h.symm
  intro y' dO z' dl f8 eE iw eU be d d' hd cY;rw[AF ae]at iw eU;by_cases h1:y'.1=y.1
  ·have:=hF.inj (eO _ dO) im f8 bV h1;subst this;exact nK z' dl eE (eU.resolve_left λh=>be h.symm) (λh=>be h.symm) d d' hd cY
  ·by_cases h2:z'.1=y.1
   ·have:=hF.inj (eO _ dl) im eE bV h2;subst this;exact (nK y' dO f8 (iw.resolve_left h1) h1 d' d cY hd).symm
   ·rw[BA λh=>h1 (by rw[hF.injDst (eO _ dO) im f8 bV hd h]),BA λh=>h2 ZaL];exact hI.ne y' dO z' dl f8 eE (iw.resolve_left h1) (eU.resolve_left h2) be d d' hd cY
def Ev (listed:Array Bool)(post:List Row):Prop:=post=[]\/∃y r,post=y::r/\y.2.isE=true/\¬dn listed y.1
theorem GG {F:Fix}(hF:FixOk F){listed:Array Bool}:∀(post pre:List Row) (e:Env) (H:Heap),DInv F listed a w pre post e H g->
  ∃pre' post' e' H',DInv F listed a w pre' post' e' H' g/\Ev listed post'
 |[],pre,e,H,hI=>⟨pre,[],e,H,hI,.inl rfl⟩
 |(i,x)::r,pre,e,H,hI=>by
  have ye:x.isE=false->x.aO=false->¬dn listed i:=by
   intro hx hc hd;obtain⟨_,jU⟩:=hI.postDone (i,x) ZF hc hd;obtain⟨d,cells,l,b,sz,T,cs,h1,_⟩:=jU.ok;simp only at h1;rw[h1]at hx;simp[Item.isE]at hx
  have cf:=hI.rest
  cases x with
  |chk d gd op=>exact GG hF r _ e H (hI.passChk hF)
  |f d gd op=>
   simp only[Jp,Bn]at cf;exact GG hF r _ _ H (hI.passFl hF rfl _ ⟨cf.1,cf.2.1,rfl⟩ cf.2.2 (ye rfl rfl))
  |p d gd f xs=>
   simp only[Jp,Bn]at cf;obtain⟨r1,v,r2,r3⟩:=cf;exact GG hF r _ _ H (hI.passFl hF rfl _ ⟨r1,v,r2,rfl⟩ r3 (ye rfl rfl))
  |e d gd op=>
   by_cases hd:dn listed i
   ·obtain⟨e',H',xl⟩:=hI.passFa hF rfl hd;exact GG hF r _ e' H' xl
   ·exact⟨pre,_,e,H,hI,.inr ⟨_,r,rfl,rfl,hd⟩⟩
theorem Kf {α:Type}{p q:α->Bool}:∀(l:List α),(∀x∈l,q x=true->p x=true)->(∃x∈l,p x=true/\q x=false)->l.countP q<l.countP p
 |[],_,h=>ZK
 |x::r,h1,h2=>by
  have aP:r.countP q<=r.countP p:=List.countP_mono_left λy hy=>h1 y (by simp[hy]);obtain⟨y,hy,k1,k2⟩:=h2;rcases Jg.1 hy with rfl|hy
  ·simp only[Jar,k1,k2];simp;omega
  ·have:=Kf r (λy hy=>h1 y (by simp[hy])) ⟨y,hy,k1,k2⟩;have hx:=h1 x ZF;simp only[Jar]
   cases hq:q x with
   |true=>rw[hx hq];simp;omega
   |false=>simp;split <;> omega
def unl (F:Fix)(listed:Array Bool):Nat:=(List.range F.ops.size).countP λi=>!listed.getD i false
theorem IY {F:Fix}(hF:FixOk F){listed:Array Bool}(bj:listed.size=F.ops.size)(hr:Region.ready .any F.ops listed=[]):∀(B A:List Row),F.L=A++B->
  (∀y∈A,y.2.aO=false->dn listed y.1)->∀y∈B,y.2.aO=false->dn listed y.1
 |[],A,h,hA,y,hy,hc=>by simp at hy
 |x::r,A,h,hA,y,hy,hc=>by
  have hx:x.2.aO=false->dn listed x.1:=by
   intro ol;obtain⟨o,ho⟩:=hF.row h ol;have ae:x.1<listed.size:=by rw[bj];exact (Jl.1 ho.op).1
   by_cases hd:dn listed x.1
   ·exact hd
   ·exfalso;have:x.1∈Region.ready .any F.ops listed:=by
     rw[mem_ready];refine⟨?_,o,ho.op,λed sn hb=>?_⟩
     ·simp only[dn]at hd;rw[Ji,Jr ae]at hd⊢;simpa using hd
     ·obtain⟨z,hz,h1,h2⟩:=ho.aft ed sn hb;rw[<-h2];exact hA z hz h1
    rw[hr]at this;simp at this
  rcases Jg.1 hy with rfl|hy
  ·exact hx hc
  ·refine IY hF bj hr r (A++[x]) (by rw[h];simp) ?_ y hy hc;intro z hz cE;rcases Jb.1 hz with k|k
   ·exact hA z k cE
   ·simp at k;subst k;exact hx cE
theorem IH {F:Fix}(hF:FixOk F){listed:Array Bool}{pre post:List Row}(hI:DInv F listed a w pre post e H g)(aR:Ev listed post)(hr:Region.ready .any F.ops listed=[]) :
  Post F.n F.H0 F.g0 F.w0 F.K a w:=by
 have bg:=IY hF hI.lsz hr F.L [] rfl ZF;rcases aR with rfl|⟨y,r,rfl,hy,hd⟩
 ·refine⟨e,H,g,hI.rest,hI.stp,λt=>?_,hI.defers,hI.size⟩;rcases hI.temps t with ⟨y',k1,k2,k3,k4⟩|⟨y',k1,_⟩|k
  ·exact absurd (bg y' (by rw[hI.split];simp[k1]) k2) k3
  ·simp at k1
  ·exact k
 ·exact absurd (bg y Za4 (C9 hy).1) hd
theorem Qbme {F:Fix}(hF:FixOk F){Q:Exit->Act->World->Prop}(hQ:∀a' w',Post F.n F.H0 F.g0 F.w0 F.K a' w'->Q .normal a' w')(hP:∀v a' w' H' g',F.KP v H'->Stp F.H0 F.g0 F.w0 H' g' w'->a'.defers=[]->a'.tmps.size=F.n->Q (.panic [{ v:=v,recovered:=false }]) a' w') :
  ∀(fuel:Nat) (listed:Array Bool) (a:Act) (w:World) (pre post:List Row) (e:Env) (H:Heap) (g:G),DInv F listed a w pre post e H g->Ev listed post->unl F listed<=fuel->
   wpAny F.P .any F.ops Q fuel listed a w:=by
 intro fuel
 induction fuel with
 |zero=>
  intro listed a w pre post e H g hI aR hu;have hr:Region.ready .any F.ops listed=[]:=by
   rw[List.eq_nil_iff_forall_not_mem];intro i hi;rw[mem_ready]at hi;obtain⟨h1,o,h2,h3⟩:=hi;have ae:i<F.ops.size:=(Jl.1 h2).1;have:0<unl F listed:=by
    unfold unl;rw[List.countP_pos_iff];refine⟨i,by simp[ae],?_⟩;have eo:i<listed.size:=(by rw[hI.lsz];exact ae);rw[Ji,Jr eo]at h1⊢;simpa using h1
   omega
  exact⟨hr,hQ _ _ (IH hF hI aR hr)⟩
 |succ fuel ih=>
  intro listed a w pre post e H g hI aR hu;refine⟨λhr=>hQ _ _ (IH hF hI aR hr),?_⟩;intro i hi;rw[mem_ready]at hi;obtain⟨h1,o,h2,h3⟩:=hi;have ae:i<F.ops.size:=(Jl.1 h2).1;have eo:i<listed.size:=by rw[hI.lsz];exact ae
  have bE:¬dn listed i:=by
   simp only[dn];rw[Ji,Jr eo]at h1⊢;simpa using h1
  have gM:unl F (listed.setIfInBounds i true)<=fuel:=by
   have:unl F (listed.setIfInBounds i true)<unl F listed:=by
    refine Kf _ ?_ ⟨i,by simp[ae],?_,?_⟩
    ·intro j hj hq;by_cases gy:i=j
     ·subst gy;simp[eo]at hq
     ·rw[getD_set_ne false gy]at hq;exact hq
    ·simpa[dn]using bE
    ·simp[eo]
   omega
  obtain⟨y,im,bV,cU⟩:=hF.all i ae;subst cU;obtain⟨A,B,lR⟩:=J0 im;obtain⟨o',ho⟩:=hF.row lR bV;have fT:o'=o:=by have:=ho.op;rw[h2]at this;simpa using this.symm
  subst fT;have dF:∀j,F.anc y.1 j->dn listed j:=by
   intro j hj;obtain⟨ed,k1,k2,k3⟩:=ho.anc j hj;rcases k3 with k3|k3
   ·rw[<-k3];exact h3 ed k1 k2
   ·exact hI.closed _ (h3 ed k1 k2) j k3
  have dV:∀a' w' pre' post' e' H' g',DInv F (listed.setIfInBounds y.1 true) a' w' pre' post' e' H' g'->wpAny F.P .any F.ops Q fuel (listed.setIfInBounds y.1 true) a' w':=by
   intro a' w' pre' post' e' H' g' xl;obtain⟨p2,q2,e2,H2,xk,dQ⟩:=GG hF post' pre' e' H' xl;exact ih _ a' w' p2 q2 e2 H2 g' xk dQ gM
  have bz:y∈pre\/y∈post:=by
   have:y∈pre++post:=hI.split▸im;exact Jb.1 this
  have pG:flo F.fa y.1=true->y∈post->wpOp F.P F.ops Q y.1 (wpAny F.P .any F.ops Q fuel (listed.setIfInBounds y.1 true)) a w:=by
   intro jT dN;refine Qbhy h2 ho.item (ho.isFa jT) hI.stp.sat (λl z hz=>hI.stp.le.io l z hz) hI.size (g0:=F.g0) λu w' g' k1 k2 k3=>?_;exact dV _ _ _ _ _ _ _ (hI.doneFa hF dN bV jT bE dF k1 k2 k3)
  rcases bz with dN|dN
  ·
   have fz:y.2.isFl=true:=by
    have hE:=hI.eDone y dN;revert hE bV;cases y.2 <;> simp_all[Item.isFl,Item.aO,Item.isE]
   rcases hI.pend y dN fz bE with h|h
   ·exfalso;rcases aR with rfl|⟨z,r,rfl,hz,_⟩
    ·simp[Bj]at h
    ·have:=(Hb h).1;rw[(C9 hz).1]at this;simp at this
   ·obtain⟨o2,x,ei,v,p1,p2,p3,p4,p5,p6,p7,p8⟩:=h;rw[h2]at p1;simp only[Jh]at p1;subst p1;have bR:∀t,¬∃z,B9 F listed pre y t z:=by
     rintro t ⟨z,b1,b2,b3,b4,b5⟩;exact b3 (dF _ b5)
    refine XG (n:=F.n) h2 p2 p6 hI.stp.sat ?_ λu w' g' k1 k2=>?_
    ·intro t;rw[Dx];split
     ·rename_i ht
      rw[p4]at ht;exact (p8 t ht).2 (bR t)
     ·exact .unk _
    ·rw[p3];exact dV _ _ _ _ _ _ _ (hI.doneFl hF dN fz bE dF p7 k1 k2)
  ·by_cases jT:flo F.fa y.1=true
   ·exact pG jT dN
   ·rcases aR with rfl|⟨z,r,rfl,hz,eU⟩
    ·simp at dN
    ·have hyz:y=z:=by
      rcases Jg.1 dN with k|k
      ·exact k
      ·exfalso;have:=(hF.pair (DW hI.split k) (C9 hz).1 bV).ord hz jT;exact eU (dF _ this)
     subst hyz;have cf:=hI.rest;have dY:=ho.item;have xW:=@DInv.passE;obtain⟨yi,yx⟩:=y
     cases yx with
     |e d gd op=>
      simp only[Jp,Bn]at cf;obtain⟨r1,r2,r3⟩:=cf;refine Yk (n:=F.n) h2 dY hI.stp.sat ?_ r1 r2 r3 (λx u w' H' g' k1 k2 k3=>?_) λv w' H' g' k1 k2=>hP v a w' H' g' k1 (hI.stp.trans k2) hI.defers hI.size
      ·intro t;rw[Dx];split
       ·rename_i ht
        rcases hI.temps t with ⟨y',b1,b2,b3,b4⟩|⟨y',b1,b2,b3,b4,b5⟩|k
        ·exfalso;exact b3 (dF _ ((hF.pair (BG hI.split b1 ZF) b2 bV).raw t b4 ht))
        ·exfalso;rcases Jg.1 b1 with h|h
         ·subst h;exact bE b4
         ·have:=(hF.pair (DW hI.split h) bV b2).war t b5 ht;exact bE (hI.closed _ b4 _ this)
        ·exact k
       ·exact .unk _
      ·exact dV _ _ _ _ _ _ _ (hI.passE hF hz bE jT dF (Of k1 k3) k2 k3)
     |f=>simp[Item.isE]at hz
     |p=>simp[Item.isE]at hz
     |chk=>simp[Item.isE]at hz
theorem Oe (hs:Sat H g w)(k:Nat):Stp H g w H g { w with drawn:=k }:=by
 have aP:Le g w g { w with drawn:=k }:=⟨λ_ h=>⟨h,rfl⟩,λ_ _ h=>h,Jat _,λ_ _ _ h=>h,rfl,rfl,rfl⟩;have hk:∀l,Cn g w g { w with drawn:=k } l:=λl b q hb=>⟨hb,rfl⟩;exact⟨aP,λl _ hn=>⟨hn,λb p hb=>⟨hb,rfl⟩⟩,hs.fresh,hs.names,hs.excl,hs.named,λl=>SatObj.keep_all hs aP hk l⟩
theorem Qbhx {n id fa:Nat}{ord:List Nat}{ops:Array Oper}{its:List Item}{KP:Value->Heap->Prop}{K:Env->Heap->Prop}{Q:Exit->Act->World->Prop}(Ab:P.follows .mixedOrders=true)(hm:Eu P n ops fa ord its=true)(hs:Sat H g w)(he:EnvOk w g e a)(hn:a.tmps.size=n)(hd:a.defers=[])
  (hr:Bn P its e H KP K) (hQ:∀a' w',Post n H g w K a' w'->Q .normal a' w') (hP:∀v a' w',Post n H g w (λ_ H'=>KP v H') a' w'->Q (.panic [{ v:=v,recovered:=false }]) a' w'):(Code.region id ops true).wp P Q a w:=by
 simp only[Eu,Js,beq_iff_eq,Jaq,List.mem_range,List.any_eq_true,Jan]at hm;obtain⟨⟨⟨m1,m2⟩,m3⟩,m4⟩:=hm;let F:Fix:={ P,n,ops,ms:=Er ops.toList [],fa,L:=ord.zip its,H0:=H,g0:=g,w0:=w,KP,K };have hF:FixOk F:=⟨m3,λi hi=>m4 i hi⟩;have iN:(ord.zip its).map Prod.snd=its:=by
  rw[List.map_snd_zip];omega
 have aR:=Oe hs (w.drawn+1);have cC:∀i,¬dn (Array.replicate ops.size false) i:=by
  intro i h;simp only[dn,Ji,Array.getElem?_replicate]at h;split at h <;> simp at h
 have hI:DInv F (Array.replicate ops.size false) a { w with drawn:=w.drawn+1 } [] (ord.zip its) e H g:=by
  refine⟨rfl,by rw[iN];exact hr,aR,hn,hd,by simp[F],λi hi=>absurd hi (cC i),ZF,λy _ _ h=>absurd h (cC _),ZF,λt=>?_,λy _ z _ _ _ h=>absurd h (cC _)⟩;exact .inr (.inr ((he t).mono aR.le))
 obtain⟨p2,q2,e2,H2,xk,dQ⟩:=GG hF _ _ _ _ hI;refine wp_region_any Ab ?_;refine Qbme hF hQ (λv a' w' H' g' k1 k2 k3 k4=>hP v a' w' ⟨[],H',g',k1,k2,λt=>.unk _,k3,k4⟩) ops.size _ a _ p2 q2 e2 H2 g xk dQ ?_;exact Nat.le_trans List.countP_le_length (by simp[F])
theorem Qblw {c:Code}{Q:Exit->Act->World->Prop}(I:Nat->Act->World->Prop)(h₀:∃n,I n a w)
  (round:∀n a w,I n a w->c.wp P (Exit.then (λa' w'=>∃m,m<n/\I m a' w') Q) a w):(Code.loop c).wp P Q a w:=by
 intro b k cs;have key:∀n a w,I n a w->∃e a' w',Q e a' w'/\Arrives P (lone (b.at a (.code c::.inLoop c::k)) cs w) b k cs e a' w':=by
  intro n
  induction n using Nat.strongRecOn with
  |_ n ih=>
   intro a w hI;obtain⟨e,a₁,w₁,hq,dD⟩:=round n a w hI b (.inLoop c::k) cs
   cases e with
   |normal=>
    obtain⟨m,ae,hI₁⟩:=hq;obtain⟨e₂,a₂,w₂,hq₂,sE⟩:=ih m ae a₁ w₁ hI₁;exact⟨e₂,a₂,w₂,hq₂,.of_steps (Steps.trans dD (.one step_inLoop)) sE⟩
   |exit id=>exact⟨_,a₁,w₁,hq,.pass (x:=.inLoop c) rfl (λ_ _=>.inl ZF) dD⟩
   |goto l=>exact⟨_,a₁,w₁,hq,.pass (x:=.inLoop c) rfl (λ_ _=>.inl ZF) dD⟩
   |ret=>exact⟨_,a₁,w₁,hq,.pass (x:=.inLoop c) rfl (λ_ _=>.inl ZF) dD⟩
   |panic ch=>exact⟨_,a₁,w₁,hq,.pass (x:=.inLoop c) rfl (λ_ _=>.inl ZF) dD⟩
   |outgrown=>exact⟨_,a₁,w₁,hq,.pass (x:=.inLoop c) rfl (λ_ _=>.inl ZF) dD⟩
 obtain⟨n,hn⟩:=h₀;obtain⟨e,a',w',hq,dD⟩:=key n a w hn;exact⟨e,a',w',hq,.of_steps (.one step_loop) dD⟩
def xm:Exit->Option X
 |.normal=>some .nrm
 |.exit id=>some (.exit id)
 |.ret=>some .ret
 |.panic [{ v:=v,recovered:=false,goexit:=false }]=>some (.pan v)
 |_=>none
theorem Di {ch:List PanicEntry}{x:X}(h:xm (.panic ch)=some x):∃v,x=.pan v/\ch=[{ v:=v,recovered:=false }]:=by
 unfold xm at h;split at h <;> simp_all
def C6 (n:Nat)(H:Heap)(g:G)(w:World)(Q:X->Env->Heap->Prop)(x:Exit)(a:Act)(w':World):Prop:=
 ∃x',xm x=some x'/\Post n H g w (Q x') a w'
def mC (P:Program)(n:Nat):Code->SC->Bool
 |c,.seq .gh s=>mC P n c s
 |.skip,.skip=>true
 |.region _ ops false,.reg its _=>mIts P n ops 0 its
 |.region _ ops true,.a7 fa ord its _=>Eu P n ops fa ord its
 |.seq c d,.seq s t=>mC P n c s&&mC P n d t
 |.cond x c d,.cond y s t=>mO y x&&mC P n c s&&mC P n d t
 |.block i c,.block j s=>i == j&&mC P n c s
 |.loop c,.loop s=>mC P n c s
 |.exit i,.exit j=>i == j
 |.ret,.ret=>true
 |.scope c,.scope s=>mC P n c s
 |.label _,.skip=>true
 |_,_=>false
theorem HZ {ks:List Nat}(h:EnvOk w g e a):EnvOk w g (trim ks e) a:=by
 intro t;unfold trim
 induction ks with
 |nil=>exact .unk _
 |cons k ks ih=>
  simp only[Jp,lk];split
  ·rename_i ht;subst ht;exact h t
  ·exact ih
theorem Post.trans {n:Nat}{H':Heap}{g':G}{w' w'':World}{K:Env->Heap->Prop}(h:Stp H g w H' g' w')(k:Post n H' g' w' K a w''):Post n H g w K a w'':=by
 obtain⟨e2,H2,g2,k1,k2,k3,k4,k5⟩:=k;exact⟨e2,H2,g2,k1,h.trans k2,k3,k4,k5⟩
theorem Qbhv (Ab:P.follows .mixedOrders=true){n:Nat}:∀(s:SC) (c:Code) (Q:X->Env->Heap->Prop) (e:Env) (H:Heap),mC P n c s=true->Ad P s Q e H->
  ∀(g:G) (w:World) (a:Act),Sat H g w->EnvOk w g e a->a.defers=[]->a.tmps.size=n->c.wp P (C6 n H g w Q) a w:=by
 intro s
 induction s with
 |skip=>
  intro c Q e H hm hc g w a hs he hd hn
  cases c with
  |skip=>exact wp_skip ⟨.nrm,rfl,e,H,g,hc,.refl hs,he,hd,hn⟩
  |label l=>exact wp_label ⟨.nrm,rfl,e,H,g,hc,.refl hs,he,hd,hn⟩
  |_=>simp[mC]at hm
 |reg its keep=>
  intro c Q e H hm hc g w a hs he hd hn
  cases c with
  |region id ops dr'=>
   cases dr' with
   |true=>simp[mC]at hm
   |false=>
    simp only[mC]at hm;simp only[Ad]at hc;have hQ:∀a' w',Post n H g w (λe' H'=>Q .nrm (trim keep e') H') a' w'->C6 n H g w Q .normal a' w':=by
     rintro a' w' ⟨e2,H2,g2,k1,k2,k3,k4,k5⟩;exact⟨.nrm,rfl,_,H2,g2,k1,k2,HZ k3,k4,k5⟩
    have hP:∀v a' w',Post n H g w (λ_ H'=>X.panK Q v H') a' w'->C6 n H g w Q (.panic [{ v:=v,recovered:=false }]) a' w':=by
     rintro v a' w' ⟨e2,H2,g2,k1,k2,k3,k4,k5⟩;exact⟨.pan v,rfl,[],H2,g2,k1,k2,λt=>.unk _,k4,k5⟩
    have hl:=I4 its 0 hm;refine wp_region ?_;rw[List.range_eq_range',<-hl,Jap];exact Q81 hQ hP its 0 e H g w a hm (.refl hs) he hn hd hc
  |_=>simp[mC]at hm
 |a7 fa ord its keep=>
  intro c Q e H hm hc g w a hs he hd hn
  cases c with
  |region id ops dr'=>
   cases dr' with
   |false=>simp[mC]at hm
   |true=>
    simp only[mC]at hm;simp only[Ad]at hc;have hQ:∀a' w',Post n H g w (λe' H'=>Q .nrm (trim keep e') H') a' w'->C6 n H g w Q .normal a' w':=by
     rintro a' w' ⟨e2,H2,g2,k1,k2,k3,k4,k5⟩;exact⟨.nrm,rfl,_,H2,g2,k1,k2,HZ k3,k4,k5⟩
    have hP:∀v a' w',Post n H g w (λ_ H'=>X.panK Q v H') a' w'->C6 n H g w Q (.panic [{ v:=v,recovered:=false }]) a' w':=by
     rintro v a' w' ⟨e2,H2,g2,k1,k2,k3,k4,k5⟩;exact⟨.pan v,rfl,[],H2,g2,k1,k2,λt=>.unk _,k4,k5⟩
    exact Qbhx Ab hm hs he hn hd hc hQ hP
  |_=>simp[mC]at hm
 |seq s t ihs iht=>
  intro c Q e H hm hc g w a hs he hd hn;by_cases hg:s=.gh
  ·subst hg;have em:mC P n c t=true:=by simpa[mC]using hm
   simp only[Ad]at hc;obtain⟨e1,H1,h1,h2⟩:=hc;obtain⟨g1,k1,k2⟩:=h1 g w (λt=>a.tmps.getD t undef) hs he;refine wp_mono (iht c Q e1 H1 em h2 g1 w a k1.sat k2 hd hn) ?_;rintro x a' w' ⟨x',q1,q2⟩;exact⟨x',q1,q2.trans k1⟩
  ·cases c with
   |seq c d=>
    have em:mC P n c s=true/\mC P n d t=true:=by
     cases s <;> first|(exact absurd rfl hg)|simpa[mC]using hm
    simp only[Ad]at hc;refine wp_seq (wp_mono (ihs c _ e H em.1 hc g w a hs he hd hn) ?_);rintro x a' w' ⟨x',q1,e2,H2,g2,k1,k2,k3,k4,k5⟩
    cases x with
    |normal=>
     simp only[xm,Jh]at q1;subst q1;refine wp_mono (iht d Q e2 H2 em.2 k1 g2 w' a' k2.sat k3 k4 k5) ?_;rintro x2 a2 w2 ⟨x2',r1,r2⟩;exact⟨x2',r1,r2.trans k2⟩
    |exit id=>
     simp only[xm,Jh]at q1;subst q1;exact⟨_,rfl,e2,H2,g2,k1,k2,k3,k4,k5⟩
    |ret=>
     simp only[xm,Jh]at q1;subst q1;exact⟨_,rfl,e2,H2,g2,k1,k2,k3,k4,k5⟩
    |panic ch=>
     obtain⟨v,rfl,rfl⟩:=Di q1;exact⟨_,rfl,e2,H2,g2,k1,k2,k3,k4,k5⟩
    |_=>simp[xm]at q1
   |_=>cases s <;> first|(exact absurd rfl hg)|simp[mC]at hm
 |cond y s t ihs iht=>
  intro c Q e H hm hc g w a hs he hd hn;cases c <;> simp[mC]at hm
  rename_i x c d
  obtain⟨⟨h1,h2⟩,h3⟩:=hm;simp only[Ad]at hc;obtain⟨b,k1,k2,k3⟩:=hc;have hr:=HR he h1;rw[k1]at hr;have hb:=hr.aK.bx;exact wp_cond_split hb (λng=>ihs c Q e H h2 (k2 ng) g w a hs he hd hn) (λng=>iht d Q e H h3 (k3 ng) g w a hs he hd hn)
 |block id s ih=>
  intro c Q e H hm hc g w a hs he hd hn;cases c <;> simp[mC]at hm
  rename_i id' c
  obtain⟨rfl,h2⟩:=hm;simp only[Ad]at hc;refine wp_block (wp_mono (ih c _ e H h2 hc g w a hs he hd hn) ?_);rintro x a' w' ⟨x',q1,e2,H2,g2,k1,k2⟩
  cases x with
  |normal=>
   simp only[xm,Jh]at q1;subst q1;exact⟨.nrm,rfl,e2,H2,g2,k1,k2⟩
  |exit id2=>
   simp only[xm,Jh]at q1;subst q1;simp only[X.inBlock]at k1;simp only[Exit.inBlock];split
   ·rename_i h;subst h;rw[if_pos rfl]at k1;exact⟨.nrm,rfl,e2,H2,g2,k1,k2⟩
   ·rename_i h;rw[if_neg h]at k1;exact⟨.exit id2,rfl,e2,H2,g2,k1,k2⟩
  |ret=>
   simp only[xm,Jh]at q1;subst q1;exact⟨.ret,rfl,e2,H2,g2,k1,k2⟩
  |panic ch=>
   obtain⟨v,rfl,rfl⟩:=Di q1;exact⟨.pan v,rfl,e2,H2,g2,k1,k2⟩
  |_=>simp[xm]at q1
 |loop s ih=>
  intro c Q e H hm hc g w a hs he hd hn;cases c <;> simp[mC]at hm
  rename_i c
  simp only[Ad]at hc;obtain⟨I,⟨m0,h0⟩,oL⟩:=hc;refine Qblw (λm a' w'=>Post n H g w (I m) a' w') ⟨m0,e,H,g,h0,.refl hs,he,hd,hn⟩ ?_;rintro m a1 w1 ⟨e1,H1,g1,k1,k2,k3,k4,k5⟩;refine wp_mono (ih c _ e1 H1 hm (oL m e1 H1 k1) g1 w1 a1 k2.sat k3 k4 k5) ?_;rintro x a' w' ⟨x',q1,e2,H2,g2,r1,r2,r3,r4,r5⟩
  cases x with
  |normal=>
   simp only[xm,Jh]at q1;subst q1;obtain⟨m',ae,hI⟩:=r1;exact⟨m',ae,e2,H2,g2,hI,k2.trans r2,r3,r4,r5⟩
  |exit id=>
   simp only[xm,Jh]at q1;subst q1;exact⟨_,rfl,e2,H2,g2,r1,k2.trans r2,r3,r4,r5⟩
  |ret=>
   simp only[xm,Jh]at q1;subst q1;exact⟨_,rfl,e2,H2,g2,r1,k2.trans r2,r3,r4,r5⟩
  |panic ch=>
   obtain⟨v,rfl,rfl⟩:=Di q1;exact⟨_,rfl,e2,H2,g2,r1,k2.trans r2,r3,r4,r5⟩
  |_=>simp[xm]at q1
 |exit id=>
  intro c Q e H hm hc g w a hs he hd hn;cases c <;> simp[mC]at hm;subst hm;exact wp_exit ⟨.exit _,rfl,e,H,g,hc,.refl hs,he,hd,hn⟩
 |ret=>
  intro c Q e H hm hc g w a hs he hd hn;cases c <;> simp[mC]at hm;exact wp_ret ⟨.ret,rfl,e,H,g,hc,.refl hs,he,hd,hn⟩
 |gh=>
  intro c Q e H hm hc g w a hs he hd hn;cases c <;> simp[mC]at hm
 |scope s ih=>
  intro c Q e H hm hc g w a hs he hd hn;cases c <;> simp[mC]at hm
  rename_i c
  simp only[Ad]at hc;refine wp_scope_straight (wp_mono (ih c Q e H hm hc g w a hs he hd hn) ?_);rintro x a' w' ⟨x',q1,q2⟩
  cases x with
  |goto l=>simp[xm]at q1
  |_=>exact⟨x',q1,q2⟩
def mR (P:Program):ResultVar->RS->Bool
 |.tmp t,.tmp t'=>t == t'
 |.cell t ty,.cell t' n agg=>t == t'&&C4 P ty n agg
 |_,_=>false
def mRs (P:Program):List ResultVar->List RS->Bool
 |[],[]=>true
 |x::r,y::s=>mR P x y&&mRs P r s
 |_,_=>false
def mFn (P:Program)(f:FuncId)(nargs n:Nat)(s:SC)(rs:List RS):Bool:=
 fnOk P f&&(match P.funcs[f]? with
  |some fn=>(match fn.body with
   |some c=>fn.ntmps == n&&decide (nargs<=n)&&mC P n c s&&mRs P fn.results.toList rs
   |none=>false)
  |none=>false)
theorem VJ {n:Nat}{x:ResultVar}{y:RS}(hm:mR P x y=true)(hs:Sat H g w)(he:EnvOk w g e a)(ho:y.op.obl true e H) :
  ∃v,(match x with
   |.tmp t=>(pure (a.tmps.getD t undef):Sem Value)
   |.cell t ty=>do loadVar ty (<-asAddr (a.tmps.getD t undef))).run P w=.ok v w/\RepV w g (y.op.val e H) v:=by
 cases x with
 |tmp t=>
  cases y with
  |tmp t'=>
   simp[mR]at hm;subst hm;have hr:=An (x:=.t t) (y:=.tmp t) he (by simp[mO]) rfl ho;exact⟨a.tmps.getD t undef,rfl,hr⟩
  |cell=>simp[mR]at hm
 |cell t ty=>
  cases y with
  |tmp=>simp[mR]at hm
  |cell t' n agg=>
   simp only[mR,Js,beq_iff_eq]at hm;obtain⟨rfl,h2⟩:=hm;obtain⟨d,i,k1,k2,k3,k4,k5⟩:=Q6j h2;obtain ⟨v, w', g', r1, r2, r3, _⟩ := s_ld (o := { dst := none, op := .load ty (.tmp t), type := 0, pos := "", after := #[], guard := none }) (x := .t t) (x' := .tmp t) rfl k1 k2 k3 k4 k5 (by simp [mO]) hs he rfl ho
   simp only[RS.op,FOp.obl]at ho;obtain⟨o1,o2,o3,o4,o5⟩:=ho;have jM:=An (x:=.t t) (y:=.tmp t) he (by simp[mO]) rfl o1;rw[Bo o2]at jM;obtain⟨b,q,hv,_⟩:=KV hs jM.aK o3;have fx:a.tmps.getD t undef=.pointer (some ⟨b,q,none⟩):=hv;have cj := Oh (P := P) (o := { dst := none, op := .load ty (.tmp t), type := 0, pos := "", after := #[], guard := none }) (x := .t t) (x' := .tmp t) rfl k1 k2 k3 k4 k5 (by simp [mO]) hs he rfl ⟨o1, o2, o3, o4, o5⟩
   obtain⟨v2,q1,q2⟩:=cj;refine⟨v2,?_,q2⟩;simp only[execOp,Instr.loadAt,Act.eval,fx,Instr.sureAddr,Sem.run_bind,Sem.run_pure,Result.andThen_ok]at q1;simp only[fx,asAddr,Sem.run_bind,Sem.run_pure,Result.andThen_ok]
   cases hl:(loadVar ty ⟨b,q,none⟩).run P w with
   |ok u w2=>rw[hl]at q1;simp at q1;obtain⟨rfl,rfl⟩:=q1;rfl
   |halt h w2=>rw[hl]at q1;simp at q1
def rRun (tmps:Array Value):ResultVar->Sem Value
 |.tmp t=>pure (tmps.getD t undef)
 |.cell a t=>do loadVar t (<-asAddr (tmps.getD a undef))
theorem Qa9z {P:Program}{w:World}{tmps:Array Value}:∀(l:List ResultVar) (vs:List Value),l.length=vs.length->
  (∀(j:Nat) (x:ResultVar) (v:Value),l[j]? = some x->vs[j]? = some v->(rRun tmps x).run P w=.ok v w)->(l.mapM (rRun tmps)).run P w=.ok vs w:=by
 intro l
 induction l with
 |nil=>intro vs hl _;cases vs with
  |nil=>simp
  |cons=>simp at hl
 |cons x r ih=>
  intro vs hl h
  cases vs with
  |nil=>simp at hl
  |cons v vs=>
   have h0:=h 0 x v rfl rfl;have ih':=ih vs Zaf λj y u h1 h2=>h (j+1) y u Zaw Zag;simp only[List.mapM_cons,Sem.run_bind,h0,Result.andThen_ok,ih',Sem.run_pure]
theorem XT {n:Nat}:∀(l:List ResultVar) (rs:List RS),mRs P l rs=true->Sat H g w->EnvOk w g e a->(∀r∈rs,r.op.obl true e H)->
  ∃vs:List Value,l.length=vs.length/\vs.length=rs.length/\(∀(j:Nat) (x:ResultVar) (v:Value),l[j]? = some x->vs[j]? = some v->(rRun a.tmps x).run P w=.ok v w)/\
   (∀(j:Nat) (x:V) (u:Value),(rs.map λr=>r.op.val e H)[j]? = some x->vs[j]? = some u->RepV w g x u):=by
 intro l
 induction l with
 |nil=>
  intro rs hm hs he ho
  cases rs with
  |nil=>exact⟨[],rfl,rfl,ZF,ZF⟩
  |cons=>simp[mRs]at hm
 |cons x r ih=>
  intro rs hm hs he ho
  cases rs with
  |nil=>simp[mRs]at hm
  |cons y rs=>
   simp only[mRs,Js]at hm;obtain⟨v,h1,h2⟩:=VJ (n:=n) hm.1 hs he (ho y ZF);obtain⟨vs,k1,k2,k3,k4⟩:=ih rs hm.2 hs he λz hz=>ho z Za1;refine⟨v::vs,ZaH,by simp[k2],?_,?_⟩
   ·intro j z u hz hu
    cases j with
    |zero=>
     simp at hz hu;subst hz;subst hu;exact h1
    |succ j=>exact k3 j z u ZaG (by simpa using hu)
   ·intro j z u hz hu
    cases j with
    |zero=>
     simp at hz hu;subst hz;subst hu;exact h2
    |succ j=>exact k4 j z u ZaG (by simpa using hu)
theorem Qbjc {fn:Func}{rs:List RS}(hm:mRs P fn.results.toList rs=true)(hs:Sat H g w)(he:EnvOk w g e a){K:V->Heap->Prop}(ho:Aa rs e H K) :
  ∃v x,(results fn a.tmps).run P w=.ok v w/\K x H/\RepV w g x v:=by
 obtain⟨h1,h2⟩:=ho;obtain⟨vs,k1,k2,k3,k4⟩:=XT (n:=0) _ _ hm hs he h1;have hr:=Qa9z (P:=P) (w:=w) (tmps:=a.tmps) _ _ k1 k3;have cO:(results fn a.tmps).run P w=.ok (if h:vs.toArray.size=1 then vs.toArray[0]else .tuple vs.toArray) w:=by
  have:results fn a.tmps=(do let vs <-fn.results.mapM (rRun a.tmps);pure (if h:vs.size=1 then vs[0]else .tuple vs)):=by
   unfold results;rfl
  rw[this,Array.mapM_eq_mapM_toList];simp only[Sem.run_bind,Sem.run_map,hr,Result.andThen_ok,Sem.run_pure]
 by_cases hl:vs.length=1
 ·obtain⟨v,rfl⟩:∃v,vs=[v]:=Jag.mp hl;obtain⟨r,rfl⟩:∃r,rs=[r]:=Jag.mp ZD;exact⟨v,_,by simpa using cO,h2,k4 0 _ v ZF rfl⟩
 ·have bj:¬vs.toArray.size=1:=Zaf
  rw[dif_neg bj]at cO;refine⟨_,.tup (rs.map λr=>r.op.val e H),cO,?_,.tup _ _ (by simp[k2]) k4⟩;split at h2
  ·rename_i r;simp at k2;omega
  ·exact h2
def Q4 (rs:List RS)(K:V->Heap->Prop):X->Env->Heap->Prop
 |.nrm,e,H=>Aa rs e H K
 |.ret,e,H=>Aa rs e H K
 |.exit _,_,_=>False
 |.pan v,_,H=>K (.pn v) H
theorem V7:∀(args:List V) (i t:Nat),lk t (zipE i args)=if i<=t then args.getD (t-i) .unk else .unk:=by
 intro args
 induction args with
 |nil=>intro i t;simp[zipE,lk]
 |cons v r ih=>
  intro i t;simp only[zipE,lk,ih];split
  ·rename_i h;subst h;simp
  ·rename_i h
   split
   ·rw[if_pos ZD];have:t-i=(t-(i+1))+1:=ZD;rw[this];simp
   ·rw[if_neg ZD]
theorem Qc (Ab:P.follows .mixedOrders=true){f n:Nat}{s:SC}{rs:List RS}{args:List V}{H:Heap}{K:V->Heap->Prop}
  (hm:mFn P f args.length n s rs=true) (hc:Ad P s (Q4 rs K) (zipE 0 args) H):Qv P f args H K:=by
 simp only[mFn,Js]at hm;obtain⟨ay,hm⟩:=hm;refine⟨ay,?_⟩;intro g w vs hs hl hv
 cases hf:P.funcs[f]? with
 |none=>rw[hf]at hm;simp at hm
 |some fn=>
  rw[hf]at hm;simp only at hm
  cases hb:fn.body with
  |none=>rw[hb]at hm;simp at hm
  |some c=>
   rw[hb]at hm;simp only[Js,beq_iff_eq,decide_eq_true_eq]at hm;obtain⟨⟨⟨h1,h2⟩,h3⟩,h4⟩:=hm;refine calls_of_wp hf hb ?_;have he:EnvOk w g (zipE 0 args) { tmps:=vs.toArray++Array.replicate (fn.ntmps-vs.toArray.size) undef,defers:=[] }:=by
    intro t;rw[V7,if_pos (Jav _),Nat.sub_zero];by_cases ht:t<args.length
    ·have xP:t<vs.length:=ZD;have hg:(vs.toArray++Array.replicate (fn.ntmps-vs.toArray.size) undef).getD t undef=vs[t]:=by
      simp[Array.getD,xP,Array.getElem_append];intro h;omega
     rw[hg];exact hv t _ _ (by rw[Je,Jw ht];rfl) (Jw xP)
    ·rw[Je,List.getElem?_eq_none ZD];exact .unk _
   refine wp_mono (Qbhv Ab s c _ (zipE 0 args) H h3 hc g w _ hs he rfl ZJ) ?_;rintro x a' w' ⟨x',q1,e2,H2,g2,k1,k2,k3,k4,k5⟩;have key:Aa rs e2 H2 K->a'.defers=[]/\∃v,(results fn a'.tmps).run P w'=.ok v w'/\((∃v' x H' g',Ending.returned v=.returned v'/\K x H'/\Stp H g w H' g' w'/\RepV w' g' x v')\/(∃v' H' g',Ending.returned v=.panicked [{ v:=v',recovered:=false }]/\K (.pn v') H'/\Stp H g w H' g' w')):=by
    intro uL;obtain⟨v,x,r1,r2,r3⟩:=Qbjc h4 k2.sat k3 uL;exact⟨k4,v,r1,.inl ⟨v,x,H2,g2,rfl,r2,k2,r3⟩⟩
   cases x with
   |normal=>
    simp only[xm,Jh]at q1;subst q1;exact key k1
   |ret=>
    simp only[xm,Jh]at q1;subst q1;exact key k1
   |exit id=>
    simp only[xm,Jh]at q1;subst q1;exact k1.elim
   |panic ch=>
    obtain⟨v,rfl,rfl⟩:=Di q1;exact⟨k4,.inr ⟨v,H2,g2,rfl,k1,k2⟩⟩
   |_=>simp[xm]at q1
end Go.AE
namespace Go.AE
variable {P:Program}{H:Heap}{e:Env}
def X.sq (P:Program)(b:SC)(Q:X->Env->Heap->Prop):X->Env->Heap->Prop:=X.next (Ad P b Q) Q
theorem Xr {KP:Value->Heap->Prop}{K:V->Heap->Prop}{x:C}:B4 KP K (.c x) H=K (.c x) H:=rfl
theorem Y1 {KP:Value->Heap->Prop}{K:V->Heap->Prop}{x:List C}:B4 KP K (.ag x) H=K (.ag x) H:=rfl
theorem Fd {KP:Value->Heap->Prop}{K:V->Heap->Prop}{x:List V}:B4 KP K (.tup x) H=K (.tup x) H:=rfl
theorem Qbq0 {KP:Value->Heap->Prop}{K:V->Heap->Prop}:B4 KP K .unk H=K .unk H:=rfl
theorem Y0 {KP:Value->Heap->Prop}{K:V->Heap->Prop}{v:Value}:B4 KP K (.pn v) H=KP v H:=rfl
theorem TW {b:SC}{Q:X->Env->Heap->Prop}:X.sq P b Q .nrm e H=Ad P b Q e H:=rfl
theorem TV {b:SC}{Q:X->Env->Heap->Prop}:X.sq P b Q .ret e H=Q .ret e H:=rfl
theorem Xv {b:SC}{Q:X->Env->Heap->Prop}{i:Nat}:X.sq P b Q (.exit i) e H=Q (.exit i) e H:=rfl
theorem Vw {i:Nat}{Q:X->Env->Heap->Prop}:X.inBlock i Q .nrm e H=Q .nrm e H:=rfl
theorem Vv {i:Nat}{Q:X->Env->Heap->Prop}:X.inBlock i Q .ret e H=Q .ret e H:=rfl
theorem XE {i:Nat}{Q:X->Env->Heap->Prop}:X.inBlock i Q (.exit i) e H=Q .nrm e H:=by simp[X.inBlock]
theorem Qbr5 {i j:Nat}{Q:X->Env->Heap->Prop}(h:(j == i)=false):X.inBlock i Q (.exit j) e H=Q (.exit j) e H:=by
 have:j≠i:=ZP
 simp[X.inBlock,this]
theorem Qg {a b:SC}{Q:X->Env->Heap->Prop}(h:Ad P a (X.sq P b Q) e H):Ad P (.seq a b) Q e H:=h
theorem Qbof {K K':Env->Heap->Prop}{Q:X->Env->Heap->Prop}:X.next K (X.next K' Q)=X.next K Q:=by
 funext x e H
 cases x <;> rfl
theorem Q3 {a b c:SC}{Q:X->Env->Heap->Prop}(h:Ad P (.seq a (.seq b c)) Q e H):Ad P (.seq (.seq a b) c) Q e H:=by
 simp only[Ad]at h⊢;rw[Qbof];exact h
theorem Qp {its:List Item}{keep:List Nat}{Q:X->Env->Heap->Prop}(h:regT P its e H (X.panK Q) λe' H'=>Q .nrm (trim keep e') H'):Ad P (.reg its keep) Q e H:=h
theorem Aw {fa:Nat}{ord:List Nat}{its:List Item}{keep:List Nat}{Q:X->Env->Heap->Prop}(h:Bn P its e H (X.panK Q) λe' H'=>Q .nrm (trim keep e') H'):Ad P (.a7 fa ord its keep) Q e H:=h
theorem Qa {its:List Item}{keep:List Nat}{b:SC}{Q:X->Env->Heap->Prop}(h:regT P its e H (X.panK Q) λe' H'=>Ad P b Q (trim keep e') H'):Ad P (.seq (.reg its keep) b) Q e H:=h
theorem Aj {fa:Nat}{ord:List Nat}{its:List Item}{keep:List Nat}{b:SC}{Q:X->Env->Heap->Prop}(h:Bn P its e H (X.panK Q) λe' H'=>Ad P b Q (trim keep e') H'):Ad P (.seq (.a7 fa ord its keep) b) Q e H:=h
theorem Qf {t:Opd}{a b:SC}{Q:X->Env->Heap->Prop}{c:Bool}(hc:t.raw e=.c (.bool c))(h1:c=true->Ad P a Q e H)(h2:c=false->Ad P b Q e H):Ad P (.cond t a b) Q e H:=⟨c,hc,h1,h2⟩
theorem Qd {i:Nat}{a:SC}{Q:X->Env->Heap->Prop}(h:Ad P a (X.inBlock i Q) e H):Ad P (.block i a) Q e H:=h
theorem Qq {i:Nat}{Q:X->Env->Heap->Prop}(h:Q (.exit i) e H):Ad P (.exit i) Q e H:=h
theorem Qk {Q:X->Env->Heap->Prop}(h:Q .ret e H):Ad P .ret Q e H:=h
theorem Qh {Q:X->Env->Heap->Prop}(h:Q .nrm e H):Ad P .skip Q e H:=h
theorem Qs {a:SC}{Q:X->Env->Heap->Prop}(I:Nat->Env->Heap->Prop)(n:Nat)(h0:I n e H)
  (h:∀n e1 H1,I n e1 H1->Ad P a (X.next (λe2 H2=>∃m,m<n/\I m e2 H2) Q) e1 H1):Ad P (.loop a) Q e H:=⟨I,⟨n,h0⟩,h⟩
theorem Qbr1 {e:Env}:gdO e none=True:=rfl
theorem Qbr0 {e:Env}:gdB e none=true:=rfl
theorem Qbr2 {p:Bool}{v:V}:gdV none p v=v:=rfl
theorem Qbr3 {p:Bool}{v:V}{x:Nat×Bool}:gdV (some x) p v=.gd p v:=rfl
theorem YV {e:Env}:trim [] e=[]:=rfl
theorem Qbq5 {k:Nat}{ks:List Nat}{e:Env}:trim (k::ks) e=(k,lk k e)::trim ks e:=rfl
theorem YU {a:Prop}:(true=true->a)=a:=ZF
theorem Qbmk {a:Prop}:(false=true->a)=True:=ZF
theorem Qbq7 {a:Prop}:(true=false->a)=True:=ZF
theorem Qbh1 {a:Prop}:(false=false->a)=a:=ZF
theorem Vq {a:Prop}:(a/\True)=a:=ZF
theorem Qb0w {a:Prop}:(True/\a)=a:=ZF
theorem Qb0x {a:Prop}:(True->a)=a:=ZF
theorem Qb0c {a:Prop}:(a->True)=True:=ZF
theorem b_f {b:Bool}:(b == false) = !b:=by cases b <;> rfl
theorem b_t {b:Bool}:(b == true)=b:=by cases b <;> rfl
theorem Qbr8 {a:Prop}:(a->a)=True:=ZF
theorem Qbmp {a b:Prop}:(a->b->a)=True:=propext ⟨λ_=>trivial,λ_ h _=>h⟩
theorem Qbmq {a b:Prop}:(a->a/\b)=(a->b):=propext ⟨λh x=>(h x).2,λh x=>⟨x,h x⟩⟩
theorem XD {a b:Prop}:(a->a->b)=(a->b):=ZF
theorem Qa9p {α:Type}{p:α->Prop}:(∀x∈([]:List α),p x)=True:=ZF
def CG (H:Heap)(p:C)(vs:List C)(K:V->Heap->Prop):Prop:=
 match p with
 |.ptr l k=>match H l with
  |.st cells=>k+vs.length<=cells.length/\∀H',H'=H.set l (.st (CJ cells k vs))->K .unk H'
  |_=>False
 |.ep (.ah l sz st n) z i k=>match H l with
  |.vec y rows=>y=sz/\z=sz/\i<n/\st+n<=rows.length/\k+vs.length<=sz/\
    ∀H',H'=H.set l (.vec sz (rows.set (st+i) (CJ (rows.getD (st+i) []) k vs)))->K .unk H'
  |_=>False
 |_=>False
def appQ (H:Heap)(sz:Nat)(a b:C)(K:V->Heap->Prop):Prop:=
 aZ H b/\b.aN=sz/\match a with
 |.sl true z rows=>z=sz/\(rows=[]\/rowsOf H b≠[])/\(∀r∈rows++rowsOf H b,an r=true)/\rows.length+ax b<=LIM/\
   ∀l,H l=.none->∀H',H'=H.set l (.vec sz (rows++rowsOf H b))->K (.c (.ah l sz 0 (rows.length+ax b))) H'
 |.ah l z st n=>match H l with
  |.vec y rows=>z=sz/\y=sz/\st+n<=rows.length/\(∀r∈rowsOf H b,an r=true)/\n+ax b<=LIM/\
    ∀l',(H.set l .none) l'=.none->∀H',H'=(H.set l .none).set l' (.vec sz ((rows.drop st).take n++rowsOf H b))->
     K (.c (.ah l' sz 0 (n+ax b))) H'
  |_=>False
 |_=>False
def updQ (H:Heap)(tag:Nat)(m k:C)(v:V)(K:V->Heap->Prop):Prop:=
 match m with
 |.mp l=>match H l with
  |.map n es=>Bu tag k es/\es.length+1<=LIM/\∀H',H'=H.set l (.map (n+1) (updE k v es))->K .unk H'
  |_=>False
 |_=>False
def delQ (H:Heap)(tag:Nat)(m k:C)(K:V->Heap->Prop):Prop:=
 match m with
 |.mp l=>match H l with
  |.map n es=>Bu tag k es/\∀H',H'=H.set l (.map (n+1) (delE k es))->K .unk H'
  |_=>False
 |.mnil=>Bu tag k []/\K .unk H
 |_=>False
theorem Bl {α:Type}{a:α}{p:α->Prop}:(∀x,x=a->p x)=p a:=propext ⟨λh=>h a rfl,λh x hx=>hx▸h⟩
section
variable {p:Bool}{K:V->Heap->Prop}
theorem Qbq1 {a:C}{vs:List C}:BH H a vs K=CG H a vs K:=by
 cases a with
 |ptr l k=>simp only[BH,CG];cases hh:H l <;> simp only[hh,Bl]
 |ep s z i k=>
  cases s with
  |ah l sz st n=>simp only[BH,CG];cases hh:H l <;> simp only[hh,Bl]
  |_=>rfl
 |_=>rfl
theorem Yi {sz:Nat}{a b:C}:appT H sz a b K=appQ H sz a b K:=by
 unfold appT appQ;refine congrArg (And _) (congrArg (And _) ?_)
 cases a with
 |sl fl z rows=>cases fl <;> simp only[Bl]
 |ah l z st n=>simp only[];cases hh:H l <;> simp only[hh,Bl]
 |_=>rfl
theorem Xm {tag:Nat}{m k:C}{v:V}:updT H tag m k v K=updQ H tag m k v K:=by
 cases m with
 |mp l=>simp only[updT,updQ];cases hh:H l <;> simp only[hh,Bl]
 |_=>rfl
theorem Yb {tag:Nat}{m k:C}:delT H tag m k K=delQ H tag m k K:=by
 cases m with
 |mp l=>simp only[delT,delQ];cases hh:H l <;> simp only[hh,Bl]
 |_=>rfl
theorem Qbmg {cells:List C}:(EOp.alloc cells).eff P p e H K=∀l,H l=.none->∀H',H'=H.set l (.st cells)->K (.c (.ptr l 0)) H':=Zao
theorem Qbrp {a:Opd}:(EOp.boxm a).eff P p e H K=(a.fine p e/\(a.v e).cells≠[]/\∀l,H l=.none->∀H',H'=H.set l (.st (a.v e).cells)->K (.c (.ptr l 0)) H'):=Zao
theorem XM {n:Nat}{a v:Opd}:(EOp.sto n a v).eff P p e H K=(a.fine p e/\v.fine p e/\(a.v e).isC/\(v.v e).cells.length=n/\0<n/\CG H (a.v e).c1 (v.v e).cells K):=by simp only[EOp.eff,Qbq1]
theorem Yr {sz:Nat}{a b:Opd}:(EOp.app sz a b).eff P p e H K=(a.fine p e/\b.fine p e/\(a.v e).isC/\(b.v e).isC/\appQ H sz (a.v e).c1 (b.v e).c1 K):=by simp only[EOp.eff,Yi]
theorem Ym {sz:Nat}{zero:List C}{n:Opd}:(EOp.mks sz zero n).eff P p e H K=(n.fine p e/\B8 (n.v e)/\0<=Ag (n.v e)/\Ag (n.v e)<=LIM/\
   ∀l,H l=.none->∀H',H'=H.set l (.vec sz (List.replicate (Ag (n.v e)).toNat zero))->K (.c (.ah l sz 0 (Ag (n.v e)).toNat)) H'):=Zao
theorem Yn:EOp.mkm.eff P p e H K=∀l,H l=.none->∀H',H'=H.set l (.map 0 [])->K (.c (.mp l)) H':=Zao
theorem XK {tag:Nat}{m k v:Opd}:(EOp.upd tag m k v).eff P p e H K=(m.fine p e/\k.fine p e/\v.fine p e/\(m.v e).isC/\(k.v e).isC/\(v.v e).cells≠[]/\updQ H tag (m.v e).c1 (k.v e).c1 (v.v e) K):=by simp only[EOp.eff,Xm]
theorem Yp {tag:Nat}{m k:Opd}:(EOp.del tag m k).eff P p e H K=(m.fine p e/\k.fine p e/\(m.v e).isC/\(k.v e).isC/\delQ H tag (m.v e).c1 (k.v e).c1 K):=by simp only[EOp.eff,Yb]
theorem Qbrs {m:Opd}:(EOp.clrm m).eff P p e H K=(m.fine p e/\match m.v e with
  |.c (.mp l)=>match H l with
   |.map n _=>∀H',H'=H.set l (.map (n+1) [])->K .unk H'
   |_=>False
  |_=>False):=by
 simp only[EOp.eff];refine congrArg (And _) ?_
 cases m.v e with
 |c x=>cases x with
  |mp l=>simp only[];cases hh:H l <;> simp only[hh,Bl]
  |_=>rfl
 |_=>rfl
theorem Qbrt {sz:Nat}{zero:List C}{m:Opd}:(EOp.clrs sz zero m).eff P p e H K=(m.fine p e/\match m.v e with
  |.c (.ah l z st n)=>z=sz/\match H l with
   |.vec y rows=>y=sz/\st+n<=rows.length/\∀H',H'=H.set l (.vec sz (rows.take st++List.replicate n zero++rows.drop (st+n)))->K .unk H'
   |_=>False
  |_=>False):=by
 simp only[EOp.eff];refine congrArg (And _) ?_
 cases m.v e with
 |c x=>cases x with
  |ah l z st n=>simp only[];refine congrArg (And _) ?_;cases hh:H l <;> simp only[hh,Bl]
  |_=>rfl
 |_=>rfl
theorem Qbrr {f:Nat}{args:List Opd}:(EOp.call f args).eff P p e H K=((∀x∈args,x.fine p e)/\Qv P f (args.map λx=>x.v e) H K):=rfl
theorem Qbmh {f:Opd}{args:List Opd}:(EOp.bB f args).eff P p e H K=(f.fine p e/\(∀x∈args,x.fine p e)/\match f.v e with
  |.c (.fn n caps)=>Qv P n ((args.map λx=>x.v e)++caps.map .c) H K
  |_=>False):=rfl
theorem XN {m:Opd}:(EOp.rng m).eff P p e H K=(m.fine p e/\match m.v e with
  |.c (.mp l)=>match H l with
   |.map n es=>es.Nodup/\∀i,H i=.none->∀H',H'=H.set i (.iter (some (l,n)) es none)->K (.c (.itr i)) H'
   |_=>False
  |.c .mnil=>∀i,H i=.none->∀H',H'=H.set i (.iter none [] none)->K (.c (.itr i)) H'
  |_=>False):=by
 simp only[EOp.eff];refine congrArg (And _) ?_
 cases m.v e with
 |c x=>cases x with
  |mp l=>simp only[];cases hh:H l <;> simp only[hh,Bl]
  |mnil=>simp only[Bl]
  |_=>rfl
 |_=>rfl
theorem Qbrw {a:Opd}:(EOp.rngs a).eff P p e H K=(a.fine p e/\match a.v e with
  |.c (.str s)=>∀i,H i=.none->∀H',H'=H.set i (.sit s 0)->K (.c (.itr i)) H'
  |_=>False):=by
 simp only[EOp.eff];refine congrArg (And _) ?_
 cases a.v e with
 |c x=>cases x with
  |str s=>simp only[Bl]
  |_=>rfl
 |_=>rfl
theorem Qbrv {it:Opd}:(EOp.nxts it).eff P p e H K=(it.fine p e/\match it.v e with
  |.c (.itr i)=>match H i with
   |.sit s q=>(s.length<=q->K (.tup [.c (.bool false)]) H)/\
     ∀(c:Int) (wd:Nat),q<s.length->1<=wd->((s.getD q 0).toNat<128->c=((s.getD q 0).toNat:Int)/\wd=1)->(128<=(s.getD q 0).toNat->128<=c)->
      ∀H',H'=H.set i (.sit s (q+wd))->K (.tup [.c (.bool true),.c (.int .i64 q),.c (.int .i32 c)]) H'
   |_=>False
  |_=>False):=by
 simp only[EOp.eff];refine congrArg (And _) ?_
 cases it.v e with
 |c x=>cases x with
  |itr i=>
   simp only[];cases hh:H i <;> simp only[Bl]
  |_=>rfl
 |_=>rfl
theorem XO {it:Opd}:(EOp.nxt it).eff P p e H K=(it.fine p e/\match it.v e with
  |.c (.itr i)=>match H i with
   |.iter none left _=>K (.tup [.c (.bool false)]) H
   |.iter (some (l,n)) left cur=>(∃es,H l=.map n es)/\(left=[]->K (.tup [.c (.bool false)]) H)/\
     ∀x left',x∈left->(∀y,y∈left'↔y∈left/\y≠x)->left'.Nodup->left'.length+1=left.length->
      ∀H',H'=H.set i (.iter (some (l,n)) left' (some x))->K (.tup [.c (.bool true),.c x.1,x.2]) H'
   |_=>False
  |_=>False):=by
 simp only[EOp.eff];refine congrArg (And _) ?_
 cases it.v e with
 |c x=>cases x with
  |itr i=>
   simp only[]
   cases hh:H i with
   |iter m left cur=>cases m with
    |none=>rfl
    |some y=>simp only[Bl]
   |_=>rfl
  |_=>rfl
 |_=>rfl
theorem Yo {it:Opd}:(EOp.ent it).eff P p e H K=(it.fine p e/\match it.v e with
  |.c (.itr i)=>match H i with
   |.iter (some (l,n)) left (some x)=>(∃es,H l=.map n es)/\K (.tup [.c x.1,x.2]) H
   |_=>False
  |_=>False):=rfl
def cpyQ (H:Heap)(sz:Nat)(a b:C)(K:V->Heap->Prop):Prop:=
 aZ H b/\b.aN=sz/\match a with
 |.ah l z st n=>match H l with
  |.vec y rows=>z=sz/\y=sz/\st+n<=rows.length/\ax b<=n/\(∀r∈rowsOf H b,an r=true)/\
    ∀H',H'=H.set l (.vec sz (rows.take st++rowsOf H b++rows.drop (st+ax b)))->K (.c (.int .i64 (ax b))) H'
  |_=>False
 |_=>False
theorem Yc {sz:Nat}{a b:C}:cpyT H sz a b K=cpyQ H sz a b K:=by
 unfold cpyT cpyQ;refine congrArg (And _) (congrArg (And _) ?_)
 cases a with
 |ah l z st n=>simp only[];cases hh:H l <;> simp only[hh,Bl]
 |_=>rfl
theorem Yq {sz:Nat}{a b:Opd}:(EOp.cpy sz a b).eff P p e H K=(a.fine p e/\b.fine p e/\(a.v e).isC/\(b.v e).isC/\cpyQ H sz (a.v e).c1 (b.v e).c1 K):=by simp only[EOp.eff,Yc]
theorem Qbrq {sz:Nat}{parts:List Opd}:(EOp.bslm sz parts).eff P p e H K=((∀x∈parts,x.fine p e/\(x.v e).cells.length=sz)/\∀l,H l=.none->∀H',H'=H.set l (.vec sz (parts.map λx=>(x.v e).cells))->K (.c (.ah l sz 0 parts.length)) H'):=Zao
theorem Qbru {a:Opd}:(EOp.nilq a).eff P p e H K=(a.fine p e/\match a.v e with
  |.c (.sl _ _ rows)=>∀b:Bool,(b=true->rows=[])->K (.c (.bool b)) H
  |_=>False):=rfl
end
theorem Qbsf {k:IntKind}{n:Int}:(C.int k n).ai=false:=rfl
theorem Qbmt {b:Bool}:(C.bool b).ai=false:=rfl
theorem Qbsk {s:List UInt8}:(C.str s).ai=false:=rfl
theorem X1 {f:Bool}{sz:Nat}{r:List (List C)}:(C.sl f sz r).ai=false:=rfl
theorem X2 {c:List C}:(C.pp c).ai=false:=rfl
theorem X8 {c:C}{a i k:Nat}:(C.ep c a i k).ai=false:=rfl
theorem Qbmw:C.pnil.ai=false:=rfl
theorem Qbsh {l k:Nat}:(C.ptr l k).ai=false:=rfl
theorem BB {l a b c:Nat}:(C.ah l a b c).ai=false:=rfl
theorem X5 {l:Nat}:(C.mp l).ai=false:=rfl
theorem Qbmv:C.mnil.ai=false:=rfl
theorem Qbsj {n:Nat}:(C.stb n).ai=false:=rfl
theorem Qbsi {n:Nat}:(C.slb n).ai=false:=rfl
theorem X9 {a:Bool}{k:List C}{r:List (List C)}:(C.cm a k r).ai=false:=rfl
theorem X7 {f:Nat}{c:List C}:(C.fn f c).ai=false:=rfl
theorem Qbmu:C.fnil.ai=false:=rfl
theorem Qbsg {l:Nat}:(C.itr l).ai=false:=rfl
theorem Qbsl:C.unk.ai=false:=rfl
theorem X3 {sz:Nat}{r:List (List C)}:(C.ow sz r).ai=true:=rfl
theorem XY {f:Bool}{sz:Nat}{r:List (List C)}:ax (.sl f sz r)=r.length:=rfl
theorem Qbsz {l a b c:Nat}:ax (.ah l a b c)=c:=rfl
theorem Qbmi {f:Bool}{sz:Nat}{r:List (List C)}:(C.sl f sz r).aN=sz:=rfl
theorem Qbhz {l a b c:Nat}:(C.ah l a b c).aN=a:=rfl
theorem Qbov {f:Bool}{sz:Nat}{r:List (List C)}:rowsOf H (.sl f sz r)=r:=rfl
theorem Qbjf {l a st n:Nat}:rowsOf H (.ah l a st n)=match H l with
  |.vec _ rows=>(rows.drop st).take n
  |_=>[]:=rfl
theorem Xd {f:Bool}{sz:Nat}{r:List (List C)}:aZ H (.sl f sz r)=True:=rfl
theorem Qbto {l sz st n:Nat}:aZ H (.ah l sz st n)=match H l with
  |.vec z rows=>z=sz/\st+n<=rows.length
  |_=>False:=rfl
section
variable {K:V->Heap->Prop}
theorem Yh {sz z:Nat}{rows:List (List C)}{b:C}:appQ H sz (.sl true z rows) b K=(aZ H b/\b.aN=sz/\z=sz/\(rows=[]\/rowsOf H b≠[])/\(∀r∈rows++rowsOf H b,an r=true)/\rows.length+ax b<=LIM/\
   ∀l,H l=.none->∀H',H'=H.set l (.vec sz (rows++rowsOf H b))->K (.c (.ah l sz 0 (rows.length+ax b))) H'):=rfl
theorem Qbrf {sz l z st n:Nat}{b:C}:appQ H sz (.ah l z st n) b K=(aZ H b/\b.aN=sz/\match H l with
  |.vec y rows=>z=sz/\y=sz/\st+n<=rows.length/\(∀r∈rowsOf H b,an r=true)/\n+ax b<=LIM/\
    ∀l',(H.set l .none) l'=.none->∀H',H'=(H.set l .none).set l' (.vec sz ((rows.drop st).take n++rowsOf H b))->
     K (.c (.ah l' sz 0 (n+ax b))) H'
  |_=>False):=rfl
end
theorem VN {lo hi:Option Int}{fl:Bool}{sz:Nat}{rows:List (List C)}:sliC lo hi (.sl fl sz rows)=.sl (fl&&(hi.isNone || rows.isEmpty)) sz ((rows.take (hi.getD rows.length).toNat).drop (lo.getD 0).toNat):=rfl
theorem Y4 {lo hi:Option Int}{l sz st n:Nat}:sliC lo hi (.ah l sz st n)=.ah l sz (st+(lo.getD 0).toNat) ((hi.getD n).toNat-(lo.getD 0).toNat):=rfl
attribute [go_sem] Yq cpyQ Xr Y1 Fd Qbq0 Y0 b_f b_t Qbr8 Qbmp Qbmq XD regT Bn putE lk Qbr1 Qbr0 Qbr2 Qbr3 gdO gdB Opd.v Opd.raw Opd.fine V.bare V.fine FOp.val FOp.obl FOp.fct Qbmg Qbrp XM Yr Ym Yn XK Yp Qbrs Qbrt Qbrr Qbmh XN XO Qbrw Qbrv Yo Qbru Qbrq YV Qbq5
 V.c1 V.isC V.isAg V.cells BO Cc fadC binC binO BM an CG Yh Qbrf updQ delQ zipE OM VN Y4 bnds Xd Qbto XY Qbsz Qbov Qbjf Qbmi Qbhz Qbsf Qbmt Qbsk X1 X2 X8 Qbmw Qbsh BB X5 Qbmv Qbsj Qbsi X9 X7 Qbmu Qbsg Qbsl X3 B8 Dc Ag Db YU Qbmk Qbq7 Qbh1 Vq Qb0w Qb0x Qb0c
 TW TV Xv Vw Vv XE Jp J6 CJ List.take_succ_cons List.take_zero List.take_nil List.drop_succ_cons Jab List.drop_nil
 List.length_cons Jai J2 J5 List.headD_cons Bool.not_false Bool.not_true Bool.and_true Bool.true_and Bool.and_false Bool.false_and and_self eq_self Bool.false_eq_true Jy Jq Jav Jat not_true_eq_false not_false_eq_true ite_true ite_false ne_eq Option.map_some Option.map_none Option.getD_some Option.getD_none Option.isNone_some Option.isNone_none List.isEmpty_nil List.isEmpty_cons Bool.or_true Bool.true_or Bool.or_false Bool.false_or optI optF Int.toNat_natCast Int.natCast_nonneg Int.add_sub_cancel List.forall_mem_cons Qa9p
end Go.AE
namespace Go.AE
abbrev fI (d : Nat) (o : FOp) : Item := .f (some d) none o
abbrev eI (d : Nat) (o : EOp) : Item := .e (some d) none o
abbrev gT (d t : Nat) (o : FOp) : Item := .f (some d) (some (t, true)) o
abbrev gF (d t : Nat) (o : FOp) : Item := .f (some d) (some (t, false)) o
abbrev kI (n : Int) : Opd := .k (.c (.int .i64 n))
abbrev mJ (d a : Nat) : Item := .f (some d) none (.mv (.t a))
abbrev fJ (d n a : Nat) : Item := .f (some d) none (.fad n (.t a))
abbrev lJ (d a : Nat) : Item := .f (some d) none (.ld 1 false (.t a))
abbrev tJ (d n a : Nat) : Item := .f (some d) none (.ld n true (.t a))
abbrev nJ (d a : Nat) : Item := .f (some d) none (.len (.t a))
abbrev kJ (d a : Nat) : Item := .f (some d) none (.nck (.t a))
abbrev oJ (d a : Nat) : Item := .f (some d) none (.not (.t a))
abbrev iJ (d n a b : Nat) : Item := .f (some d) none (.iad n (.t a) (.t b))
abbrev bJ (d : Nat) (o : BinOp) (a b : Nat) : Item := .f (some d) none (.bin 0 o (.t a) (.t b))
abbrev cJ (d : Nat) (o : BinOp) (a : Nat) (n : Int) : Item := .f (some d) none (.bin 0 o (.t a) (.k (.c (.int .i64 n))))
abbrev gTm (d g a : Nat) : Item := .f (some d) (some (g, true)) (.mv (.t a))
abbrev gFm (d g a : Nat) : Item := .f (some d) (some (g, false)) (.mv (.t a))
abbrev gTf (d g n a : Nat) : Item := .f (some d) (some (g, true)) (.fad n (.t a))
abbrev gFf (d g n a : Nat) : Item := .f (some d) (some (g, false)) (.fad n (.t a))
abbrev gTl (d g a : Nat) : Item := .f (some d) (some (g, true)) (.ld 1 false (.t a))
abbrev gFl (d g a : Nat) : Item := .f (some d) (some (g, false)) (.ld 1 false (.t a))
abbrev aJ (d f : Nat) (l : List Opd) : Item := .e (some d) none (.call f l)
abbrev sJ (k a b : Nat) : Item := .e none none (.sto k (.t a) (.t b))
abbrev fB (d : Nat) (b : Bool) : Item := .f (some d) none (.mv (.k (.c (.bool b))))
abbrev zJ (d : Nat) (n : Int) : Item := .f (some d) none (.mv (.k (.c (.int .i64 n))))
abbrev hJ (d a : Nat) : Item := .chk d none (.ld 1 false (.t a))
abbrev pT (d a b : Nat) : Item := .f (some d) none (.pick (.t a) (.k (.c (.bool true))) (.t b))
abbrev pF (d a b : Nat) : Item := .f (some d) none (.pick (.t a) (.t b) (.k (.c (.bool false))))
abbrev xJ (d k a b : Nat) : Item := .e (some d) none (.app k (.t a) (.t b))
abbrev vJ (d a : Nat) : Item := .f (some d) none (.box (.t a))
abbrev sR (l : List Item) (k : List Nat) (n : SC) : SC := .seq (.reg l k) n
abbrev cX (t i : Nat) (n : SC) : SC := .seq (.cond (.t t) .skip (.exit i)) n
abbrev bL (i : Nat) (l : SC) : SC := .block i (.loop l)
abbrev cT (t : Nat) (a b : SC) : SC := .cond (.t t) a b
theorem TS : Int.toNat 0 = 0 := rfl
theorem TR : Int.toNat 1 = 1 := rfl
theorem Xq : Int.toNat 2000 = 2000 := rfl
attribute [go_sem] sJ fB zJ hJ pT pF xJ vJ mJ fJ lJ tJ nJ kJ oJ iJ bJ cJ gTm gFm gTf gFf gTl gFl aJ fI eI gT gF kI false_implies TS TR Xq
variable {P:Program}{H:Heap}{g:G}{w:World}{e:Env}
def Obj.used:Obj->Bool
 |.none=>false
 |_=>true
def Heap.frz (H:Heap)(S:Nat->Bool):Heap:=λl=>if S l then .none else H l
def G.frz (g:G)(H:Heap)(S:Nat->Bool):G:=
 { g with
  per:=λb=>g.per b || (match g.own b with
   |some (l,_)=>S l&&(H l).used
   |none=>false)
  own:=λb=>match g.own b with
   |some (l,p)=>if S l&&(H l).used then none else some (l,p)
   |none=>none }
theorem HS (H:Heap)(S:Nat->Bool)(g:G)(w:World):Le g w (g.frz H S) w:=
 ⟨λb h=>⟨by simp[G.frz,h],rfl⟩,λ_ _ h=>h,Jat _,λ_ _ _ h=>h,rfl,rfl,rfl⟩
theorem GN {S:Nat->Bool}{m:Nat}(hm:¬(S m=true/\(H m).used=true)):Cn g w (g.frz H S) w m:=by
 intro b q hb;refine⟨?_,rfl⟩;have:¬(S m&&(H m).used)=true:=by simpa using hm
 simp only[G.frz,hb];rw[if_neg this]
theorem EF (hs:Sat H g w)(S:Nat->Bool):Stp H g w (H.frz S) (g.frz H S) w:=by
 have aP:=HS H S g w;refine⟨aP,λm hm hn=>?_,⟨λb hb=>?_,hs.names,λb x hb=>?_,λb m p hb=>?_,λm=>?_⟩⟩
 ·refine⟨by simp only[Heap.frz,hn];split <;> rfl,?_⟩;exact GN (by rw[hn];simp[Obj.used])
 ·obtain⟨h1,h2⟩:=hs.fresh b hb;simp[G.frz,h1,h2]
 ·have aU:(match g.own b with
   |some (l,p)=>if S l&&(H l).used then none else some (l,p)
   |none=>none)=some x:=hb
  show (g.per b || (match g.own b with
   |some (l,_)=>S l&&(H l).used
   |none=>false))=false
  cases ho:g.own b with
  |none=>rw[ho]at aU;simp at aU
  |some y=>
   obtain⟨l,p⟩:=y;rw[ho]at aU;simp only at aU⊢;have:=hs.excl b _ ho;by_cases hx:(S l&&(H l).used)=true
   ·rw[if_pos hx]at aU;simp at aU
   ·simp[this,hx]
 ·have aU:(match g.own b with
   |some (l,p)=>if S l&&(H l).used then none else some (l,p)
   |none=>none)=some (m,p):=hb
  cases ho:g.own b with
  |none=>rw[ho]at aU;simp at aU
  |some y=>
   obtain⟨l,q⟩:=y;rw[ho]at aU;simp only at aU;by_cases hx:(S l&&(H l).used)=true
   ·rw[if_pos hx]at aU;simp at aU
   ·rw[if_neg hx]at aU;simp at aU;obtain⟨rfl,rfl⟩:=aU;exact hs.named b _ _ ho
 ·by_cases hS:S m=true
  ·simp[Heap.frz,hS,SatObj]
  ·have dt:H.frz S m=H m:=by simp[Heap.frz,hS]
   have hk:Cn g w (g.frz H S) w m:=GN (by simp[hS]);refine SatObj.keep (H':=H.frz S) hs aP hk dt λm' v left cur hc v' es hv=>?_;by_cases nj:S m'=true
   ·simp[Heap.frz,nj]at hv
   ·have:H.frz S m'=H m':=(by simp[Heap.frz,nj]);rw[this]at hv;exact .inl ⟨hv,GN (by simp[nj])⟩
inductive FrzC (H:Heap)(S:Nat->Bool):C->C->Prop
 |same (c:C) (h:c.ai=false):FrzC H S c c
 |sl (fl:Bool) (sz:Nat) (rows rows':List (List C)) (hl:rows'.length=rows.length) (hr:∀(i:Nat) (r r':List C),rows[i]? = some r->rows'[i]? = some r'->r'.length=r.length)
   (hc:∀(i:Nat) (r r':List C) (j:Nat) (c c':C),rows[i]? = some r->rows'[i]? = some r'->r[j]? = some c->r'[j]? = some c'->FrzC H S c c'):FrzC H S (.sl fl sz rows) (.sl false sz rows')
 |pp (cells cells':List C) (hl:cells'.length=cells.length) (hc:∀(j:Nat) (c c':C),cells[j]? = some c->cells'[j]? = some c'->FrzC H S c c'):FrzC H S (.pp cells) (.pp cells')
 |ah (l sz st n:Nat) (all rows rows':List (List C)) (hS:S l=true) (hH:H l=.vec sz all) (hb:st+n<=all.length) (cx:rows=(all.drop st).take n)
   (hl:rows'.length=rows.length) (hr:∀(i:Nat) (r r':List C),rows[i]? = some r->rows'[i]? = some r'->r'.length=r.length)
   (hc:∀(i:Nat) (r r':List C) (j:Nat) (c c':C),rows[i]? = some r->rows'[i]? = some r'->r[j]? = some c->r'[j]? = some c'->FrzC H S c c'):FrzC H S (.ah l sz st n) (.sl false sz rows')
 |ptr (l k:Nat) (all cells cells':List C) (hS:S l=true) (hH:H l=.st all) (lj:cells=all.drop k) (hl:cells'.length=cells.length)
   (hc:∀(j:Nat) (c c':C),cells[j]? = some c->cells'[j]? = some c'->FrzC H S c c'):FrzC H S (.ptr l k) (.pp cells')
 |ow (sz:Nat) (rows rows':List (List C)) (hl:rows'.length=rows.length) (hr:∀(i:Nat) (r r':List C),rows[i]? = some r->rows'[i]? = some r'->r'.length=r.length)
   (hc:∀(i:Nat) (r r':List C) (j:Nat) (c c':C),rows[i]? = some r->rows'[i]? = some r'->r[j]? = some c->r'[j]? = some c'->FrzC H S c c'):FrzC H S (.ow sz rows) (.sl false sz rows')
theorem AI {α:Type}{l l':List α}(h:l'.length=l.length){i:Nat}{x:α}(hx:l'[i]? = some x):∃y,l[i]? = some y:=by
 have:i<l'.length:=(Jv.1 hx).1;exact⟨l[i]'ZD,Jw ZD⟩
theorem FR {S:Nat->Bool}{b l:Nat}{p:List Nat}(ho:g.own b=some (l,p))(hS:S l=true)(hu:(H l).used=true):(g.frz H S).per b=true:=by
 simp[G.frz,ho,hS,hu]
theorem FQ (hs:Sat H g w){S:Nat->Bool}{c c':C}(h:FrzC H S c c') :
  (∀v,RepC w g c v->RepC w (g.frz H S) c' v)/\∀l p v,S l=true->(H l).used=true->RepO w g l p c v->RepC w (g.frz H S) c' v:=by
 have aP:=HS H S g w
 induction h with
 |same c h=>
  refine⟨λv hv=>hv.mono aP,λl p v _ _ hv=>?_⟩;exact (hv.plain_of λsz rows hc=>by subst hc;simp[C.ai]at h).mono aP
 |sl fl sz rows rows' hl hr hc ih=>
  have key:∀v,RepC w g (.sl fl sz rows) v->RepC w (g.frz H S) (.sl false sz rows') v:=by
   intro v hv
   cases hv with
   |ca _ _ ad=>
    have:rows'=[]:=Jx.1 Zaf;subst this;exact .ca _ _ _
   |sl _ _ _ b off cap val h1 h2 h3 h4 h5 h6 h7=>
    rw[<-hl]at h1 h2 h3⊢;refine .sl false sz rows' b off cap val h1 ZF h3 (aP.per b h4).1 (λi r' bh=>?_) (λi r' j c' bh cq=>?_) (λi r' j c' bh cq=>?_)
    ·obtain⟨r,bH⟩:=AI hl bh;rw[hr i r r' bH bh];exact h5 i r bH
    ·obtain⟨r,bH⟩:=AI hl bh;obtain⟨c,de⟩:=AI (hr i r r' bH bh) cq;exact h6 i r j c bH de
    ·obtain⟨r,bH⟩:=AI hl bh;obtain⟨c,de⟩:=AI (hr i r r' bH bh) cq;exact (ih i r r' j c c' bH bh de cq).1 _ (h7 i r j c bH de)
  exact⟨key,λl p v _ _ hv=>key v (hv.plain_of λ_ _ hc=>Zbg)⟩
 |pp cells cells' hl hc ih=>
  have key:∀v,RepC w g (.pp cells) v->RepC w (g.frz H S) (.pp cells') v:=by
   intro v hv
   cases hv with
   |pp _ b off val h1 h2 h3=>
    refine .pp cells' b off val (aP.per b h1).1 (λj c' cq=>?_) (λj c' cq=>?_)
    ·obtain⟨c,de⟩:=AI hl cq;exact h2 j c de
    ·obtain⟨c,de⟩:=AI hl cq;exact (ih j c c' de cq).1 _ (h3 j c de)
  exact⟨key,λl p v _ _ hv=>key v (hv.plain_of λ_ _ hc=>Zbg)⟩
 |ah l sz st n all rows rows' hS hH hb cx hl hr hc ih=>
  have key:∀v,RepC w g (.ah l sz st n) v->RepC w (g.frz H S) (.sl false sz rows') v:=by
   intro v hv;have ak:rows.length=n:=by rw[cx];simp;omega
   cases hv with
   |bZ _ _ _ ad=>
    have:rows'=[]:=Jx.1 ZD;subst this;exact .ca _ _ _
   |ah _ _ _ _ cap b base T m h1 h2 h3 h4=>
    have aX:=hs.objs l;rw[hH]at aX;obtain⟨b',base',T',cs,val,r1,r2,r3,r4,r5,r6,r7,r8⟩:=SatVec.of aX h1;rw[h1]at r1;simp only[Jh,Jau,true_and]at r1;obtain⟨rfl,rfl⟩:=r1;have da:=FR (g:=g) (H:=H) r2 hS Zbh;have b7:∀(i:Nat) (r:List C),rows[i]? = some r->all[st+i]? = some r:=by
     intro i r hi;rw[cx,List.getElem?_take]at hi;split at hi
     ·rw[Jal]at hi;exact hi
     ·simp at hi
    have hn:n=rows'.length:=ZD;rw[hn]at h2⊢;refine .sl false sz rows' b (base+st * sz) cap (λi j=>val (st+i) j) ZD ZF h2 da (λi r' bh=>?_) (λi r' j c' bh cq=>?_) (λi r' j c' bh cq=>?_)
    ·obtain⟨r,bH⟩:=AI hl bh;rw[hr i r r' bH bh];exact r6 _ r (b7 i r bH)
    ·obtain⟨r,bH⟩:=AI hl bh;obtain⟨c,de⟩:=AI (hr i r r' bH bh) cq;rw[DX r3,show base+st * sz+i * sz+j=base+(st+i) * sz+j by rw[Nat.add_mul];omega];exact r7 _ r j c (b7 i r bH) de
    ·obtain⟨r,bH⟩:=AI hl bh;obtain⟨c,de⟩:=AI (hr i r r' bH bh) cq;exact (ih i r r' j c c' bH bh de cq).2 l _ _ hS Zbh (r8 _ r j c (b7 i r bH) de)
  exact⟨key,λl p v _ _ hv=>key v (hv.plain_of λ_ _ hc=>Zbg)⟩
 |ptr l k all cells cells' hS hH lj hl hc ih=>
  have key:∀v,RepC w g (.ptr l k) v->RepC w (g.frz H S) (.pp cells') v:=by
   intro v hv
   cases hv with
   |ptr _ _ b sz base h1=>
    have aX:=hs.objs l;rw[hH]at aX;obtain⟨b',sz',T,cs,r1,r2,r3,r4,r5⟩:=aX;rw[h1]at r1;simp only[Jh,Jau]at r1;obtain⟨rfl,rfl,rfl⟩:=r1;have da:=FR (g:=g) (H:=H) r2 hS Zbh;have b7:∀(j:Nat) (c:C),cells[j]? = some c->all[k+j]? = some c:=by
     intro j c hj;rw[lj,Jal]at hj;exact hj
    have iu:∀(j:Nat) (c:C),all[j]? = some c->cs[j]? = some (cs.getD j undef):=by
     intro j c hj;have ae:j<cs.size:=(by rw[r4];exact (Jv.1 hj).1);rw[Jr ae,Ji,Jr ae];rfl
    refine .pp cells' b (0+k) (λj=>cs.getD (k+j) undef) da (λj c' cq=>?_) (λj c' cq=>?_)
    ·obtain⟨c,de⟩:=AI hl cq;rw[DX r3,show 0+k+j=k+j by omega];exact iu _ c (b7 j c de)
    ·obtain⟨c,de⟩:=AI hl cq;exact (ih j c c' de cq).2 l _ _ hS Zbh (r5 _ c _ (b7 j c de) (iu _ c (b7 j c de)))
  exact⟨key,λl p v _ _ hv=>key v (hv.plain_of λ_ _ hc=>Zbg)⟩
 |ow sz rows rows' hl hr hc ih=>
  refine⟨λv hv=>(by cases hv),λl p v hS hu hv=>?_⟩
  cases hv with
  |plain _ _ _ h=>cases h
  |ownil _ _ ad=>
   have:rows'=[]:=Jx.1 Zaf;subst this;exact .ca _ _ _
  |ow _ _ _ b off cap T cs val h1 h2 h3 h4 h5 h6 h7 h8=>
   have da:=FR (g:=g) (H:=H) h3 hS hu;rw[<-hl]at h1 h2⊢;refine .sl false sz rows' b off cap val h1 ZF h2 da (λi r' bh=>?_) (λi r' j c' bh cq=>?_) (λi r' j c' bh cq=>?_)
   ·obtain⟨r,bH⟩:=AI hl bh;rw[hr i r r' bH bh];exact h6 i r bH
   ·obtain⟨r,bH⟩:=AI hl bh;obtain⟨c,de⟩:=AI (hr i r r' bH bh) cq;rw[DX h4];exact h7 i r j c bH de
   ·obtain⟨r,bH⟩:=AI hl bh;obtain⟨c,de⟩:=AI (hr i r r' bH bh) cq;exact (ih i r r' j c c' bH bh de cq).2 l _ _ hS hu (h8 i r j c bH de)
inductive FrzV (H:Heap)(S:Nat->Bool):V->V->Prop
 |c (a b:C) (h:FrzC H S a b):FrzV H S (.c a) (.c b)
 |ag (cs cs':List C) (hl:cs'.length=cs.length) (h:∀(j:Nat) (c c':C),cs[j]? = some c->cs'[j]? = some c'->FrzC H S c c'):FrzV H S (.ag cs) (.ag cs')
 |tup (xs xs':List V) (hl:xs'.length=xs.length) (h:∀(j:Nat) (x x':V),xs[j]? = some x->xs'[j]? = some x'->FrzV H S x x'):FrzV H S (.tup xs) (.tup xs')
 |unk (x:V):FrzV H S x .unk
theorem EU (hs:Sat H g w){S:Nat->Bool}{x x':V}(h:FrzV H S x x'):∀v,RepV w g x v->RepV w (g.frz H S) x' v:=by
 induction h with
 |c a b h=>
  intro v hv;exact .c _ _ ((FQ hs h).1 v hv.aK)
 |ag cs cs' hl h=>
  intro v hv
  cases hv with
  |ag _ vs h1 h2=>
   refine .ag cs' vs ZD λj c' u cq hu=>?_;obtain⟨c,hc⟩:=AI hl cq;exact (FQ hs (h j c c' hc cq)).1 u (h2 j c u hc hu)
 |tup xs xs' hl h ih=>
  intro v hv
  cases hv with
  |tup _ vs h1 h2=>
   refine .tup xs' vs ZD λj x' u dv hu=>?_;obtain⟨x,hx⟩:=AI hl dv;exact ih j x x' hx dv u (h2 j x u hx hu)
 |unk x=>exact λv _=>.unk v
abbrev frzK (K:V->Heap->Prop):V->Heap->Prop
 |.pn v,H'=>∃S,K (.pn v) (H'.frz S)
 |x,H'=>∃S x',FrzV H' S x x'/\K x' (H'.frz S)
theorem Qbrz {K:V->Heap->Prop}{x:V}{v:Value}(h:frzK K x H)(hr:RepV w g x v):∃S x',FrzV H S x x'/\K x' (H.frz S):=by
 cases hr <;> exact h
theorem Qbl3 {f:Nat}{args:List V}{K:V->Heap->Prop}(h:Qv P f args H (frzK K)):Qv P f args H K:=by
 refine⟨h.1,λg w vs hs hl hv=>?_⟩;refine Calls.mono (h.2 g w vs hs hl hv) ?_;rintro e w' (⟨v,x,H',g',he,hx,aR,hr⟩|⟨v,H',g',he,hx,aR⟩)
 ·obtain⟨S,x',hf,hk⟩:=Qbrz hx hr;exact .inl ⟨v,x',H'.frz S,g'.frz H' S,he,hk,aR.trans (EF aR.sat S),EU aR.sat hf v hr⟩
 ·obtain⟨S,hk⟩:∃S,K (.pn v) (H'.frz S):=hx;exact .inr ⟨v,H'.frz S,g'.frz H' S,he,hk,aR.trans (EF aR.sat S)⟩
theorem Qbhq {f:Nat}{args:List V}{K K':V->Heap->Prop}(h:Qv P f args H K)(hk:∀x H',K x H'->K' x H'):Qv P f args H K':=by
 refine⟨h.1,λg w vs hs hl hv=>?_⟩;refine Calls.mono (h.2 g w vs hs hl hv) ?_;rintro e w' (⟨v,x,H',g',he,hx,aR,hr⟩|⟨v,H',g',he,hx,aR⟩)
 ·exact .inl ⟨v,x,H',g',he,hk x H' hx,aR,hr⟩
 ·exact .inr ⟨v,H',g',he,hk _ H' hx,aR⟩
def FrzK (H:Heap)(S:Nat->Bool)(c c':C):Prop:=c'=c\/(c.ai=false/\FrzC H S c c')
inductive FrzO (H:Heap)(S:Nat->Bool):Obj->Obj->Prop
 |same (o:Obj):FrzO H S o o
 |st (cells cells':List C) (hl:cells'.length=cells.length) (h:∀(j:Nat) (c c':C),cells[j]? = some c->cells'[j]? = some c'->FrzK H S c c'):FrzO H S (.st cells) (.st cells')
 |vec (sz:Nat) (rows rows':List (List C)) (hl:rows'.length=rows.length) (hr:∀(i:Nat) (r r':List C),rows[i]? = some r->rows'[i]? = some r'->r'.length=r.length)
   (h:∀(i:Nat) (r r':List C) (j:Nat) (c c':C),rows[i]? = some r->rows'[i]? = some r'->r[j]? = some c->r'[j]? = some c'->FrzK H S c c'):FrzO H S (.vec sz rows) (.vec sz rows')
def FrzH (H:Heap)(S:Nat->Bool)(H':Heap):Prop:=∀m,(S m=true/\H' m=.none)\/(S m=false/\FrzO H S (H m) (H' m))
theorem CL (H:Heap)(S:Nat->Bool):FrzH H S (H.frz S):=λm=>by
 cases h:S m with
 |true=>exact .inl ⟨rfl,by simp[Heap.frz,h]⟩
 |false=>exact .inr ⟨rfl,by simp[Heap.frz,h];exact .same _⟩
theorem FrzH.set {S:Nat->Bool}{H':Heap}(h:FrzH H S H'){l:Nat}{o:Obj}(hl:S l=false)(ho:FrzO H S (H l) o):FrzH H S (H'.set l o):=λm=>by
 by_cases hm:m=l
 ·subst hm;rw[Heap.aC];exact .inr ⟨hl,ho⟩
 ·rw[Heap.af _ _ hm];exact h m
theorem Ix (hs:Sat H g w){S:Nat->Bool}{H':Heap}(h:FrzH H S H'):Stp H g w H' (g.frz H S) w:=by
 have h0:=EF hs S;have aP:=h0.le;have pk:∀m,S m=false->Cn g w (g.frz H S) w m:=λm hm=>GN (by simp[hm]);have th:∀(l:Nat) (p:List Nat) (c c':C) (v:Value),S l=false->FrzK H S c c'->RepO w g l p c v->RepO w (g.frz H S) l p c' v:=by
  intro l p c c' v hl hk hr;rcases hk with rfl|⟨h1,h2⟩
  ·exact hr.move aP λq b hb=>⟨(pk l hl b _ hb).1,rfl⟩
  ·exact .plain _ _ _ _ ((FQ hs h2).1 v (hr.plain_of λsz rows hc=>by subst hc;simp[C.ai]at h1))
 refine⟨aP,λm hm hn=>?_,⟨h0.sat.fresh,h0.sat.names,h0.sat.excl,h0.sat.named,λm=>?_⟩⟩
 ·refine⟨?_,GN (by rw[hn];simp[Obj.used])⟩;rcases h m with ⟨_,h1⟩|⟨_,h1⟩
  ·exact h1
  ·rw[hn]at h1;generalize H' m=o at h1;cases h1;rfl
 ·rcases h m with ⟨_,h1⟩|⟨hS,h1⟩
  ·rw[h1];exact trivial
  ·have ho:=hs.objs m;generalize hA:H m=A at h1 ho;generalize hB:H' m=B at h1
   cases h1 with
   |same=>
    have:=SatObj.keep (H':=H') hs aP (pk m hS) (hB.trans hA.symm) λm' v left cur hc v' es hv=>?_
    ·rw[hB]at this;exact this
    ·rcases h m' with ⟨_,h2⟩|⟨nj,h2⟩
     ·rw[h2]at hv;simp at hv
     ·rw[hv]at h2;generalize hA':H m'=A' at h2;cases h2;exact .inl ⟨rfl,pk m' nj⟩
   |st cells cells' hl hc=>
    obtain⟨b,sz,T,cs,r1,r2,r3,r4,r5⟩:=ho;refine⟨b,sz,T,cs,r1,(pk m hS b _ r2).1,r3,by rw[hl];exact r4,λk c' v cq hv=>?_⟩;obtain⟨c,de⟩:=AI hl cq;exact th _ _ c c' v hS (hc k c c' de cq) (r5 k c v de hv)
   |vec sz rows rows' hl hr hc=>
    rcases ho with ⟨r1,r2⟩|⟨b,base,T,cs,val,r1,r2,r3,r4,r5,r6,r7,r8⟩
    ·refine .inl ⟨?_,r2⟩;subst r1;exact Jx.1 hl
    ·refine .inr ⟨b,base,T,cs,val,r1,(pk m hS b _ r2).1,r3,by rw[hl];exact r4,by rw[hl];exact r5,λi r' bh=>?_,λi r' j c' bh cq=>?_,λi r' j c' bh cq=>?_⟩
     ·obtain⟨r,bH⟩:=AI hl bh;rw[hr i r r' bH bh];exact r6 i r bH
     ·obtain⟨r,bH⟩:=AI hl bh;obtain⟨c,de⟩:=AI (hr i r r' bH bh) cq;exact r7 i r j c bH de
     ·obtain⟨r,bH⟩:=AI hl bh;obtain⟨c,de⟩:=AI (hr i r r' bH bh) cq;exact th _ _ c c' _ hS (hc i r r' j c c' bH bh de cq) (r8 i r j c bH de)
abbrev finK (K:V->Heap->Prop):V->Heap->Prop
 |.pn v,H'=>K (.pn v) H'
 |x,H'=>∃S x' H2,FrzV H' S x x'/\FrzH H' S H2/\K x' H2
theorem Vx {K:V->Heap->Prop}{x:C}:finK K (.c x) H=∃S x' H2,FrzV H S (.c x) x'/\FrzH H S H2/\K x' H2:=rfl
theorem XI {K:V->Heap->Prop}{x:List C}:finK K (.ag x) H=∃S x' H2,FrzV H S (.ag x) x'/\FrzH H S H2/\K x' H2:=rfl
theorem Qbrx {K:V->Heap->Prop}{x:List V}:finK K (.tup x) H=∃S x' H2,FrzV H S (.tup x) x'/\FrzH H S H2/\K x' H2:=rfl
theorem XH {K:V->Heap->Prop}{v:Value}:finK K (.pn v) H=K (.pn v) H:=rfl
attribute [go_sem] Vx XI Qbrx XH
theorem Qbry {K:V->Heap->Prop}{x:V}{v:Value}(h:finK K x H)(hr:RepV w g x v):∃S x' H2,FrzV H S x x'/\FrzH H S H2/\K x' H2:=by
 cases hr <;> exact h
theorem CX {f:Nat}{args:List V}{K:V->Heap->Prop}(h:Qv P f args H (finK K)):Qv P f args H K:=by
 refine⟨h.1,λg w vs hs hl hv=>?_⟩;refine Calls.mono (h.2 g w vs hs hl hv) ?_;rintro e w' (⟨v,x,H',g',he,hx,aR,hr⟩|⟨v,H',g',he,hx,aR⟩)
 ·obtain⟨S,x',H2,hf,hh,hk⟩:=Qbry hx hr;exact .inl ⟨v,x',H2,g'.frz H' S,he,hk,aR.trans (Ix aR.sat hh),EU aR.sat hf v hr⟩
 ·exact .inr ⟨v,H',g',he,hx,aR⟩
theorem Gk {e e':Env}(S:Nat->Bool){H2:Heap}(h:∀t,FrzV H S (lk t e) (lk t e'))(hh:FrzH H S H2):E3 e H e' H2:=by
 intro g w tmps hs hr;exact⟨g.frz H S,Ix hs hh,λt=>EU hs (h t) _ (hr t)⟩
def un (H:Heap)(m:Nat):Bool:=!(H m).used
theorem EE {m:Nat}(h:H m≠.none):un H m=false:=by
 unfold un;cases hm:H m <;> first|rfl|exact absurd hm h
theorem BE {m:Nat}(h:H m=.none):un H m=true:=by simp[un,h,Obj.used]
theorem EB {H':Heap}{m:Nat}(h:H m≠.none):H'.frz (un H) m=H' m:=by simp[Heap.frz,EE h]
def C.plain:C->Bool
 |.int _ _|.bool _|.str _|.sl _ _ _|.pp _|.pnil|.mnil|.slb _|.stb _|.cm _ _ _|.fnil|.unk=>true
 |_=>false
theorem Qi {S:Nat->Bool}{c:C}(h:c.plain=true):FrzC H S c c:=.same c (by cases c <;> simp_all[C.plain,C.ai])
theorem EM {S:Nat->Bool}{l sz n:Nat}{rows:List (List C)}(hS:S l=true)(hH:H l=.vec sz rows)(hn:n=rows.length)(hr:∀r∈rows,∀c∈r,c.ai=false):FrzC H S (.ah l sz 0 n) (.sl false sz rows):=by
 subst hn;refine .ah l sz 0 rows.length rows rows rows hS hH ZD ZF rfl (λi r r' h1 h2=>by rw[h1]at h2;simp at h2;rw[h2]) (λi r r' j c c' h1 h2 h3 h4=>?_);rw[h1]at h2;simp at h2;subst h2;rw[h3]at h4;simp at h4;subst h4;exact .same _ (hr r (Ja h1) c (Ja h3))
theorem D0 {S:Nat->Bool}{fl:Bool}{sz:Nat}{rows:List (List C)}(hr:∀r∈rows,∀c∈r,c.ai=false):FrzC H S (.sl fl sz rows) (.sl false sz rows):=by
 refine .sl fl sz rows rows rfl (λi r r' h1 h2=>by rw[h1]at h2;simp at h2;rw[h2]) (λi r r' j c c' h1 h2 h3 h4=>?_);rw[h1]at h2;simp at h2;subst h2;rw[h3]at h4;simp at h4;subst h4;exact .same _ (hr r (Ja h1) c (Ja h3))
inductive FrzL (H:Heap)(S:Nat->Bool):List C->List C->Prop
 |nil:FrzL H S [] []
 |cons {c c':C} {l l':List C} (h:FrzC H S c c') (t:FrzL H S l l'):FrzL H S (c::l) (c'::l')
theorem FrzL.spec {S:Nat->Bool}{l l':List C}(h:FrzL H S l l'):l'.length=l.length/\∀(j:Nat) (c c':C),l[j]? = some c->l'[j]? = some c'->FrzC H S c c':=by
 induction h with
 |nil=>exact⟨rfl,λj c c' h=>ZK⟩
 |cons h t ih=>
  refine⟨Zbi,λj c c' h1 h2=>?_⟩
  cases j with
  |zero=>simp at h1 h2;subst h1;subst h2;exact h
  |succ j=>simp at h1 h2;exact ih.2 j c c' h1 h2
theorem FrzL.ag {S:Nat->Bool}{l l':List C}(h:FrzL H S l l'):FrzV H S (.ag l) (.ag l'):=.ag _ _ h.spec.1 h.spec.2
inductive FrzKL (H:Heap)(S:Nat->Bool):List C->List C->Prop
 |nil:FrzKL H S [] []
 |same {c:C} {l l':List C} (t:FrzKL H S l l'):FrzKL H S (c::l) (c::l')
 |cons {c c':C} {l l':List C} (h:c.ai=false) (h':FrzC H S c c') (t:FrzKL H S l l'):FrzKL H S (c::l) (c'::l')
theorem FrzKL.st {S:Nat->Bool}{l l':List C}(h:FrzKL H S l l'):FrzO H S (.st l) (.st l'):=by
 have:l'.length=l.length/\∀(j:Nat) (c c':C),l[j]? = some c->l'[j]? = some c'->FrzK H S c c':=by
  induction h with
  |nil=>exact⟨rfl,λj c c' h=>ZK⟩
  |same t ih=>
   refine⟨Zbi,λj c c' h1 h2=>?_⟩
   cases j with
   |zero=>simp at h1 h2;subst h1;subst h2;exact .inl rfl
   |succ j=>simp at h1 h2;exact ih.2 j c c' h1 h2
  |cons h h' t ih=>
   refine⟨Zbi,λj c c' h1 h2=>?_⟩
   cases j with
   |zero=>simp at h1 h2;subst h1;subst h2;exact .inr ⟨h,h'⟩
   |succ j=>simp at h1 h2;exact ih.2 j c c' h1 h2
 exact .st _ _ this.1 this.2
end Go.AE
namespace Go.AE
variable {P:Program}{H0 H H':Heap}{E L:List (Nat×Obj)}
structure Kn (H0 H:Heap)(E L:List (Nat×Obj)):Prop where
 get:∀p∈E++L,H p.1=p.2/\p.2≠.none
 ext:∀p∈E,H0 p.1≠.none
 loc:∀p∈L,H0 p.1=.none
 dE:(E.map Prod.fst).Nodup
 dL:(L.map Prod.fst).Nodup
 chg:∀m,H0 m≠.none->m∉E.map Prod.fst->H m=H0 m
def Upd (H H':Heap)(U:List (Nat×Obj)):Prop:=(∀p∈U,H' p.1=p.2)/\∀m,H m≠.none->m∉U.map Prod.fst->H' m=H m
theorem Kn.ar (H:Heap):Kn H H [] []:=⟨ZF,ZF,ZF,ZF,ZF,λ_ _ _=>rfl⟩
theorem Kn.start1 {l:Nat}{o:Obj}(h:H l=o)(ho:o≠.none):Kn H H [(l,o)] []:=
 ⟨by simp[h,ho],by simp[h,ho],ZF,ZF,ZF,λ_ _ _=>rfl⟩
theorem Kn.start2 {l m:Nat}{o q:Obj}(h:H l=o)(ho:o≠.none)(h2:H m=q)(hq:q≠.none)(hn:l≠m):Kn H H [(l,o),(m,q)] []:=
 ⟨by simp[h,ho,h2,hq],by simp[h,ho,h2,hq],ZF,ZaF,ZF,λ_ _ _=>rfl⟩
theorem Kn.e (hk:Kn H0 H E L)(i:Nat){l:Nat}{o:Obj}(h:E[i]? = some (l,o)):H l=o:=
 (hk.get (l,o) (Jc _ (Ja h))).1
theorem Kn.l (hk:Kn H0 H E L)(i:Nat){l:Nat}{o:Obj}(h:L[i]? = some (l,o)):H l=o:=
 (hk.get (l,o) (Jd _ (Ja h))).1
theorem Kn.free (hk:Kn H0 H E L)(i:Nat){l:Nat}{o:Obj}(h:L[i]? = some (l,o)):H0 l=.none:=hk.loc (l,o) (Ja h)
theorem Kn.un (hk:Kn H0 H E L)(i:Nat){l:Nat}{o:Obj}(h:L[i]? = some (l,o)):un H0 l=true:=BE (hk.free i h)
theorem Kn.usedE (hk:Kn H0 H E L)(i:Nat){l:Nat}{o:Obj}(h:E[i]? = some (l,o)):H0 l≠.none:=hk.ext (l,o) (Ja h)
theorem Kn.ne (hk:Kn H0 H E L)(i j:Nat){l m:Nat}{o q:Obj}(h:E[i]? = some (l,o))(h2:L[j]? = some (m,q)):l≠m:=λhh=>by
 subst hh;exact hk.usedE i h (hk.free j h2)
theorem Ax {L:List (Nat×Obj)}{p:Nat×Obj}(h:p∈L):p.1∈L.map Prod.fst:=List.mem_map_of_mem h
theorem BP {L:List (Nat×Obj)}(hd:(L.map Prod.fst).Nodup){i j:Nat}{p q:Nat×Obj}(hi:L[i]? = some p)(hj:L[j]? = some q)(h:p.1=q.1):i=j:=by
 have h1:(L.map Prod.fst)[i]? = some p.1:=by simp[hi]
 have h2:(L.map Prod.fst)[j]? = some q.1:=by simp[hj]
 have ae:i<(L.map Prod.fst).length:=(Jv.1 h1).1;exact (List.getElem?_inj ae hd).1 (by rw[h1,h2,h])
theorem Kn.neL (hk:Kn H0 H E L)(i j:Nat){l m:Nat}{o q:Obj}(h:L[i]? = some (l,o))(h2:L[j]? = some (m,q))(gy:i≠j):l≠m:=λhh=>
 gy (BP hk.dL h h2 hh)
theorem Kn.newFree (hk:Kn H0 H E L){x:Nat}(hx:H x=.none):H0 x=.none/\x∉E.map Prod.fst/\x∉L.map Prod.fst:=by
 have bR:∀p∈E++L,p.1≠x:=λp hp hh=>by
  obtain⟨h1,h2⟩:=hk.get p hp;rw[hh,hx]at h1;exact h2 h1.symm
 have hE:x∉E.map Prod.fst:=λh=>by
  obtain⟨p,hp,hh⟩:=Jf.1 h;exact bR p (Jc _ hp) hh
 refine⟨?_,hE,λh=>?_⟩
 ·cases h0:H0 x with
  |none=>rfl
  |_=>have:=hk.chg x (by rw[h0];simp) hE;rw[hx,h0]at this;simp at this
 ·obtain⟨p,hp,hh⟩:=Jf.1 h;exact bR p (Jd _ hp) hh
theorem Kn.alloc (hk:Kn H0 H E L){x:Nat}{o:Obj}(hx:H x=.none)(ho:o≠.none):Kn H0 (H.set x o) E (L++[(x,o)]):=by
 obtain⟨h1,h2,h3⟩:=hk.newFree hx;refine⟨λp hp=>?_,hk.ext,λp hp=>?_,hk.dE,?_,λm hm hn=>?_⟩
 ·rw[<-Jk]at hp;rcases Jb.1 hp with hp|hp
  ·have:p.1≠x:=λhh=>by
    rcases Jb.1 hp with hp|hp
    ·exact h2 (hh▸Ax hp)
    ·exact h3 (hh▸Ax hp)
   rw[Heap.af _ _ this];exact hk.get p hp
  ·simp at hp;subst hp;exact⟨Heap.aC _ _ _,ho⟩
 ·rcases Jb.1 hp with hp|hp
  ·exact hk.loc p hp
  ·simp at hp;subst hp;exact h1
 ·rw[Jm];refine Jj.2 ⟨hk.dL,ZF,λa ha b hb=>?_⟩;simp at hb;subst hb;exact λhh=>h3 (hh▸ha)
 ·have:m≠x:=λhh=>by subst hh;exact hm h1
  rw[Heap.af _ _ this];exact hk.chg m hm hn
theorem CR {L:List (Nat×Obj)}{i:Nat}{x:Nat}{o o':Obj}(h:L[i]? = some (x,o)):(L.set i (x,o')).map Prod.fst=L.map Prod.fst:=by
 rw[J7];refine List.ext_getElem? λj=>?_;rw[J4];split
 ·rename_i gy
  subst gy;have ae:=(Jv.1 h).1;rw[if_pos (by simpa using ae)];simp[h]
 ·rfl
theorem BQ {α:Type}{L:List α}{i:Nat}{x p:α}(h:p∈L.set i x):p=x\/∃j,j≠i/\L[j]? = some p:=by
 obtain⟨j,hj⟩:=List.getElem?_of_mem h;rw[J4]at hj;split at hj
 ·split at hj
  ·simp at hj;exact .inl hj.symm
  ·simp at hj
 ·rename_i hn;exact .inr ⟨j,λh=>hn h.symm,hj⟩
theorem Kn.setL (hk:Kn H0 H E L)(i:Nat){x:Nat}{o o':Obj}(h:L[i]? = some (x,o))(ho:o'≠.none):Kn H0 (H.set x o') E (L.set i (x,o')):=by
 have hf:=hk.free i h;refine⟨λp hp=>?_,hk.ext,λp hp=>?_,hk.dE,by rw[CR h];exact hk.dL,λm hm hn=>?_⟩
 ·rcases Jb.1 hp with hp|hp
  ·have:p.1≠x:=λhh=>hk.ext p hp (hh▸hf);rw[Heap.af _ _ this];exact hk.get p (Jc _ hp)
  ·rcases BQ hp with rfl|⟨j,hj,hp⟩
   ·exact⟨Heap.aC _ _ _,ho⟩
   ·have:p.1≠x:=λhh=>hj (BP hk.dL hp h hh);rw[Heap.af _ _ this];exact hk.get p (Jd _ (Ja hp))
 ·rcases BQ hp with rfl|⟨j,hj,hp⟩
  ·exact hf
  ·exact hk.loc p (Ja hp)
 ·have:m≠x:=λhh=>by subst hh;exact hm hf
  rw[Heap.af _ _ this];exact hk.chg m hm hn
theorem Kn.setE (hk:Kn H0 H E L)(i:Nat){x:Nat}{o o':Obj}(h:E[i]? = some (x,o))(ho:o'≠.none):Kn H0 (H.set x o') (E.set i (x,o')) L:=by
 have hf:=hk.usedE i h;refine⟨λp hp=>?_,λp hp=>?_,hk.loc,by rw[CR h];exact hk.dE,hk.dL,λm hm hn=>?_⟩
 ·rcases Jb.1 hp with hp|hp
  ·rcases BQ hp with rfl|⟨j,hj,hp⟩
   ·exact⟨Heap.aC _ _ _,ho⟩
   ·have:p.1≠x:=λhh=>hj (BP hk.dE hp h hh);rw[Heap.af _ _ this];exact hk.get p (Jc _ (Ja hp))
  ·have:p.1≠x:=λhh=>hf (hh▸hk.loc p hp);rw[Heap.af _ _ this];exact hk.get p (Jd _ hp)
 ·rcases BQ hp with rfl|⟨j,hj,hp⟩
  ·exact hf
  ·exact hk.ext p (Ja hp)
 ·rw[CR h]at hn;have:m≠x:=λhh=>by subst hh;exact hn (Ax (p:=(m,o)) (Ja h))
  rw[Heap.af _ _ this];exact hk.chg m hm hn
theorem Kn.app (hk:Kn H0 H E L)(i:Nat){y y':Nat}{o o':Obj}(h:L[i]? = some (y,o))(hy:(H.set y .none) y'=.none)(ho:o'≠.none) :
  Kn H0 ((H.set y .none).set y' o') E (L.set i (y',o')):=by
 have hf:=hk.free i h;have oi:H0 y'=.none/\y'∉E.map Prod.fst/\∀(j:Nat) (p:Nat×Obj),j≠i->L[j]? = some p->p.1≠y':=by
  by_cases xz:y'=y
  ·subst xz;refine⟨hf,λhh=>?_,λj p hj hp hh=>hj (BP hk.dL hp h hh)⟩;obtain⟨p,hp,hh⟩:=Jf.1 hh;exact hk.ext p hp (hh▸hf)
  ·rw[Heap.af _ _ xz]at hy;obtain⟨h1,h2,h3⟩:=hk.newFree hy;exact⟨h1,h2,λj p hj hp hh=>h3 (hh▸Ax (Ja hp))⟩
 obtain⟨h1,h2,h3⟩:=oi;refine⟨λp hp=>?_,hk.ext,λp hp=>?_,hk.dE,?_,λm hm hn=>?_⟩
 ·rcases Jb.1 hp with hp|hp
  ·have a1:p.1≠y:=λhh=>hk.ext p hp (hh▸hf);have a2:p.1≠y':=λhh=>hk.ext p hp (hh▸h1);rw[Heap.af _ _ a2,Heap.af _ _ a1];exact hk.get p (Jc _ hp)
  ·rcases BQ hp with rfl|⟨j,hj,hp⟩
   ·exact⟨Heap.aC _ _ _,ho⟩
   ·have a1:p.1≠y:=λhh=>hj (BP hk.dL hp h hh);rw[Heap.af _ _ (h3 j p hj hp),Heap.af _ _ a1];exact hk.get p (Jd _ (Ja hp))
 ·rcases BQ hp with rfl|⟨j,hj,hp⟩
  ·exact h1
  ·exact hk.loc p (Ja hp)
 ·rw[J7];refine Jac.2 λa b ha hb df=>?_;rw[List.length_set,J1]at ha hb;have gl:∀(j:Nat) (hj:j<L.length),j≠i->L[j].1≠y':=λj hj hji=>h3 j L[j] hji (Jw hj);have hd:=Jac.1 hk.dL a b Zax ZW df;simp only[J8,List.getElem_map]at hd⊢;by_cases e1:i=a
  ·subst e1;rw[if_pos rfl,if_neg ZD];exact λhh=>gl b hb ZD hh.symm
  ·rw[if_neg e1];by_cases e2:i=b
   ·subst e2;rw[if_pos rfl];exact gl a ha ZD
   ·rw[if_neg e2];exact hd
 ·have a1:m≠y:=λhh=>by subst hh;exact hm hf
  have a2:m≠y':=λhh=>by subst hh;exact hm h1
  rw[Heap.af _ _ a2,Heap.af _ _ a1];exact hk.chg m hm hn
theorem Kn.callg (hk:Kn H0 H E L){U E2 L2:List (Nat×Obj)}(hu:Upd H H' U)(hE:E2.map Prod.fst=E.map Prod.fst)(hL:L2.map Prod.fst=L.map Prod.fst)
  (h:∀p∈E2++L2,p.2≠.none/\(p∈U\/(p∈E++L/\p.1∉U.map Prod.fst))) (hU:∀u∈U,u.1∈E.map Prod.fst\/u.1∈L.map Prod.fst):Kn H0 H' E2 L2:=by
 have cV:∀{A B:List (Nat×Obj)} {p:Nat×Obj},B.map Prod.fst=A.map Prod.fst->p∈B->∃q∈A,q.1=p.1:=λlR hp=>by
  have:=Ax hp;rw[lR]at this;obtain⟨q,h1,h2⟩:=Jf.1 this;exact⟨q,h1,h2⟩
 refine⟨λp hp=>?_,λp hp=>?_,λp hp=>?_,by rw[hE];exact hk.dE,by rw[hL];exact hk.dL,λm hm hn=>?_⟩
 ·obtain⟨h1,h2⟩:=h p hp;refine⟨?_,h1⟩;rcases h2 with h2|⟨h2,h3⟩
  ·exact hu.1 p h2
  ·obtain⟨a1,a2⟩:=hk.get p h2;rw[hu.2 p.1 (by rw[a1];exact a2) h3,a1]
 ·obtain⟨q,hq,hh⟩:=cV hE hp;rw[<-hh];exact hk.ext q hq
 ·obtain⟨q,hq,hh⟩:=cV hL hp;rw[<-hh];exact hk.loc q hq
 ·rw[hE]at hn;have h0:=hk.chg m hm hn;rw[hu.2 m (by rw[h0];exact hm) (λhh=>?_),h0];obtain⟨u,sW,dx⟩:=Jf.1 hh;rcases hU u sW with a|a
  ·exact hn (dx▸a)
  ·obtain⟨q,hq,hh⟩:=Jf.1 a;exact hm (by rw[<-dx,<-hh];exact hk.loc q hq)
theorem Kn.aw (hk:Kn H0 H E L)(hu:Upd H H' []):Kn H0 H' E L:=hk.callg hu rfl rfl (λp hp=>⟨(hk.get p hp).2,.inr ⟨hp,ZF⟩⟩) ZF
theorem Kn.am (hk:Kn H0 H E L)(i:Nat){l:Nat}{o o':Obj}(h:E[i]? = some (l,o))(hu:Upd H H' [(l,o')])(ho:o'≠.none):Kn H0 H' (E.set i (l,o')) L:=by
 refine hk.callg hu (CR h) rfl (λp hp=>?_) (λu hu=>by simp at hu;subst hu;exact .inl (Ax (p:=(l,o)) (Ja h)));rcases Jb.1 hp with hp|hp
 ·rcases BQ hp with rfl|⟨j,hj,hp⟩
  ·exact⟨ho,.inl ZF⟩
  ·have hm:=Jc L (Ja hp);exact⟨(hk.get p hm).2,.inr ⟨hm,by simp;exact λhh=>hj (BP hk.dE hp h hh)⟩⟩
 ·have hm:=Jd E hp;exact⟨(hk.get p hm).2,.inr ⟨hm,by simp;exact λhh=>hk.usedE i h (hh▸hk.loc p hp)⟩⟩
theorem Kn.callL (hk:Kn H0 H E L)(i:Nat){l:Nat}{o o':Obj}(h:L[i]? = some (l,o))(hu:Upd H H' [(l,o')])(ho:o'≠.none):Kn H0 H' E (L.set i (l,o')):=by
 refine hk.callg hu rfl (CR h) (λp hp=>?_) (λu hu=>by simp at hu;subst hu;exact .inr (Ax (p:=(l,o)) (Ja h)));rcases Jb.1 hp with hp|hp
 ·have hm:=Jc L hp;exact⟨(hk.get p hm).2,.inr ⟨hm,by simp;exact λhh=>hk.ext p hp (hh▸hk.free i h)⟩⟩
 ·rcases BQ hp with rfl|⟨j,hj,hp⟩
  ·exact⟨ho,.inl ZF⟩
  ·have hm:=Jd E (Ja hp);exact⟨(hk.get p hm).2,.inr ⟨hm,by simp;exact λhh=>hj (BP hk.dL hp h hh)⟩⟩
theorem Kn.callEE (hk:Kn H0 H E L)(i j:Nat){l m:Nat}{o o' q q':Obj}(h:E[i]? = some (l,o))(h2:E[j]? = some (m,q))(gy:i≠j)(hu:Upd H H' [(l,o'),(m,q')])(ho:o'≠.none)(hq:q'≠.none) :
  Kn H0 H' ((E.set i (l,o')).set j (m,q')) L:=by
 have tK:(E.set i (l,o'))[j]? = some (m,q):=by rw[J4];rw[if_neg gy];exact h2
 refine hk.callg hu ((CR tK).trans (CR h)) rfl (λp hp=>?_) (λu hu=>?_)
 ·rcases Jb.1 hp with hp|hp
  ·rcases BQ hp with rfl|⟨b,hb,hp⟩
   ·exact⟨hq,.inl ZF⟩
   ·rcases BQ (Ja hp)with rfl|⟨c,hc,bX⟩
    ·exact⟨ho,.inl ZF⟩
    ·have hm:=Jc L (Ja bX);rw[J4]at hp;split at hp
     ·rename_i tu
      split at hp
      ·simp at hp;subst hp;exact⟨ho,.inl ZF⟩
      ·simp at hp
     ·rename_i tu
      refine⟨(hk.get p hm).2,.inr ⟨hm,?_⟩⟩;simp only[Jp,J6,Jg,J9,or_false,not_or];exact⟨λhh=>tu (BP hk.dE hp h hh).symm,λhh=>hb (BP hk.dE hp h2 hh)⟩
  ·have hm:=Jd E hp;refine⟨(hk.get p hm).2,.inr ⟨hm,?_⟩⟩;simp only[Jp,J6,Jg,J9,or_false,not_or];exact⟨λhh=>hk.usedE i h (hh▸hk.loc p hp),λhh=>hk.usedE j h2 (hh▸hk.loc p hp)⟩
 ·simp at hu;rcases hu with rfl|rfl
  ·exact .inl (Ax (p:=(l,o)) (Ja h))
  ·exact .inl (Ax (p:=(m,q)) (Ja h2))
theorem Kn.fin (hk:Kn H0 H E L):Upd H0 (H.frz (Go.AE.un H0)) E:=by
 refine⟨λp hp=>?_,λm hm hn=>?_⟩
 ·rw[EB (hk.ext p hp)];exact (hk.get p (Jc _ hp)).1
 ·rw[EB hm];exact hk.chg m hm hn
abbrev unK (H:Heap)(K:V->Heap->Prop):V->Heap->Prop
 |.pn v,H'=>K (.pn v) (H'.frz (un H))
 |x,H'=>∃x',FrzV H' (un H) x x'/\K x' (H'.frz (un H))
theorem Qb0y {K:V->Heap->Prop}{H0:Heap}{x:C}:unK H0 K (.c x) H=∃x',FrzV H (un H0) (.c x) x'/\K x' (H.frz (un H0)):=rfl
theorem TO {K:V->Heap->Prop}{H0:Heap}{x:List C}:unK H0 K (.ag x) H=∃x',FrzV H (un H0) (.ag x) x'/\K x' (H.frz (un H0)):=rfl
theorem Xp {K:V->Heap->Prop}{H0:Heap}{x:List V}:unK H0 K (.tup x) H=∃x',FrzV H (un H0) (.tup x) x'/\K x' (H.frz (un H0)):=rfl
theorem Xo {K:V->Heap->Prop}{H0:Heap}:unK H0 K .unk H=∃x',FrzV H (un H0) .unk x'/\K x' (H.frz (un H0)):=rfl
theorem TN {K:V->Heap->Prop}{H0:Heap}{v:Value}:unK H0 K (.pn v) H=K (.pn v) (H.frz (un H0)):=rfl
attribute [go_sem] Qb0y TO Xp Xo TN
theorem Q0 {f:Nat}{args:List V}{K:V->Heap->Prop}(h:Qv P f args H (unK H K)):Qv P f args H K:=
 Qbl3 (Qbhq h λx H' hx=>by
  cases x with
  |pn v=>exact⟨un H,hx⟩
  |_=>
   obtain⟨x',h1,h2⟩:=hx;exact⟨un H,x',h1,h2⟩)
theorem Kn.al (hk:Kn H0 H E L){x:Nat}{o:Obj}(hx:H x=.none)(h1:H'=H.set x o)(ho:o≠.none:=by nofun):Kn H0 H' E (L++[(x,o)]):=h1▸hk.alloc hx ho
theorem Kn.aB (hk:Kn H0 H E L)(i:Nat){x:Nat}{o o':Obj}(h:L[i]? = some (x,o))(h1:H'=H.set x o')(ho:o'≠.none:=by nofun):Kn H0 H' E (L.set i (x,o')):=h1▸hk.setL i h ho
theorem Kn.stE (hk:Kn H0 H E L)(i:Nat){x:Nat}{o o':Obj}(h:E[i]? = some (x,o))(h1:H'=H.set x o')(ho:o'≠.none:=by nofun):Kn H0 H' (E.set i (x,o')) L:=h1▸hk.setE i h ho
theorem Kn.ap (hk:Kn H0 H E L)(i:Nat){y y':Nat}{o o':Obj}(h:L[i]? = some (y,o))(hy:(H.set y .none) y'=.none)(h1:H'=(H.set y .none).set y' o')(ho:o'≠.none:=by nofun):Kn H0 H' E (L.set i (y',o')):=h1▸hk.app i h hy ho
end Go.AE
namespace Go.AE.Y
theorem Qo {x:Int}(h1:-(2^63)<=x:=by omega)(h2:x<2^63:=by omega):inR .i64 x:=by
 unfold inR;have a1:IntKind.min .i64=-(2^63):=ZR
 have a2:IntKind.max .i64=2^63-1:=ZR
 rw[a1,a2];omega
theorem IL (b:UInt8):inR .i64 (b.toNat:Int):=Qo ZD (by have:=b.toNat_lt;omega)
def Bb (bs:List UInt8):List (List C):=bs.map λb=>[.int .u8 b.toNat]
theorem C8 (bs:List UInt8):(Bb bs).length=bs.length:=by simp[Bb]
theorem Q8p (bs:List UInt8)(i:Nat)(h:i<bs.length):(Bb bs).getD i []=[.int .u8 (bs.getD i 0).toNat]:=by
 simp[Bb,Je,h]
theorem V8 {a b:Int}(ha:0<=a)(hb:0<=b)(yK:a<2^62)(aU:b<2^62):0<=Cd .xor .i64 a b:=by
 obtain⟨m,rfl⟩:=Jad ha;obtain⟨n,rfl⟩:=Jad hb;have hm:m<2^62:=ZD
 have hn:n<2^62:=ZD
 have hx:m ^^^ n<2^62:=Nat.xor_lt_two_pow hm hn;have h1:(BitVec.ofInt (IntKind.bits .i64) (m:Int) ^^^ BitVec.ofInt (IntKind.bits .i64) (n:Int)).toNat=m ^^^ n:=by
  have hb:IntKind.bits .i64=64:=rfl;rw[hb,BitVec.toNat_xor];have e1:(BitVec.ofInt 64 (m:Int)).toNat=m:=ZJ
  have e2:(BitVec.ofInt 64 (n:Int)).toNat=n:=ZJ
  rw[e1,e2]
 simp only[Cd];rw[h1];simp only[IntKind.wrap];have hb:IntKind.bits .i64=64:=rfl;have hm:((m ^^^ n:Nat):Int) % 2 ^ 64=(m ^^^ n:Nat):=Int.emod_eq_of_lt ZD ZD;rw[hb,hm];rw[if_neg]
 ·omega
 ·simp only[Js,decide_eq_true_eq,not_and];intro _;omega
structure Rdr where
 l:Nat
 fl:Bool
 bs:List UInt8
def Rdr.o (R:Rdr)(k:Nat):Obj:=.st [.sl R.fl 1 (Bb R.bs),.int .i64 k]
theorem Rdr.aj (R:Rdr)(k:Nat):R.o k≠.none:=by simp[Rdr.o]
def Qb (ns:List Int):List (List C):=ns.map λn=>[.int .i64 n]
theorem Qe (ns:List Int):(Qb ns).length=ns.length:=Zar
theorem Qn (ns:List Int)(i:Nat)(h:i<ns.length):(Qb ns).getD i []=[.int .i64 (ns.getD i 0)]:=by
 simp[Qb,Je,h]
theorem CO (a b:List Int):Qb (a++b)=Qb a++Qb b:=Zar
theorem Qy (ns:List Int):∀r∈Qb ns,an r=true:=by
 intro r hr;simp[Qb]at hr;obtain⟨n,_,rfl⟩:=hr;rfl
def A5 (ss:List (List UInt8)):List (List C):=ss.map λs=>[.str s]
theorem Bc (ss:List (List UInt8)):(A5 ss).length=ss.length:=by simp[A5]
theorem Hj (ss:List (List UInt8))(i:Nat)(h:i<ss.length):(A5 ss).getD i []=[.str (ss.getD i [])]:=by
 simp[A5,Je,h]
theorem Qblt:A5 []=[]:=rfl
theorem Qbf3 (a:List (List UInt8))(n:List UInt8):A5 a++[[.str n]]=A5 (a++[n]):=by simp[A5]
theorem Pf (ns:List (List UInt8)):∀r∈A5 ns,an r=true:=by
 intro r hr;simp[A5]at hr;obtain⟨n,_,rfl⟩:=hr;rfl
theorem noOw_mem {rows:List (List C)}(h:∀r∈rows,an r=true):∀r∈rows,∀c∈r,c.ai=false:=λr hr c hc=>by
 have:=h r hr;simp only[an,Jaq]at this;simpa using this c hc
theorem Qbtn {a b:List (List C)}(ha:∀r∈a,an r=true)(hb:∀r∈b,an r=true):∀r∈a++b,an r=true:=λr hr=>by
 rcases Jb.1 hr with h|h
 ·exact ha r h
 ·exact hb r h
inductive Ex where
 |mk (op n:Int) (name:List UInt8) (kids:List Ex)
def Ex.op:Ex->Int|.mk op _ _ _=>op
def Ex.n:Ex->Int|.mk _ n _ _=>n
def Ex.name:Ex->List UInt8|.mk _ _ s _=>s
def Ex.kids:Ex->List Ex|.mk _ _ _ k=>k
mutual
def Ex.cells:Ex->List C
 |.mk op n name kids=>[.int .i64 op,.int .i64 n,.str name,.sl false 4 (Ap kids)]
def Ap:List Ex->List (List C)
 |[]=>[]
 |x::r=>x.cells::Ap r
end
theorem Ex.aD (x:Ex):x.cells=[.int .i64 x.op,.int .i64 x.n,.str x.name,.sl false 4 (Ap x.kids)]:=by
 cases x;simp[Ex.cells,Ex.op,Ex.n,Ex.name,Ex.kids]
theorem Rh (l:List Ex):Ap l=l.map Ex.cells:=by
 induction l with
 |nil=>simp[Ap]
 |cons x r ih=>simp[Ap,ih]
theorem Bi (l:List Ex):(Ap l).length=l.length:=by simp[Rh]
theorem Ei (l:List Ex)(i:Nat)(h:i<l.length):(Ap l).getD i []=(l[i]'h).cells:=by
 simp[Rh,Je,h]
theorem Qbh0 (a:List Ex)(x:Ex):Ap a++[x.cells]=Ap (a++[x]):=by simp[Rh]
theorem Ex.an (x:Ex):Go.AE.an x.cells=true:=Za5
theorem Ha (l:List Ex):∀r∈Ap l,Go.AE.an r=true:=by
 intro r hr;rw[Rh]at hr;obtain⟨x,_,rfl⟩:=Jf.1 hr;exact x.an
theorem Ex.au (x:Ex):x.cells.length=4:=Za5
mutual
def Ex.size:Ex->Nat
 |.mk _ _ _ kids=>1+As kids
def As:List Ex->Nat
 |[]=>0
 |x::r=>x.size+As r
end
mutual
def Ex.ok:Ex->Prop
 |.mk op _ _ kids=>(op=10->kids.length=2)/\A9 kids
def A9:List Ex->Prop
 |[]=>True
 |x::r=>x.ok/\A9 r
end
theorem F8 {l:List Ex}(h:A9 l):∀x∈l,x.ok:=by
 induction l with
 |nil=>simp
 |cons y r ih=>
  simp only[A9]at h;intro x hx;rcases Jg.1 hx with rfl|hx
  ·exact h.1
  ·exact ih h.2 x hx
theorem Qbmj {a b:List Ex}(ha:A9 a)(hb:A9 b):A9 (a++b):=by
 induction a with
 |nil=>exact hb
 |cons x r ih=>simp only[A9]at ha;exact⟨ha.1,ih ha.2⟩
theorem Ry (a b:List Ex):As (a++b)=As a+As b:=by
 induction a with
 |nil=>simp[As]
 |cons x r ih=>simp[As,ih];omega
theorem Ex.size_pos (x:Ex):1<=x.size:=by cases x;simp[Ex.size]
theorem Gv {l:List Ex}{x:Ex}(h:x∈l):x.size<=As l:=by
 induction l with
 |nil=>simp at h
 |cons y r ih=>
  simp only[As];rcases Jg.1 h with rfl|h
  ·omega
  ·have:=ih h;omega
theorem Ex.size_kids (x:Ex):x.size=1+As x.kids:=by cases x;simp[Ex.size,Ex.kids]
theorem Ex.ok_kids {x:Ex}(h:x.ok):A9 x.kids:=by cases x;simp only[Ex.ok]at h;exact h.2
theorem Ex.ok_and {x:Ex}(h:x.ok)(h1:x.op=10):x.kids.length=2:=by cases x;simp only[Ex.ok]at h;exact h.1 h1
theorem Ex.frz {H:Heap}{S:Nat->Bool}{fl:Bool}(x:Ex):FrzV H S (.ag [.int .i64 x.op,.int .i64 x.n,.str x.name,.sl fl 4 (Ap x.kids)]) (.ag x.cells):=by
 rw[x.aD];exact (FrzL.cons (Qi rfl) (FrzL.cons (Qi rfl) (FrzL.cons (Qi rfl) (FrzL.cons (D0 (noOw_mem (Ha _))) FrzL.nil)))).ag
variable {H:Heap}{S:Nat->Bool}
inductive FrzR (H:Heap)(S:Nat->Bool):List (List C)->List (List C)->Prop
 |nil:FrzR H S [] []
 |cons {r r':List C} {l l':List (List C)} (h:FrzL H S r r') (t:FrzR H S l l'):FrzR H S (r::l) (r'::l')
theorem FrzR.spec {l l':List (List C)}(h:FrzR H S l l'):l'.length=l.length/\∀(i:Nat) (r r':List C),l[i]? = some r->l'[i]? = some r'->FrzL H S r r':=by
 induction h with
 |nil=>exact⟨rfl,λj c c' h=>ZK⟩
 |cons h t ih=>
  refine⟨Zbi,λj c c' h1 h2=>?_⟩
  cases j with
  |zero=>simp at h1 h2;subst h1;subst h2;exact h
  |succ j=>simp at h1 h2;exact ih.2 j c c' h1 h2
theorem FrzR.sl {fl:Bool}{sz:Nat}{l l':List (List C)}(h:FrzR H S l l'):FrzC H S (.sl fl sz l) (.sl false sz l'):=
 .sl fl sz l l' h.spec.1 (λi r r' h1 h2=>(h.spec.2 i r r' h1 h2).spec.1) λi r r' j c c' h1 h2 h3 h4=>(h.spec.2 i r r' h1 h2).spec.2 j c c' h3 h4
theorem FrzR.ah {l sz n:Nat}{rows rows':List (List C)}(hS:S l=true)(hH:H l=.vec sz rows)(hn:n=rows.length)(h:FrzR H S rows rows'):FrzC H S (.ah l sz 0 n) (.sl false sz rows'):=by
 subst hn;exact .ah l sz 0 rows.length rows rows rows' hS hH ZD ZF h.spec.1 (λi r r' h1 h2=>(h.spec.2 i r r' h1 h2).spec.1) λi r r' j c c' h1 h2 h3 h4=>(h.spec.2 i r r' h1 h2).spec.2 j c c' h3 h4
end Go.AE.Y
namespace Go.AE
open Go.AE.Y
variable {H:Heap}{S:Nat->Bool}
theorem FrzL.same {l:List C}(h:an l=true):FrzL H S l l:=by
 induction l with
 |nil=>exact .nil
 |cons c r ih=>
  simp only[an,J2,Js,Jan]at h ih;exact .cons (.same _ h.1) (ih (by simpa using h.2))
end Go.AE
namespace Go.AE.Y
variable {H:Heap}{S:Nat->Bool}
theorem FrzR.same {l:List (List C)}(h:∀r∈l,an r=true):FrzR H S l l:=by
 induction l with
 |nil=>exact .nil
 |cons c r ih=>exact .cons (.same (h _ Ju)) (ih λx hx=>h x (Jt _ hx))
theorem FrzR.app {a a' b b':List (List C)}(h:FrzR H S a a')(k:FrzR H S b b'):FrzR H S (a++b) (a'++b'):=by
 induction h with
 |nil=>exact k
 |cons h t ih=>exact .cons h ih
end Go.AE.Y
namespace Go.AE
open Go.AE.Y
variable {H:Heap}{S:Nat->Bool}
theorem Upd.set2 {H H':Heap}{a b:Nat}{oa ob o:Obj}(h:Upd H H' [(a,oa),(b,ob)])(hn:a≠b):Upd H (H'.set b o) [(a,oa),(b,o)]:=by
 refine⟨λp hp=>?_,λm hm hx=>?_⟩
 ·simp at hp;rcases hp with rfl|rfl
  ·show (H'.set b o) a=oa;rw[Heap.af _ _ hn];exact h.1 (a,oa) ZF
  ·exact Heap.aC _ _ _
 ·have:m≠b:=by simp at hx;exact hx.2
  rw[Heap.af _ _ this];exact h.2 m hm (by simpa using hx)
end Go.AE
namespace Go.AE.Y
variable {H:Heap}{S:Nat->Bool}
inductive St where
 |mk (op:Int) (name:List UInt8) (args:List Ex) (body els:List St)
def St.op:St->Int|.mk op _ _ _ _=>op
def St.name:St->List UInt8|.mk _ s _ _ _=>s
def St.args:St->List Ex|.mk _ _ a _ _=>a
def St.body:St->List St|.mk _ _ _ b _=>b
def St.els:St->List St|.mk _ _ _ _ e=>e
mutual
def St.cells:St->List C
 |.mk op name args body els=>[.int .i64 op,.str name,.sl false 4 (Ap args),.sl false 5 (Ak body),.sl false 5 (Ak els)]
def Ak:List St->List (List C)
 |[]=>[]
 |x::r=>x.cells::Ak r
end
theorem St.aD (x:St):x.cells=[.int .i64 x.op,.str x.name,.sl false 4 (Ap x.args),.sl false 5 (Ak x.body),.sl false 5 (Ak x.els)]:=by
 cases x;simp[St.cells,St.op,St.name,St.args,St.body,St.els]
theorem PZ (l:List St):Ak l=l.map St.cells:=by
 induction l with
 |nil=>simp[Ak]
 |cons x r ih=>simp[Ak,ih]
theorem Bp (l:List St):(Ak l).length=l.length:=by simp[PZ]
theorem Ej (l:List St)(i:Nat)(h:i<l.length):(Ak l).getD i []=(l[i]'h).cells:=by
 simp[PZ,Je,h]
theorem Fc (a b:List St):Ak a++Ak b=Ak (a++b):=by simp[PZ]
theorem St.an (x:St):Go.AE.an x.cells=true:=Za5
theorem Gn (l:List St):∀r∈Ak l,Go.AE.an r=true:=by
 intro r hr;rw[PZ]at hr;obtain⟨x,_,rfl⟩:=Jf.1 hr;exact x.an
theorem St.au (x:St):x.cells.length=5:=Za5
mutual
def St.size:St->Nat
 |.mk _ _ args body els=>1+As args+Ah body+Ah els
def Ah:List St->Nat
 |[]=>0
 |x::r=>x.size+Ah r
end
mutual
def St.ok:St->Prop
 |.mk _ _ args body els=>0<args.length/\A9 args/\A2 body/\A2 els
def A2:List St->Prop
 |[]=>True
 |x::r=>x.ok/\A2 r
end
theorem Qbq2 {l:List St}(h:A2 l):∀x∈l,x.ok:=by
 induction l with
 |nil=>simp
 |cons y r ih=>
  simp only[A2]at h;intro x hx;rcases Jg.1 hx with rfl|hx
  ·exact h.1
  ·exact ih h.2 x hx
theorem Fb {a b:List St}(ha:A2 a)(hb:A2 b):A2 (a++b):=by
 induction a with
 |nil=>exact hb
 |cons x r ih=>simp only[A2]at ha;exact⟨ha.1,ih ha.2⟩
theorem Hi (a b:List St):Ah (a++b)=Ah a+Ah b:=by
 induction a with
 |nil=>simp[Ah]
 |cons x r ih=>simp[Ah,ih];omega
theorem St.size_eq (x:St):x.size=1+As x.args+Ah x.body+Ah x.els:=by cases x;simp[St.size,St.args,St.body,St.els]
theorem St.ok_eq (x:St):x.ok=(0<x.args.length/\A9 x.args/\A2 x.body/\A2 x.els):=by cases x;simp[St.ok,St.args,St.body,St.els]
theorem Pi {l:List St}{x:St}(h:x∈l):x.size<=Ah l:=by
 induction l with
 |nil=>simp at h
 |cons y r ih=>
  simp only[Ah];rcases Jg.1 h with rfl|h
  ·omega
  ·have:=ih h;omega
structure Fn where
 name:List UInt8
 params:List (List UInt8)
 body:List St
def Fn.cells (f:Fn):List C:=[.str f.name,.sl false 1 (A5 f.params),.sl false 5 (Ak f.body)]
def Av (l:List Fn):List (List C):=l.map Fn.cells
theorem BC (l:List Fn):(Av l).length=l.length:=by simp[Av]
theorem Gl (l:List Fn)(i:Nat)(h:i<l.length):(Av l).getD i []=(l[i]'h).cells:=by
 simp[Av,Je,h]
theorem KM (a:List Fn)(x:Fn):Av a++[x.cells]=Av (a++[x]):=by simp[Av]
theorem Fn.an (x:Fn):Go.AE.an x.cells=true:=rfl
theorem Fn.au (x:Fn):x.cells.length=3:=rfl
theorem KN (l:List Fn):∀r∈Av l,Go.AE.an r=true:=by
 intro r hr;obtain⟨x,_,rfl⟩:=Jf.1 hr;exact x.an
structure GS where
 fns:List Fn
 ffl:C×List (Nat×Obj)
 vars:List (List UInt8)
 vfl:Bool
 next:Int
 left:Int
def GS.o (s:GS)(R:Rdr):Obj:=.st [.ptr R.l 0,s.ffl.1,.sl s.vfl 1 (A5 s.vars),.int .i64 s.next,.int .i64 s.left]
theorem GS.aj (s:GS)(R:Rdr):s.o R≠.none:=by simp[GS.o]
structure GS.ok (s:GS)(k:Nat):Prop where
 n0:-1<=s.next
 n1:s.next<=k+10
 l0:-(4 * (k:Int)+10)<=s.left
 l1:s.left<=100
 v:s.vars.length<=k+10
 f:∀f∈s.fns,f.params.length<=3
 fn:s.fns.length<=3
theorem GS.ok.mono {s:GS}{k k':Nat}(h:s.ok k)(hk:k<=k'):s.ok k':=
 ⟨h.n0,by have:=h.n1;omega,by have:=h.l0;omega,h.l1,by have:=h.v;omega,h.f,h.fn⟩
end Go.AE.Y
namespace Go.AE
variable {H0 H H':Heap}{E L B:List (Nat×Obj)}
theorem Upd.drop2 {H H':Heap}{a b:Nat}{oa ob:Obj}(h:Upd H H' [(a,oa),(b,ob)])(hb:H b=ob):Upd H H' [(a,oa)]:=by
 refine⟨λp hp=>h.1 p (by simp at hp;subst hp;simp),λm hm hx=>?_⟩;by_cases gH:m=b
 ·subst gH;rw[hb];exact h.1 (m,ob) ZF
 ·exact h.2 m hm (by simp at hx⊢;exact⟨hx,gH⟩)
theorem Upd.drop1 {H H':Heap}{a:Nat}{oa:Obj}(h:Upd H H' [(a,oa)])(ha:H a=oa):Upd H H' []:=by
 refine⟨ZF,λm hm hx=>?_⟩;by_cases gH:m=a
 ·subst gH;rw[ha];exact h.1 (m,oa) ZF
 ·exact h.2 m hm (by simpa using gH)
theorem Kn.perm {L':List (Nat×Obj)}(h:Kn H0 H E L)(hp:L.Perm L'):Kn H0 H E L':=
 ⟨λp bX=>h.get p (by
   rcases Jb.1 bX with a|a
   ·exact Jc _ a
   ·exact Jd _ (hp.mem_iff.2 a)),h.ext,λp bX=>h.loc p (hp.mem_iff.2 bX),h.dE,(hp.map Prod.fst).nodup_iff.1 h.dL,h.chg⟩
def Gr (Lg:List (Nat×Obj))(sz:Nat)(rows:List (List C))(c:C):Prop:=
 (c=.sl true sz []/\rows=[]/\Lg=[])\/∃y,c=.ah y sz 0 rows.length/\Lg=[(y,.vec sz rows)]
theorem Gr.nil (sz:Nat):Gr [] sz [] (.sl true sz []):=.inl ⟨rfl,rfl,rfl⟩
theorem Gr.mk (y sz:Nat)(rows:List (List C)){n:Nat}(hn:n=rows.length):Gr [(y,.vec sz rows)] sz rows (.ah y sz 0 n):=.inr ⟨y,by rw[hn],rfl⟩
variable {sz:Nat}{rows:List (List C)}{c:C}{Lg:List (Nat×Obj)}
theorem Gr.ai (h:Gr Lg sz rows c):c.ai=false:=by rcases h with ⟨rfl,_⟩|⟨y,rfl,_⟩ <;> rfl
theorem Gr.aN (h:Gr Lg sz rows c):c.aN=sz:=by rcases h with ⟨rfl,_⟩|⟨y,rfl,_⟩ <;> rfl
theorem Gr.ax (h:Gr Lg sz rows c):ax c=rows.length:=by
 rcases h with ⟨rfl,rfl,_⟩|⟨y,rfl,_⟩ <;> rfl
theorem Gr.get (h:Gr Lg sz rows c)(kn:Kn H0 H E (B++Lg)):aZ H c/\rowsOf H c=rows:=by
 rcases h with ⟨rfl,rfl,_⟩|⟨y,rfl,rfl⟩
 ·exact⟨trivial,rfl⟩
 ·have hy:H y=.vec sz rows:=(kn.get (y,.vec sz rows) ZF).1;refine⟨?_,?_⟩
  ·simp[aZ,hy]
  ·simp[rowsOf,hy]
theorem Gr.aZ (h:Gr Lg sz rows c)(kn:Kn H0 H E (B++Lg)):Go.AE.aZ H c:=(h.get kn).1
theorem Gr.rowsOf (h:Gr Lg sz rows c)(kn:Kn H0 H E (B++Lg)):Go.AE.rowsOf H c=rows:=(h.get kn).2
theorem Gr.frz (h:Gr Lg sz rows c)(kn:Kn H0 H E (B++Lg))(hr:∀r∈rows,an r=true):FrzC H (un H0) c (.sl false sz rows):=by
 rcases h with ⟨rfl,rfl,_⟩|⟨y,rfl,rfl⟩
 ·exact Y.FrzR.nil.sl
 ·exact (Y.FrzR.same hr).ah (BE (kn.loc (y,.vec sz rows) ZF)) (kn.get (y,.vec sz rows) ZF).1 rfl
theorem Gr.frzR {rows':List (List C)}(h:Gr Lg sz rows c)(kn:Kn H0 H E (B++Lg))(hr:Y.FrzR H (un H0) rows rows'):FrzC H (un H0) c (.sl false sz rows'):=by
 rcases h with ⟨rfl,rfl,_⟩|⟨y,rfl,rfl⟩
 ·cases hr;exact Y.FrzR.nil.sl
 ·exact hr.ah (BE (kn.loc (y,.vec sz rows) ZF)) (kn.get (y,.vec sz rows) ZF).1 rfl
structure Slc (H:Heap)(sz:Nat)(rws:List (List C))(b:C):Prop where
 ok:aZ H b
 sz:b.aN=sz
 rows:rowsOf H b=rws
 len:Go.AE.ax b=rws.length
theorem Slc.mk' (H:Heap)(fl:Bool)(sz:Nat)(rows:List (List C)):Slc H sz rows (.sl fl sz rows):=⟨trivial,rfl,rfl,rfl⟩
theorem Kn.grow {K:V->Heap->Prop}{new:List (List C)}{b:C}(kn:Kn H0 H E (B++Lg))(hc:Gr Lg sz rows c)(hb:Slc H sz new b)
  (h1:∀r∈new,an r=true) (h2:rows.length+new.length<=LIM)
  (h:∀y' H',Kn H0 H' E (B++[(y',.vec sz (rows++new))])->K (.c (.ah y' sz 0 (rows.length+new.length))) H'):appQ H sz c b K:=by
 refine⟨hb.ok,hb.sz,?_⟩;rcases hc with ⟨rfl,rfl,rfl⟩|⟨y,rfl,rfl⟩
 ·simp only[hb.rows,hb.len,Jq,Jai,Jap];refine⟨trivial,.inl trivial,h1,Zag,λl hl H' dt=>?_⟩;rw[Jah]at kn;have:=h l H' (by simpa using kn.al hl dt);simpa using this
 ·have hy:H y=.vec sz rows:=(kn.get (y,.vec sz rows) ZF).1;simp only[hy,hb.rows,hb.len,Jab,List.take_length];refine⟨trivial,trivial,ZD,h1,h2,λl' cZ H' dt=>?_⟩;refine h l' H' ?_;have:=kn.ap B.length (y:=y) (o:=.vec sz rows) ZF cZ dt;simpa using this
end Go.AE
namespace Go.AE.Y
variable {H H':Heap}{R:Rdr}{gl:Nat}{s s':GS}{L:List (Nat×Obj)}{o q:Obj}
def FnsOk (H:Heap)(R:Rdr)(gl:Nat)(s:GS):Prop:=Gr s.ffl.2 3 (Av s.fns) s.ffl.1/\∀p∈s.ffl.2,H p.1=p.2/\p.1≠R.l/\p.1≠gl
theorem FnsOk.keep (h:FnsOk H R gl s)(kn:Kn H H' [(R.l,o),(gl,q)] L)(h1:s'.fns=s.fns)(h2:s'.ffl=s.ffl):FnsOk H' R gl s':=by
 refine⟨by rw[h1,h2];exact h.1,λp hp=>?_⟩;rw[h2]at hp;obtain⟨a1,a2,a3⟩:=h.2 p hp;refine⟨?_,a2,a3⟩;have hn:p.2≠.none:=by
  rcases h.1 with ⟨_,_,hx⟩|⟨y,_,hx⟩
  ·rw[hx]at hp;simp at hp
  ·rw[hx]at hp;simp at hp;subst hp;simp
 rw[kn.chg p.1 (by rw[a1];exact hn) (by simp[a2,a3]),a1]
theorem FnsOk.rd (h:FnsOk H R gl s):aZ H s.ffl.1=True/\rowsOf H s.ffl.1=Av s.fns:=by
 rcases h.1 with ⟨h1,h2,h3⟩|⟨y,h1,h3⟩
 ·rw[h1,h2];exact⟨rfl,rfl⟩
 ·have hy:H y=.vec 3 (Av s.fns):=(h.2 (y,.vec 3 (Av s.fns)) (by rw[h3];simp)).1;rw[h1];exact⟨by simp[aZ,hy],by simp[rowsOf,hy]⟩
theorem FnsOk.ok (h:FnsOk H R gl s)(kn:Kn H H' [(R.l,o),(gl,q)] L):aZ H' s.ffl.1=True:=(h.keep kn rfl rfl).rd.1
theorem FnsOk.rows (h:FnsOk H R gl s)(kn:Kn H H' [(R.l,o),(gl,q)] L):rowsOf H' s.ffl.1=Av s.fns:=(h.keep kn rfl rfl).rd.2
theorem FnsOk.len (h:FnsOk H R gl s):ax s.ffl.1=s.fns.length:=by rw[h.1.ax,BC]
theorem FnsOk.esz (h:FnsOk H R gl s):s.ffl.1.aN=3:=h.1.aN
theorem FnsOk.ow (h:FnsOk H R gl s):s.ffl.1.ai=false:=h.1.ai
end Go.AE.Y
namespace Go.AE
variable {H0 H H':Heap}{E L B E0 L0 Lg:List (Nat×Obj)}
def New (H H':Heap)(N:List (Nat×Obj)):Prop:=∀p∈N,H p.1=.none/\H' p.1=p.2
theorem Kn.add1 (kn0:Kn H0 H E0 L0)(kn:Kn H0 H' E L)(hE:E.map Prod.fst=E0.map Prod.fst)(hL:L.map Prod.fst=L0.map Prod.fst){x:Nat}{o:Obj}(hx:H x=.none)(dv:H' x=o)(ho:o≠.none):Kn H0 H' E (L++[(x,o)]):=by
 obtain⟨h1,h2,h3⟩:=kn0.newFree hx;refine⟨λp hp=>?_,kn.ext,λp hp=>?_,kn.dE,?_,kn.chg⟩
 ·rw[<-Jk]at hp;rcases Jb.1 hp with hp|hp
  ·exact kn.get p hp
  ·simp at hp;subst hp;exact⟨dv,ho⟩
 ·rcases Jb.1 hp with hp|hp
  ·exact kn.loc p hp
  ·simp at hp;subst hp;exact h1
 ·rw[Jm];refine Jj.2 ⟨kn.dL,ZF,λa ha b hb=>?_⟩;simp at hb;subst hb;rw[hL]at ha;exact λhh=>h3 (hh▸ha)
theorem Kn.addGr {sz:Nat}{rows:List (List C)}{c:C}(kn0:Kn H0 H E0 L0)(kn:Kn H0 H' E L)(hE:E.map Prod.fst=E0.map Prod.fst)(hL:L.map Prod.fst=L0.map Prod.fst)(hg:Gr Lg sz rows c)(hn:New H H' Lg):Kn H0 H' E (L++Lg):=by
 rcases hg with ⟨_,_,rfl⟩|⟨y,_,rfl⟩
 ·simpa using kn
 ·obtain⟨h1,h2⟩:=hn (y,.vec sz rows) ZF;exact kn0.add1 kn hE hL h1 h2 ZF
def unx (H:Heap)(Lg:List (Nat×Obj))(m:Nat):Bool:=un H m&&!(Lg.map Prod.fst).contains m
theorem It {m:Nat}(h:H m≠.none):unx H Lg m=false:=by simp[unx,EE h]
theorem Xn {p:Nat×Obj}(h:p∈Lg):unx H Lg p.1=false:=by
 have:p.1∈Lg.map Prod.fst:=Ax h;simp only[unx,Bool.and_eq_false_iff,Bool.not_eq_false'];exact .inr (List.contains_iff_mem.2 this)
theorem Kn.finx (hk:Kn H0 H E (B++Lg)):Upd H0 (H.frz (Go.AE.unx H0 Lg)) E/\New H0 (H.frz (Go.AE.unx H0 Lg)) Lg:=by
 refine⟨⟨λp hp=>?_,λm hm hn=>?_⟩,λp hp=>⟨hk.loc p (Jd _ hp),?_⟩⟩
 ·have:H.frz (Go.AE.unx H0 Lg) p.1=H p.1:=by simp[Heap.frz,It (hk.ext p hp)]
  rw[this];exact (hk.get p (Jc _ hp)).1
 ·have:H.frz (Go.AE.unx H0 Lg) m=H m:=by simp[Heap.frz,It hm]
  rw[this];exact hk.chg m hm hn
 ·have:H.frz (Go.AE.unx H0 Lg) p.1=H p.1:=by simp only[Heap.frz];rw[Xn hp];rfl
  rw[this];exact (hk.get p (Jd _ (Jd _ hp))).1
end Go.AE
namespace Go.AE.Y
theorem A8 {b:Bool}(h:(!b)=false):b=true:=ZP
theorem Bf {b:Bool}(h:(!b)=true):b=false:=ZP
theorem Ex.ne_nil (x:Ex):(x.cells=[])=False:=by rw[x.aD];simp
theorem Ex.cK (x:Ex):x.cells.take 4=x.cells:=Jz (by rw[x.au];omega)
theorem Ex.bt (x:Ex):(x.cells.all λc=>!c.ai)=true:=x.an
theorem St.take5 (x:St):x.cells.take 5=x.cells:=Jz (by rw[x.au];omega)
theorem St.bt (x:St):(x.cells.all λc=>!c.ai)=true:=x.an
theorem Fn.take3 (x:Fn):x.cells.take 3=x.cells:=Jz (by rw[x.au];omega)
theorem Fn.bt (x:Fn):(x.cells.all λc=>!c.ai)=true:=x.an
end Go.AE.Y
namespace Go.AE
variable {H0 H H':Heap}{E L B A:List (Nat×Obj)}{P:Program}
theorem c_gh {b:SC}{Q:X->Env->Heap->Prop}{e e':Env}(h:E3 e H e' H')(hb:Ad P b Q e' H'):Ad P (.seq .gh b) Q e H:=⟨e',H',h,hb⟩
theorem Kn.drop (kn:Kn H0 H E (A++B)):Kn H0 H E A:=
 ⟨λp hp=>kn.get p (by
   rcases Jb.1 hp with h|h
   ·exact Jc _ h
   ·exact Jd _ (Jc _ h)),kn.ext,λp hp=>kn.loc p (Jc _ hp),kn.dE,by
   have:=kn.dL;rw[Jm]at this;exact (Jj.1 this).1,kn.chg⟩
theorem Kn.freeze {z gl:Nat}{o og og':Obj}(kn:Kn H0 H E (B++[(z,o)]))(i:Nat)(hB:B[i]? = some (gl,og))(hO:FrzO H (λm=>m == z) og og')(hn:og'≠.none) :
  FrzH H (λm=>m == z) ((H.frz λm=>m == z).set gl og')/\Kn H0 ((H.frz λm=>m == z).set gl og') E (B.set i (gl,og')):=by
 have eD:H0 z=.none:=kn.loc (z,o) ZF;have bE:=kn.dL;rw[Jm]at bE;have be:∀p∈B,p.1≠z:=λp hp hh=>(Jj.1 bE).2.2 _ (Ax hp) z ZF hh;have oY:∀p∈E,p.1≠z:=λp hp hh=>kn.ext p hp (hh▸eD);have fe:=be _ (Ja hB);have hH:H gl=og:=(kn.get (gl,og) (Jd _ (Jc _ (Ja hB)))).1;refine⟨(CL _ _).set (by simpa using fe) (by rw[hH];exact hO),?_⟩;have kn1:Kn H0 (H.frz λm=>m == z) E B:=by
  refine⟨λp hp=>?_,kn.ext,λp hp=>kn.loc p (Jc _ hp),kn.dE,(Jj.1 bE).1,λm hm hx=>?_⟩
  ·have:p.1≠z:=by
    rcases Jb.1 hp with h|h
    ·exact oY p h
    ·exact be p h
   have h2:(H.frz λm=>m == z) p.1=H p.1:=by simp[Heap.frz,this]
   rw[h2];refine kn.get p ?_;rcases Jb.1 hp with h|h
   ·exact Jc _ h
   ·exact Jd _ (Jc _ h)
  ·have:m≠z:=λh=>hm (h▸eD);have h2:(H.frz λm=>m == z) m=H m:=by simp[Heap.frz,this]
   rw[h2];exact kn.chg m hm hx
 exact kn1.setL i hB hn
theorem Kn.callEL (hk:Kn H0 H E L)(i j:Nat){l m:Nat}{o o' q q':Obj}(h:E[i]? = some (l,o))(h2:L[j]? = some (m,q))(hu:Upd H H' [(l,o'),(m,q')])(ho:o'≠.none)(hq:q'≠.none) :
  Kn H0 H' (E.set i (l,o')) (L.set j (m,q')):=by
 refine hk.callg hu (CR h) (CR h2) (λp hp=>?_) (λu hu=>?_)
 ·rcases Jb.1 hp with hp|hp
  ·rcases BQ hp with rfl|⟨b,hb,hp⟩
   ·exact⟨ho,.inl ZF⟩
   ·have hm:=Jc L (Ja hp);refine⟨(hk.get p hm).2,.inr ⟨hm,?_⟩⟩;simp only[Jp,J6,Jg,J9,or_false,not_or];exact⟨λhh=>hb (BP hk.dE hp h hh),λhh=>hk.ext p (Ja hp) (hh▸hk.free j h2)⟩
  ·rcases BQ hp with rfl|⟨b,hb,hp⟩
   ·exact⟨hq,.inl ZF⟩
   ·have hm:=Jd E (Ja hp);refine⟨(hk.get p hm).2,.inr ⟨hm,?_⟩⟩;simp only[Jp,J6,Jg,J9,or_false,not_or];exact⟨λhh=>hk.usedE i h (hh▸hk.loc p (Ja hp)),λhh=>hb (BP hk.dL hp h2 hh)⟩
 ·simp at hu;rcases hu with rfl|rfl
  ·exact .inl (Ax (p:=(l,o)) (Ja h))
  ·exact .inr (Ax (p:=(m,q)) (Ja h2))
end Go.AE
namespace Go.AE.Y
structure Blk where
 ic:C
 aT:List (List C)
 lg:List (Nat×Obj)
 jump:Int
 on:Int
 nfl:Bool
 next:List Int
def Blk.row (b:Blk):List C:=[.sl true 2 [],b.ic,.int .i64 b.jump,.int .i64 b.on,.sl b.nfl 1 (Qb b.next)]
structure LS where
 fns:List Fn
 pfl:Bool
 params:Int
 ab:Int
 bc:C
 lb:List (Nat×Obj)
 blocks:List Blk
 at_:Nat
 vc:C
 lv:List (Nat×Obj)
 vars:List (List C)
 next:Int
def LS.o (s:LS):Obj:=.st [.sl s.pfl 3 (Av s.fns),.int .i64 s.params,.int .i64 s.ab,s.bc,.int .i64 s.at_,s.vc,.int .i64 s.next,.sl true 1 []]
def LS.L (s:LS)(w:Nat):List (Nat×Obj):=[(w,s.o)]++(s.lb++(s.lv++s.blocks.flatMap Blk.lg))
def InsRow (r:List C):Prop:=∃(op to n:Int) (fl:Bool) (args:List Int),r=[.int .i64 op,.int .i64 to,.sl fl 1 (Qb args),.int .i64 n]
def VarRow (r:List C):Prop:=∃(s:List UInt8) (a b:Int),r=[.str s,.int .i64 a,.int .i64 b]
def VGr (lv:List (Nat×Obj))(vars:List (List C))(c:C):Prop:=
 (c=.sl true 3 []/\vars=[]/\lv=[])\/∃y all n,c=.ah y 3 0 n/\n<=all.length/\vars=all.take n/\lv=[(y,.vec 3 all)]
structure LInv (F H:Heap)(w:Nat)(s:LS):Prop where
 kn:Kn F H [] (s.L w)
 gb:Gr s.lb 5 (s.blocks.map Blk.row) s.bc
 gv:VGr s.lv s.vars s.vc
 gi:∀b∈s.blocks,Gr b.lg 4 b.aT b.ic
 ri:∀b∈s.blocks,∀r∈b.aT,InsRow r
 rv:∀r∈s.vars,VarRow r
structure LS.ok (s:LS)(N:Nat):Prop where
 r0:0<=s.ab
 r1:s.ab<=N
 n0:0<=s.next
 n1:s.next<=N
 b1:s.blocks.length<=N
 i1:∀b∈s.blocks,b.aT.length<=N
 v1:s.vars.length<=N
theorem LS.ok.mono {s:LS}{N M:Nat}(h:s.ok N)(hm:N<=M):s.ok M:=
 ⟨h.r0,by have:=h.r1;omega,h.n0,by have:=h.n1;omega,by have:=h.b1;omega,λb hb=>by have:=h.i1 b hb;omega,by have:=h.v1;omega⟩
theorem InsRow.an {r:List C}(h:InsRow r):Go.AE.an r=true:=by obtain⟨_,_,_,_,_,rfl⟩:=h;rfl
theorem VarRow.an {r:List C}(h:VarRow r):Go.AE.an r=true:=by obtain⟨_,_,_,rfl⟩:=h;rfl
theorem VGr.ai {lv:List (Nat×Obj)}{vars:List (List C)}{c:C}(h:VGr lv vars c):c.ai=false:=by
 rcases h with ⟨rfl,_⟩|⟨_,_,_,rfl,_⟩ <;> rfl
theorem VGr.aN {lv:List (Nat×Obj)}{vars:List (List C)}{c:C}(h:VGr lv vars c):c.aN=3:=by
 rcases h with ⟨rfl,_⟩|⟨_,_,_,rfl,_⟩ <;> rfl
theorem VGr.ax {lv:List (Nat×Obj)}{vars:List (List C)}{c:C}(h:VGr lv vars c):Go.AE.ax c=vars.length:=by
 rcases h with ⟨rfl,rfl,_⟩|⟨_,_,_,rfl,h,rfl,_⟩
 ·rfl
 ·simp[Go.AE.ax];omega
variable {F H H':Heap}{w:Nat}{s:LS}
theorem LInv.hw (h:LInv F H w s):H w=s.o:=h.kn.l 0 rfl
theorem LInv.vget (h:LInv F H w s):aZ H s.vc=True/\rowsOf H s.vc=s.vars:=by
 rcases h.gv with ⟨h1,h2,_⟩|⟨y,all,n,h1,h2,h3,h4⟩
 ·rw[h1,h2];exact⟨rfl,rfl⟩
 ·have hy:H y=.vec 3 all:=(h.kn.get (y,.vec 3 all) (by simp[LS.L,h4])).1;rw[h1];refine⟨eq_true ?_,?_⟩
  ·simp only[Go.AE.aZ,hy];exact⟨trivial,ZD⟩
  ·simp only[Go.AE.rowsOf,hy,Jab,h3]
theorem LInv.bvec (h:LInv F H w s)(hb:0<s.blocks.length):∃y,s.bc=.ah y 5 0 s.blocks.length/\s.lb=[(y,.vec 5 (s.blocks.map Blk.row))]/\H y=.vec 5 (s.blocks.map Blk.row):=by
 rcases h.gb with ⟨_,h2,_⟩|⟨y,h1,h2⟩
 ·simp at h2;rw[h2]at hb;simp at hb
 ·refine⟨y,by rw[h1];simp,h2,?_⟩;exact (h.kn.get (y,.vec 5 (s.blocks.map Blk.row)) (by simp[LS.L,h2])).1
theorem LInv.setw {s':LS}(h:LInv F H w s)(h1:H'=H.set w s'.o)(a1:s'.lb=s.lb)(a2:s'.lv=s.lv)(a3:s'.blocks=s.blocks)(a4:s'.bc=s.bc)(a5:VGr s.lv s'.vars s'.vc)(a6:∀r∈s'.vars,VarRow r):LInv F H' w s':=by
 refine⟨?_,by rw[a1,a3,a4];exact h.gb,by rw[a2];exact a5,by rw[a3];exact h.gi,by rw[a3];exact h.ri,a6⟩;have:=h.kn.aB 0 (x:=w) (o:=s.o) rfl h1 (by simp[LS.o]);simp only[LS.L,a1,a2,a3];exact this
theorem Qbts {α:Type}{A X Y:List α}:(A++(X++Y)).Perm ((A++Y)++X):=by
 rw[Jk];exact .append_left _ Jo
theorem LInv.addBlk {K:V->Heap->Prop}{fl:Bool}{b:Blk}(h:LInv F H w s)(hl:s.blocks.length+1<=LIM)(b1:b.lg=[])(b2:b.ic=.sl true 4 [])(b3:b.aT=[])
  (hK:∀(y:Nat) (H1:Heap),H1 w=s.o->(∀H2,H2=H1.set w (LS.o { s with bc:=.ah y 5 0 (s.blocks.length+1) })->
   LInv F H2 w { s with bc:=.ah y 5 0 (s.blocks.length+1),lb:=[(y,.vec 5 ((s.blocks++[b]).map Blk.row))],blocks:=s.blocks++[b] })->K (.c (.ah y 5 0 (s.blocks.length+1))) H1) :
  appQ H 5 s.bc (.sl fl 5 [b.row]) K:=by
 have kn:=h.kn;have kn:Kn F H [] (([(w,s.o)]++(s.lv++s.blocks.flatMap Blk.lg))++s.lb):=kn.perm Qbts;refine kn.grow h.gb (.mk' _ _ _ _) (by
  intro r hr;simp only[J3]at hr;subst hr;simp only[Blk.row,b2];rfl) Zaf λy H1 kn=>?_
 have e1:(s.blocks.map Blk.row).length+[b.row].length=s.blocks.length+1:=ZF
 rw[e1];refine hK y H1 (kn.l 0 rfl) λH2 h2=>⟨?_,?_,h.gv,?_,?_,h.rv⟩
 ·have:=kn.aB 0 (x:=w) (o:=s.o) rfl h2 (by simp[LS.o]);simp only[LS.L,Jak,List.flatMap_cons,List.flatMap_nil,b1,Jah,Jm,Jp,J6];simp only[Jy,Jq,Jam]at this⊢;refine this.perm (.cons _ ?_);exact Jo
 ·exact .mk _ _ _ ZF
 ·intro b' aU;rcases Jb.1 aU with aU|aU
  ·exact h.gi b' aU
  ·simp at aU;subst aU;rw[b1,b2,b3];exact .nil 4
 ·intro b' aU;rcases Jb.1 aU with aU|aU
  ·exact h.ri b' aU
  ·simp at aU;subst aU;rw[b3];simp
theorem Cr {α β:Type}(f:α->List β)(l:List α)(i:Nat)(hi:i<l.length):(l.flatMap f).Perm (f l[i]++(l.eraseIdx i).flatMap f):=by
 have h1:(l[i]::l.eraseIdx i).Perm l:=by
  rw[List.eraseIdx_eq_take_drop_succ];refine List.perm_middle.symm.trans ?_;rw[<-List.drop_eq_getElem_cons hi,List.take_append_drop]
 have h2:=h1.symm.flatMap_right f;simpa using h2
theorem C1 {α β:Type}(f:α->List β)(l:List α)(i:Nat)(x:α)(hi:i<l.length):((l.set i x).flatMap f).Perm (f x++(l.eraseIdx i).flatMap f):=by
 have:=Cr f (l.set i x) i Zah;simpa[List.eraseIdx_set_eq]using this
theorem ML (l:List Blk)(i:Nat)(b:Blk):(l.map Blk.row).set i b.row=(l.set i b).map Blk.row:=by rw[J7]
theorem Gs {l:List Blk}{i:Nat}{b x:Blk}(h:x∈l.set i b):x=b\/x∈l:=by
 rcases BQ h with h|⟨j,_,h⟩
 ·exact .inl h
 ·exact .inr (Ja h)
theorem LInv.setBlk {b':Blk}{y i:Nat}(h:LInv F H w s)(hi:i<s.blocks.length)(db:s.bc=.ah y 5 0 s.blocks.length)(nI:s.lb=[(y,.vec 5 (s.blocks.map Blk.row))])
  (h1:H'=H.set y (.vec 5 ((s.blocks.set i b').map Blk.row))) (a1:b'.lg=s.blocks[i].lg) (a2:b'.ic=s.blocks[i].ic) (a3:b'.aT=s.blocks[i].aT) :
  LInv F H' w { s with lb:=[(y,.vec 5 ((s.blocks.set i b').map Blk.row))],blocks:=s.blocks.set i b' }:=by
 have hm:=Jaf hi;refine⟨?_,?_,h.gv,λb hb=>?_,λb hb=>?_,h.rv⟩
 ·have kn:=h.kn;simp only[LS.L,nI]at kn;have kn:=kn.aB 1 (x:=y) rfl h1;refine kn.perm ?_;simp only[LS.L,Jy,Jq,Jam,List.set_cons_succ];refine .cons _ (.cons _ (.append_left _ ?_));refine (Cr Blk.lg s.blocks i hi).trans ?_;rw[<-a1];exact (C1 Blk.lg s.blocks i b' hi).symm
 ·simp only[db];exact .mk _ _ _ ZF
 ·rcases Gs hb with rfl|hb
  ·rw[a1,a2,a3];exact h.gi _ hm
  ·exact h.gi b hb
 ·rcases Gs hb with rfl|hb
  ·rw[a3];exact h.ri _ hm
  ·exact h.ri b hb
theorem LInv.addIns {K:V->Heap->Prop}{y i:Nat}{fl:Bool}{r:List C}(h:LInv F H w s)(hi:i<s.blocks.length)(db:s.bc=.ah y 5 0 s.blocks.length)(nI:s.lb=[(y,.vec 5 (s.blocks.map Blk.row))])
  (hr:InsRow r) (hl:s.blocks[i].aT.length+1<=LIM)
  (hK:∀(z:Nat) (H1:Heap),H1 w=s.o->H1 y=.vec 5 (s.blocks.map Blk.row)->
   (∀H2,H2=H1.set y (.vec 5 ((s.blocks.map Blk.row).set i (Blk.row { s.blocks[i]with ic:=.ah z 4 0 (s.blocks[i].aT.length+1) })))->
    ∃b':Blk,b'.aT.length=s.blocks[i].aT.length+1/\LInv F H2 w { s with lb:=[(y,.vec 5 ((s.blocks.set i b').map Blk.row))],blocks:=s.blocks.set i b' })->K (.c (.ah z 4 0 (s.blocks[i].aT.length+1))) H1) :
  appQ H 4 s.blocks[i].ic (.sl fl 4 [r]) K:=by
 have hm:=Jaf hi;have kn:=h.kn;simp only[LS.L]at kn;have kn:Kn F H [] (([(w,s.o)]++(s.lb++(s.lv++(s.blocks.eraseIdx i).flatMap Blk.lg)))++s.blocks[i].lg):=kn.perm (by
  have h1:(s.blocks.flatMap Blk.lg).Perm ((s.blocks.eraseIdx i).flatMap Blk.lg++s.blocks[i].lg):=(Cr Blk.lg s.blocks i hi).trans Jo;refine ((h1.append_left _).append_left _ |>.append_left _).trans ?_;simp only[Jk];exact .refl _)
 refine kn.grow (h.gi _ hm) (.mk' _ _ _ _) (by intro r' bh;simp only[J3]at bh;subst bh;exact hr.an) Zaf λz H1 kn=>?_;have e1:s.blocks[i].aT.length+[r].length=s.blocks[i].aT.length+1:=ZF
 rw[e1];simp only[nI]at kn;refine hK z H1 (kn.l 0 rfl) (kn.l 1 rfl) λH2 h2=>?_;refine⟨{ s.blocks[i]with ic:=.ah z 4 0 (s.blocks[i].aT.length+1),aT:=s.blocks[i].aT++[r],lg:=[(z,.vec 4 (s.blocks[i].aT++[r]))] },ZF,?_⟩;have a8:Blk.row { s.blocks[i]with ic:=.ah z 4 0 (s.blocks[i].aT.length+1) }=Blk.row { s.blocks[i]with ic:=.ah z 4 0 (s.blocks[i].aT.length+1),aT:=s.blocks[i].aT++[r],lg:=[(z,.vec 4 (s.blocks[i].aT++[r]))] }:=rfl;rw[a8,ML]at h2;refine⟨?_,?_,h.gv,λb hb=>?_,λb hb=>?_,h.rv⟩
 ·have kn:=kn.aB 1 (x:=y) rfl h2;refine kn.perm ?_;simp only[LS.L];have h1:=(C1 Blk.lg s.blocks i { s.blocks[i]with ic:=.ah z 4 0 (s.blocks[i].aT.length+1),aT:=s.blocks[i].aT++[r],lg:=[(z,.vec 4 (s.blocks[i].aT++[r]))] } hi).symm;have h3:=(Jo.trans h1).append_left ([(w,s.o)]++([(y,Obj.vec 5 ((s.blocks.set i { s.blocks[i]with ic:=.ah z 4 0 (s.blocks[i].aT.length+1),aT:=s.blocks[i].aT++[r],lg:=[(z,.vec 4 (s.blocks[i].aT++[r]))] }).map Blk.row))]++s.lv));refine List.Perm.trans ?_ (h3.trans ?_)
  ·simp only[List.set,Jy,Jq,Jk];exact .refl _
  ·simp only[Jy,Jq];exact .refl _
 ·simp only[db];exact .mk _ _ _ ZF
 ·rcases Gs hb with rfl|hb
  ·exact .mk _ _ _ ZF
  ·exact h.gi b hb
 ·rcases Gs hb with rfl|hb
  ·intro r' bh;rcases Jb.1 bh with bh|bh
   ·exact h.ri _ hm r' bh
   ·simp at bh;subst bh;exact hr
  ·exact h.ri b hb
theorem LInv.addVar {K:V->Heap->Prop}{fl:Bool}{r:List C}(h:LInv F H w s)(hr:VarRow r)(hl:s.vars.length+1<=LIM)
  (hK:∀(y:Nat) (H1:Heap),H1 w=s.o->(∀H2,H2=H1.set w (LS.o { s with vc:=.ah y 3 0 (s.vars.length+1) })->
   LInv F H2 w { s with vc:=.ah y 3 0 (s.vars.length+1),lv:=[(y,.vec 3 (s.vars++[r]))],vars:=s.vars++[r] })->K (.c (.ah y 3 0 (s.vars.length+1))) H1) :
  appQ H 3 s.vc (.sl fl 3 [r]) K:=by
 have uI:∀r'∈s.vars++[r],VarRow r':=λr' bh=>by
  rcases Jb.1 bh with h1|h1
  ·exact h.rv r' h1
  ·simp at h1;subst h1;exact hr
 have kn:=h.kn;have kn:Kn F H [] (([(w,s.o)]++(s.lb++s.blocks.flatMap Blk.lg))++s.lv):=kn.perm (by
  simp only[LS.L];refine List.Perm.trans (.append_left _ (.append_left _ Jo)) ?_;simp only[Jk];exact .refl _)
 have fin:∀(y:Nat) (H1:Heap),Kn F H1 [] (([(w,s.o)]++(s.lb++s.blocks.flatMap Blk.lg))++[(y,.vec 3 (s.vars++[r]))])->K (.c (.ah y 3 0 (s.vars.length+1))) H1:=by
  intro y H1 kn;refine hK y H1 (kn.l 0 rfl) λH2 h2=>⟨?_,h.gb,.inr ⟨y,s.vars++[r],s.vars.length+1,rfl,ZF,by rw[Jz ZF],rfl⟩,h.gi,h.ri,uI⟩;have kn:=kn.aB 0 (x:=w) (o:=s.o) rfl h2 (by simp[LS.o]);refine kn.perm ?_;simp only[LS.L,List.set,Jy,Jq,Jk];refine .cons _ (.append_left _ ?_);exact Jo
 refine⟨trivial,rfl,?_⟩;rcases h.gv with ⟨h1,h2,h3⟩|⟨y,all,n,h1,h2,h3,h4⟩
 ·rw[h1];rw[h3,Jah]at kn;simp only[rowsOf,Go.AE.ax,Jq,Jai,Jap,Jaj];refine⟨trivial,.inl trivial,by intro r' bh;simp only[J3]at bh;subst bh;exact hr.an,by simp only[LIM];omega,λl hl H' dt=>?_⟩;have:=fin l H' (by rw[h2];simpa using kn.al hl dt);rw[h2]at this;exact this
 ·rw[h4]at kn;have hy:H y=.vec 3 all:=(kn.get (y,.vec 3 all) ZF).1;have hn:s.vars.length=n:=by rw[h3];simp;omega
  rw[h1];simp only[hy,rowsOf,Go.AE.ax,Jab,Jaj];refine⟨trivial,trivial,ZD,by intro r' bh;simp only[J3]at bh;subst bh;exact hr.an,ZD,λl' cZ H' dt=>?_⟩;rw[<-hn]at dt⊢;rw[hn,<-h3]at dt;refine fin l' H' ?_;have:=kn.ap ([(w,s.o)]++(s.lb++s.blocks.flatMap Blk.lg)).length (y:=y) (o:=.vec 3 all) ZF cZ dt;simpa using this
end Go.AE.Y
namespace Go.AE.Y
structure InsD where
 op:Int
 to:Int
 args:List Int
 n:Int
def InsD.cells (x:InsD):List C:=[.int .i64 x.op,.int .i64 x.to,.sl false 1 (Qb x.args),.int .i64 x.n]
structure PhiD where
 to:Int
 args:List Int
def PhiD.cells (x:PhiD):List C:=[.int .i64 x.to,.sl false 1 (Qb x.args)]
def Af (l:List InsD):List (List C):=l.map InsD.cells
def Q8 (l:List PhiD):List (List C):=l.map PhiD.cells
structure BlkD where
 aa:List PhiD
 ins:List InsD
 jump:Int
 on:Int
 next:List Int
def BlkD.cells (x:BlkD):List C:=[.sl false 2 (Q8 x.aa),.sl false 4 (Af x.ins),.int .i64 x.jump,.int .i64 x.on,.sl false 1 (Qb x.next)]
def Ql (l:List BlkD):List (List C):=l.map BlkD.cells
structure CodeD where
 params:Int
 ab:Int
 blocks:List BlkD
def CodeD.cells (x:CodeD):List C:=[.int .i64 x.params,.int .i64 x.ab,.sl false 5 (Ql x.blocks)]
def Qw (l:List CodeD):List (List C):=l.map CodeD.cells
theorem A0 (l:List InsD):(Af l).length=l.length:=by simp[Af]
theorem Q5 (l:List PhiD):(Q8 l).length=l.length:=by simp[Q8]
theorem Qj (l:List BlkD):(Ql l).length=l.length:=by simp[Ql]
theorem Q6 (l:List CodeD):(Qw l).length=l.length:=by simp[Qw]
theorem BR (l:List InsD)(i:Nat)(h:i<l.length):(Af l).getD i []=(l[i]'h).cells:=by simp[Af,Je,h]
theorem Br (l:List PhiD)(i:Nat)(h:i<l.length):(Q8 l).getD i []=(l[i]'h).cells:=by simp[Q8,Je,h]
theorem Q9 (l:List BlkD)(i:Nat)(h:i<l.length):(Ql l).getD i []=(l[i]'h).cells:=by simp[Ql,Je,h]
theorem Bd (l:List CodeD)(i:Nat)(h:i<l.length):(Qw l).getD i []=(l[i]'h).cells:=by simp[Qw,Je,h]
theorem Q6g (l:List InsD):∀r∈Af l,an r=true:=by intro r hr;obtain⟨x,_,rfl⟩:=Jf.1 hr;rfl
theorem Qa9s (l:List PhiD):∀r∈Q8 l,an r=true:=by intro r hr;obtain⟨x,_,rfl⟩:=Jf.1 hr;rfl
theorem MS (l:List BlkD):∀r∈Ql l,an r=true:=by intro r hr;obtain⟨x,_,rfl⟩:=Jf.1 hr;rfl
theorem DV (l:List CodeD):∀r∈Qw l,an r=true:=by intro r hr;obtain⟨x,_,rfl⟩:=Jf.1 hr;rfl
theorem Qazp (a:List CodeD)(x:CodeD):Qw a++[x.cells]=Qw (a++[x]):=by simp[Qw]
theorem Qbh8 (a:List InsD)(x:InsD):Af a++[x.cells]=Af (a++[x]):=by simp[Af]
variable {H:Heap}{S:Nat->Bool}
theorem Gr.frzM {Lg:List (Nat×Obj)}{sz:Nat}{rows rows':List (List C)}{c:C}(h:Gr Lg sz rows c)(hm:∀p∈Lg,H p.1=p.2/\S p.1=true)(hr:FrzR H S rows rows'):FrzC H S c (.sl false sz rows'):=by
 rcases h with ⟨rfl,rfl,rfl⟩|⟨y,rfl,rfl⟩
 ·cases hr;exact FrzR.nil.sl
 ·obtain⟨h1,h2⟩:=hm (y,.vec sz rows) ZF;exact hr.ah h2 h1 rfl
theorem InsRow.frz {r:List C}(h:InsRow r):∃d:InsD,FrzL H S r d.cells:=by
 obtain⟨op,to,n,fl,args,rfl⟩:=h;exact⟨⟨op,to,args,n⟩,.cons (Qi rfl) (.cons (Qi rfl) (.cons (FrzR.same (Qy _)).sl (.cons (Qi rfl) .nil)))⟩
def CodeD.fits (c:CodeD):Prop:=∀b∈c.blocks,b.ins.length<=2^38/\b.aa.length<=2^38
theorem MW:∀(l:List (List C)),(∀r∈l,InsRow r)->∃ds:List InsD,FrzR H S l (Af ds)
 |[],_=>⟨[],.nil⟩
 |r::l,h=>by
  obtain⟨d,hd⟩:=(h r Ju).frz (H:=H) (S:=S);obtain⟨ds,lf⟩:=MW l λr' bh=>h r' (Jt _ bh);exact⟨d::ds,.cons hd lf⟩
theorem IN:∀(l:List Blk),(∀b∈l,Gr b.lg 4 b.aT b.ic/\(∀r∈b.aT,InsRow r)/\(∀p∈b.lg,H p.1=p.2/\S p.1=true)/\b.aT.length<=2^38)->
  ∃bs:List BlkD,FrzR H S (l.map Blk.row) (Ql bs)/\bs.length=l.length/\∀b∈bs,b.ins.length<=2^38/\b.aa.length<=2^38
 |[],_=>⟨[],.nil,rfl,ZF⟩
 |b::l,h=>by
  obtain⟨g1,g2,g3,g4⟩:=h b Ju;obtain⟨bs,h1,h2,h3⟩:=IN l λr' bh=>h r' (Jt _ bh);obtain⟨ds,lf⟩:=MW (H:=H) (S:=S) b.aT g2;have pH:=lf.spec.1;rw[A0]at pH;refine⟨⟨[],ds,b.jump,b.on,b.next⟩::bs,.cons ?_ h1,by simp[h2],λb' aU=>?_⟩
  ·exact .cons FrzR.nil.sl (.cons (Gr.frzM g1 g3 lf) (.cons (Qi rfl) (.cons (Qi rfl) (.cons (FrzR.same (Qy _)).sl .nil))))
  ·rcases Jg.1 aU with rfl|aU
   ·exact⟨by show ds.length<=_;omega,ZF⟩
   ·exact h3 b' aU
end Go.AE.Y
namespace Go.AE
variable {H0 H H' F:Heap}{E L B A:List (Nat×Obj)}
theorem Kn.toFrame {y:Nat}{o:Obj}(kn:Kn F H [] (L++[(y,o)])):Kn (F.set y o) H [] L:=by
 have bE:=kn.dL;rw[Jm]at bE;have be:∀p∈L,p.1≠y:=λp hp hh=>(Jj.1 bE).2.2 _ (Ax hp) y ZF hh;refine⟨λp hp=>kn.get p (by simp only[Jq]at hp⊢;exact Jc _ hp),ZF,λp hp=>?_,ZF,(Jj.1 bE).1,λm hm _=>?_⟩
 ·rw[Heap.af _ _ (be p hp)];exact kn.loc p (Jc _ hp)
 ·by_cases h:m=y
  ·subst h;rw[Heap.aC];exact (kn.get (m,o) ZF).1
  ·rw[Heap.af _ _ h]at hm⊢;exact kn.chg m hm ZF
theorem Kn.ofFrame {y:Nat}{o:Obj}(kn:Kn (F.set y o) H [] L)(hF:F y=.none)(ho:o≠.none):Kn F H [] (L++[(y,o)]):=by
 have hy:H y=o:=by have:=kn.chg y (by rw[Heap.aC];exact ho) ZF;rw[this,Heap.aC]
 have be:∀p∈L,p.1≠y:=λp hp hh=>by have:=kn.loc p hp;rw[hh,Heap.aC]at this;exact ho this
 refine⟨λp hp=>?_,ZF,λp hp=>?_,ZF,?_,λm hm _=>?_⟩
 ·simp only[Jq]at hp;rcases Jb.1 hp with hp|hp
  ·exact kn.get p ZaI
  ·simp at hp;subst hp;exact⟨hy,ho⟩
 ·rcases Jb.1 hp with hp|hp
  ·have:=kn.loc p hp;rw[Heap.af _ _ (be p hp)]at this;exact this
  ·simp at hp;subst hp;exact hF
 ·rw[Jm];refine Jj.2 ⟨kn.dL,ZF,λa ha b hb=>?_⟩;simp at hb;subst hb;obtain⟨p,hp,rfl⟩:=Jf.1 ha;exact be p hp
 ·have yf:m≠y:=λh=>by subst h;exact hm hF
  have:=kn.chg m (by rw[Heap.af _ _ yf];exact hm) ZF;rw[this,Heap.af _ _ yf]
theorem Kn.frz1 {z:Nat}{o:Obj}(kn:Kn H0 H E (B++[(z,o)])):Kn H0 (H.frz λm=>m == z) E B:=by
 have eD:H0 z=.none:=kn.loc (z,o) ZF;have bE:=kn.dL;rw[Jm]at bE;have be:∀p∈B,p.1≠z:=λp hp hh=>(Jj.1 bE).2.2 _ (Ax hp) z ZF hh;have oY:∀p∈E,p.1≠z:=λp hp hh=>kn.ext p hp (hh▸eD);refine⟨λp hp=>?_,kn.ext,λp hp=>kn.loc p (Jc _ hp),kn.dE,(Jj.1 bE).1,λm hm hx=>?_⟩
 ·have:p.1≠z:=by
   rcases Jb.1 hp with h|h
   ·exact oY p h
   ·exact be p h
  have h2:(H.frz λm=>m == z) p.1=H p.1:=by simp[Heap.frz,this]
  rw[h2];refine kn.get p ?_;rcases Jb.1 hp with h|h
  ·exact Jc _ h
  ·exact Jd _ (Jc _ h)
 ·have:m≠z:=λh=>hm (h▸eD);have h2:(H.frz λm=>m == z) m=H m:=by simp[Heap.frz,this]
  rw[h2];exact kn.chg m hm hx
theorem Gr.freeze {Lg:List (Nat×Obj)}{sz:Nat}{rows:List (List C)}{c:C}(h:Gr Lg sz rows c)(kn:Kn H0 H E (B++Lg))(hr:∀r∈rows,an r=true) :
  ∃S H2,FrzC H S c (.sl false sz rows)/\FrzH H S H2/\Kn H0 H2 E B:=by
 rcases h with ⟨rfl,rfl,rfl⟩|⟨y,rfl,rfl⟩
 ·refine⟨λ_=>false,H,Y.FrzR.nil.sl,λm=>.inr ⟨rfl,.same _⟩,ZO⟩
 ·exact⟨λm=>m == y,_,(Y.FrzR.same hr).ah ZF (kn.get (y,.vec sz rows) ZF).1 rfl,CL _ _,kn.frz1⟩
end Go.AE
namespace Go.AE.Y
variable {F H H':Heap}{w:Nat}{s:LS}{Lg:List (Nat×Obj)}{sz:Nat}{rows:List (List C)}{c:C}
theorem LInv.re {H2:Heap}(h:LInv F H w s)(kn:Kn F H2 [] (s.L w)):LInv F H2 w s:=⟨kn,h.gb,h.gv,h.gi,h.ri,h.rv⟩
theorem LInv.beside (h:LInv F H w s)(kn:Kn F H [] (s.L w++Lg))(hg:Gr Lg sz rows c) :
  ∃F',LInv F' H w s/\∀(s':LS) (H':Heap),LInv F' H' w s'->LInv F H' w s'/\Kn F H' [] (s'.L w++Lg):=by
 rcases hg with ⟨_,_,rfl⟩|⟨y,_,rfl⟩
 ·exact⟨F,h,λs' H' h'=>⟨h',by simpa using h'.kn⟩⟩
 ·refine⟨F.set y (.vec sz rows),⟨kn.toFrame,h.gb,h.gv,h.gi,h.ri,h.rv⟩,λs' H' h'=>?_⟩;have k2:=h'.kn.ofFrame (kn.loc (y,.vec sz rows) ZF) ZF;exact⟨⟨k2.drop,h'.gb,h'.gv,h'.gi,h'.ri,h'.rv⟩,k2⟩
end Go.AE.Y
namespace Go.AE
variable {H0 H H':Heap}{E L N B:List (Nat×Obj)}
theorem Kn.comp0 (kn:Kn H0 H E L)(k2:Kn H H' [] N):Kn H0 H' E (L++N):=by
 have be:∀p∈E++L,H p.1≠.none:=λp hp=>by obtain⟨a,b⟩:=kn.get p hp;rw[a];exact b
 refine⟨λp hp=>?_,kn.ext,λp hp=>?_,kn.dE,?_,λm hm hx=>?_⟩
 ·rw[<-Jk]at hp;rcases Jb.1 hp with hp|hp
  ·obtain⟨a,b⟩:=kn.get p hp;exact⟨by rw[k2.chg p.1 (be p hp) ZF,a],b⟩
  ·exact k2.get p ZaI
 ·rcases Jb.1 hp with hp|hp
  ·exact kn.loc p hp
  ·exact (kn.newFree (k2.loc p hp)).1
 ·rw[Jm];refine Jj.2 ⟨kn.dL,k2.dL,λa ha b hb df=>?_⟩;obtain⟨p,hp,rfl⟩:=Jf.1 ha;obtain⟨q,hq,rfl⟩:=Jf.1 hb;exact be p (Jd _ hp) (by rw[df];exact k2.loc q hq)
 ·have:=kn.chg m hm hx;rw[k2.chg m (by rw[this];exact hm) ZF,this]
theorem Kn.compE (kn:Kn H0 H E L)(i:Nat){l:Nat}{o o':Obj}(h:E[i]? = some (l,o))(k2:Kn H H' [(l,o')] N):Kn H0 H' (E.set i (l,o')) (L++N):=by
 have be:∀p∈E++L,H p.1≠.none:=λp hp=>by obtain⟨a,b⟩:=kn.get p hp;rw[a];exact b
 have hl:H' l=o'/\o'≠.none:=k2.get (l,o') ZF;have hu:Upd H H' [(l,o')]:=⟨λp hp=>by simp at hp;subst hp;exact hl.1,λm hm hx=>k2.chg m hm hx⟩;have k3:=kn.am i h hu hl.2;refine⟨λp hp=>?_,k3.ext,λp hp=>?_,k3.dE,?_,k3.chg⟩
 ·rw[<-Jk]at hp;rcases Jb.1 hp with hp|hp
  ·exact k3.get p hp
  ·exact k2.get p (Jd _ hp)
 ·rcases Jb.1 hp with hp|hp
  ·exact kn.loc p hp
  ·exact (kn.newFree (k2.loc p hp)).1
 ·rw[Jm];refine Jj.2 ⟨kn.dL,k2.dL,λa ha b hb df=>?_⟩;obtain⟨p,hp,rfl⟩:=Jf.1 ha;obtain⟨q,hq,rfl⟩:=Jf.1 hb;exact be p (Jd _ hp) (by rw[df];exact k2.loc q hq)
theorem Kn.finK (hk:Kn H0 H E (B++N)):Kn H0 (H.frz (Go.AE.unx H0 N)) E N:=by
 obtain⟨h1,h2⟩:=hk.finx;have hd:=hk.dL;rw[Jm]at hd;refine⟨λp hp=>?_,hk.ext,λp hp=>hk.loc p (Jd _ hp),hk.dE,(Jj.1 hd).2.1,h1.2⟩;rcases Jb.1 hp with hp|hp
 ·exact⟨h1.1 p hp,(hk.get p (Jc _ hp)).2⟩
 ·exact⟨(h2 p hp).2,(hk.get p (Jd _ (Jd _ hp))).2⟩
end Go.AE
namespace Go.AE.Y
structure OInts where
 ns:List Int
 y:Nat
def OInts.c (x:OInts):C:=.ah x.y 1 0 x.ns.length
def OInts.lg (x:OInts):List (Nat×Obj):=[(x.y,.vec 1 (Qb x.ns))]
structure OPhi where
 to:Int
 ns:List Int
 ac:C
 lg:List (Nat×Obj)
def OPhi.row (x:OPhi):List C:=[.int .i64 x.to,x.ac]
def OPhi.ok (x:OPhi):Prop:=(∃y,x.ac=.ah y 1 0 x.ns.length/\x.lg=[(y,.vec 1 (Qb x.ns))])\/(∃fl,x.ac=.sl fl 1 (Qb x.ns)/\x.lg=[])
def OPhi.own (x:OPhi):Prop:=∃y,x.ac=.ah y 1 0 x.ns.length/\x.lg=[(y,.vec 1 (Qb x.ns))]
structure OIns where
 op:Int
 to:Int
 a:OInts
 n:Int
def OIns.row (x:OIns):List C:=[.int .i64 x.op,.int .i64 x.to,x.a.c,.int .i64 x.n]
def OIns.lg (x:OIns):List (Nat×Obj):=x.a.lg
structure OBlk where
 aa:List OPhi
 pc:C
 pl:List (Nat×Obj)
 ins:List OIns
 ic:C
 il:List (Nat×Obj)
 jump:Int
 on:Int
 nx:OInts
def OBlk.row (x:OBlk):List C:=[x.pc,x.ic,.int .i64 x.jump,.int .i64 x.on,x.nx.c]
def OBlk.lg (x:OBlk):List (Nat×Obj):=x.nx.lg++(x.aa.flatMap OPhi.lg++(x.pl++(x.ins.flatMap OIns.lg++x.il)))
structure OBlk.ok (x:OBlk):Prop where
 p:Gr x.pl 2 (x.aa.map OPhi.row) x.pc
 i:Gr x.il 4 (x.ins.map OIns.row) x.ic
 a:∀p∈x.aa,p.ok
structure OCode where
 params:Int
 ab:Int
 blocks:List OBlk
 bc:C
 bl:List (Nat×Obj)
def OCode.row (x:OCode):List C:=[.int .i64 x.params,.int .i64 x.ab,x.bc]
def OCode.lg (x:OCode):List (Nat×Obj):=x.blocks.flatMap OBlk.lg++x.bl
structure OCode.ok (x:OCode):Prop where
 b:Gr x.bl 5 (x.blocks.map OBlk.row) x.bc
 bs:∀b∈x.blocks,b.ok
def OPhi.d (x:OPhi):PhiD:=⟨x.to,x.ns⟩
def OIns.d (x:OIns):InsD:=⟨x.op,x.to,x.a.ns,x.n⟩
def OBlk.d (x:OBlk):BlkD:=⟨x.aa.map OPhi.d,x.ins.map OIns.d,x.jump,x.on,x.nx.ns⟩
def OCode.d (x:OCode):CodeD:=⟨x.params,x.ab,x.blocks.map OBlk.d⟩
theorem OPhi.an (x:OPhi)(h:x.ok):Go.AE.an x.row=true:=by
 rcases h with ⟨y,h,_⟩|⟨fl,h,_⟩ <;> simp only[Go.AE.an,OPhi.row,h] <;> rfl
theorem OIns.an (x:OIns):Go.AE.an x.row=true:=rfl
theorem OBlk.an (x:OBlk)(h:x.ok):Go.AE.an x.row=true:=by
 simp only[Go.AE.an,OBlk.row,OInts.c,J2,J5,h.p.ai,h.i.ai];rfl
theorem OCode.an (x:OCode)(h:x.ok):Go.AE.an x.row=true:=by
 simp only[Go.AE.an,OCode.row,J2,J5,h.b.ai];rfl
variable {H:Heap}{S:Nat->Bool}
def Held (H:Heap)(S:Nat->Bool)(l:List (Nat×Obj)):Prop:=∀p∈l,H p.1=p.2/\S p.1=true
theorem Held.l {a b:List (Nat×Obj)}(h:Held H S (a++b)):Held H S a:=λp hp=>h p (Jc _ hp)
theorem Held.r {a b:List (Nat×Obj)}(h:Held H S (a++b)):Held H S b:=λp hp=>h p (Jd _ hp)
theorem Held.m {α:Type}{f:α->List (Nat×Obj)}{l:List α}(h:Held H S (l.flatMap f)){x:α}(hx:x∈l):Held H S (f x):=λp hp=>h p (List.mem_flatMap.2 ⟨x,hx,hp⟩)
theorem OInts.frz (x:OInts)(h:Held H S x.lg):FrzC H S x.c (.sl false 1 (Qb x.ns)):=by
 obtain⟨h1,h2⟩:=h (x.y,.vec 1 (Qb x.ns)) (by simp[OInts.lg]);exact (FrzR.same (Qy _)).ah h2 h1 Zar
theorem OPhi.frz (x:OPhi)(ay:x.ok)(h:Held H S x.lg):FrzL H S x.row (PhiD.mk x.to x.ns).cells:=by
 refine .cons (Qi rfl) (.cons ?_ .nil);rcases ay with ⟨y,h1,h2⟩|⟨fl,h1,h2⟩
 ·obtain⟨h3,h4⟩:=h (y,.vec 1 (Qb x.ns)) Zan;rw[h1];exact (FrzR.same (Qy _)).ah h4 h3 Zar
 ·rw[h1];exact (FrzR.same (Qy _)).sl
theorem OIns.frz (x:OIns)(h:Held H S x.lg):FrzL H S x.row (InsD.mk x.op x.to x.a.ns x.n).cells:=.cons (Qi rfl) (.cons (Qi rfl) (.cons (x.a.frz h) (.cons (Qi rfl) .nil)))
theorem FS {α β:Type}{f:α->List C}{g:β->List C}:∀(l:List α),(∀x∈l,∃y,FrzL H S (f x) (g y))->∃l':List β,FrzR H S (l.map f) (l'.map g)/\l'.length=l.length
 |[],_=>⟨[],.nil,rfl⟩
 |x::l,h=>by
  obtain⟨y,hy⟩:=h x Ju;obtain⟨l',cZ,hn⟩:=FS l λz hz=>h z (Jt _ hz);exact⟨y::l',.cons hy cZ,ZaF⟩
theorem OP {α β:Type}{P:β->Prop}{f:α->List C}{g:β->List C}:∀(l:List α),(∀x∈l,∃y,FrzL H S (f x) (g y)/\P y)->∃l':List β,FrzR H S (l.map f) (l'.map g)/\l'.length=l.length/\∀y∈l',P y
 |[],_=>⟨[],.nil,rfl,ZF⟩
 |x::l,h=>by
  obtain⟨y,hy,hp⟩:=h x Ju;obtain⟨l',cZ,hn,iE⟩:=OP l λz hz=>h z (Jt _ hz);refine⟨y::l',.cons hy cZ,ZaF,λz hz=>?_⟩;rcases Jg.1 hz with rfl|hz
  ·exact hp
  ·exact iE z hz
theorem OBlk.frz (x:OBlk)(ay:x.ok)(h:Held H S x.lg):∃d:BlkD,FrzL H S x.row d.cells/\d.next=x.nx.ns/\d.ins.length=x.ins.length/\d.aa.length=x.aa.length:=by
 obtain⟨ps,iE,xU⟩:=FS (H:=H) (S:=S) (f:=OPhi.row) (g:=PhiD.cells) x.aa λp hp=>⟨_,p.frz (ay.a p hp) (h.r.l.m hp)⟩;obtain⟨is,wg,cV⟩:=FS (H:=H) (S:=S) (f:=OIns.row) (g:=InsD.cells) x.ins λp hp=>⟨_,p.frz (h.r.r.r.l.m hp)⟩;exact⟨⟨ps,is,x.jump,x.on,x.nx.ns⟩,.cons (Gr.frzM ay.p h.r.r.l iE) (.cons (Gr.frzM ay.i h.r.r.r.r wg) (.cons (Qi rfl) (.cons (Qi rfl) (.cons (x.nx.frz h.l) .nil)))),rfl,cV,xU⟩
end Go.AE.Y
namespace Go.AE.Y
theorem BI {α:Type}{A L1 L2:List α}:(A++L1++L2).Perm (A++L2++L1):=by
 rw[Jk,Jk];exact .append_left _ Jo
structure BlkD.sm (b:BlkD):Prop where
 n:b.next.length<=2
 i:b.ins.length<=1000
 p:b.aa.length<=1000
 ia:∀x∈b.ins,x.args.length<=1000
 pa:∀x∈b.aa,x.args.length<=1000
structure CodeD.sm (c:CodeD):Prop where
 b0:0<c.blocks.length
 b:c.blocks.length<=160
 bs:∀b∈c.blocks,b.sm
 p0:0<=c.params
 p1:c.params<=1000
structure OBlk.sm (b:OBlk)(N:Nat):Prop where
 n:b.nx.ns.length<=2
 i:b.ins.length<=1000
 p:b.aa.length<=N
 ia:∀x∈b.ins,x.a.ns.length<=N
 pa:∀x∈b.aa,x.ns.length<=N
structure OCode.sm (c:OCode)(N:Nat):Prop where
 b0:0<c.blocks.length
 b:c.blocks.length<=160
 bs:∀b∈c.blocks,b.sm N
 p0:0<=c.params
 p1:c.params<=1000
theorem OBlk.sm.mono {b:OBlk}{N M:Nat}(h:b.sm N)(hm:N<=M):b.sm M:=⟨h.n,h.i,by have:=h.p;omega,λx hx=>by have:=h.ia x hx;omega,λx hx=>by have:=h.pa x hx;omega⟩
theorem OCode.sm.mono {c:OCode}{N M:Nat}(h:c.sm N)(hm:N<=M):c.sm M:=⟨h.b0,h.b,λb hb=>(h.bs b hb).mono hm,h.p0,h.p1⟩
structure BlkD.sg (b:BlkD):Prop where
 n:b.next.length<=1000000
 i:b.ins.length<=1000000
 p:b.aa.length<=1000000
 ia:∀x∈b.ins,x.args.length<=1000000
 pa:∀x∈b.aa,x.args.length<=1000000
structure CodeD.sg (c:CodeD):Prop where
 b:c.blocks.length<=1000000
 bs:∀b∈c.blocks,b.sg
theorem BlkD.sm.sg {b:BlkD}(h:b.sm):b.sg:=⟨by have:=h.n;omega,by have:=h.i;omega,by have:=h.p;omega,λx hx=>by have:=h.ia x hx;omega,λx hx=>by have:=h.pa x hx;omega⟩
theorem CodeD.sm.sg {c:CodeD}(h:c.sm):c.sg:=⟨by have:=h.b;omega,λb hb=>(h.bs b hb).sg⟩
structure CodeD.gd (c:CodeD):Prop where
 b0:0<c.blocks.length
 b1:c.blocks.length<=160
 n:∀b∈c.blocks,b.next.length<=2
 f:c.fits
 s:c.sg
theorem CodeD.sm.fits {c:CodeD}(h:c.sm):c.fits:=λb hb=>⟨by have:=(h.bs b hb).i;omega,by have:=(h.bs b hb).p;omega⟩
theorem CodeD.sm.gd {c:CodeD}(h:c.sm):c.gd:=⟨h.b0,h.b,λb hb=>(h.bs b hb).n,h.fits,h.sg⟩
theorem BlkD.sm.o {o:OBlk}(h:o.d.sm):o.sm 1000:=
 ⟨h.n,by have:=h.i;simp only[OBlk.d,J1]at this;exact this,by have:=h.p;simp only[OBlk.d,J1]at this;exact this,λx hx=>h.ia x.d (Jf.2 ⟨x,hx,rfl⟩),λx hx=>h.pa x.d (Jf.2 ⟨x,hx,rfl⟩)⟩
theorem CodeD.sm.o {o:OCode}(h:o.d.sm):o.sm 1000:=
 ⟨by have:=h.b0;simp only[OCode.d,J1]at this;exact this,by have:=h.b;simp only[OCode.d,J1]at this;exact this,λb hb=>(h.bs b.d (Jf.2 ⟨b,hb,rfl⟩)).o,h.p0,h.p1⟩
variable {H:Heap}{S:Nat->Bool}
theorem FX {α β:Type}{f:α->List C}{g:β->List C}{d:α->β}:∀(l:List α),(∀x∈l,FrzL H S (f x) (g (d x)))->FrzR H S (l.map f) ((l.map d).map g)
 |[],_=>.nil
 |x::l,h=>.cons (h x Ju) (FX l λz hz=>h z (Jt _ hz))
theorem OBlk.frzD (x:OBlk)(ay:x.ok)(h:Held H S x.lg):FrzL H S x.row x.d.cells:=by
 have iE:=FX (H:=H) (S:=S) (f:=OPhi.row) (g:=PhiD.cells) (d:=OPhi.d) x.aa λp hp=>p.frz (ay.a p hp) (h.r.l.m hp);have wg:=FX (H:=H) (S:=S) (f:=OIns.row) (g:=InsD.cells) (d:=OIns.d) x.ins λp hp=>p.frz (h.r.r.r.l.m hp);exact .cons (Gr.frzM ay.p h.r.r.l iE) (.cons (Gr.frzM ay.i h.r.r.r.r wg) (.cons (Qi rfl) (.cons (Qi rfl) (.cons (x.nx.frz h.l) .nil))))
theorem OCode.frz (x:OCode){N:Nat}(hN:N<=100000)(ay:x.ok)(hs:x.sm N)(h:Held H S x.lg):∃d:CodeD,FrzL H S x.row d.cells/\d.gd:=by
 have fO:=FX (H:=H) (S:=S) (f:=OBlk.row) (g:=BlkD.cells) (d:=OBlk.d) x.blocks λb hb=>b.frzD (ay.bs b hb) (h.l.m hb);have fw:=hs.b0;have bf:=hs.b;have hd:∀d∈x.blocks.map OBlk.d,d.next.length<=2/\d.ins.length<=1000/\d.aa.length<=N/\(∀i∈d.ins,i.args.length<=N)/\∀i∈d.aa,i.args.length<=N:=λd hd=>by
  obtain⟨b,hb,rfl⟩:=Jf.1 hd;have gG:=hs.bs b hb;refine⟨gG.n,by simpa[OBlk.d]using gG.i,by simpa[OBlk.d]using gG.p,λi hi=>?_,λi hi=>?_⟩
  ·obtain⟨y,hy,rfl⟩:=Jf.1 hi;exact gG.ia y hy
  ·obtain⟨y,hy,rfl⟩:=Jf.1 hi;exact gG.pa y hy
 refine⟨⟨x.params,x.ab,x.blocks.map OBlk.d⟩,.cons (Qi rfl) (.cons (Qi rfl) (.cons (Gr.frzM ay.b h.r fO) .nil)),by simpa using fw,by simpa using bf,λb hb=>(hd b hb).1,λb hb=>?_,by simp only[J1];omega,λb hb=>?_⟩
 ·obtain⟨h1,h2,h3,h4,h5⟩:=hd b hb;omega
 ·obtain⟨h1,h2,h3,h4,h5⟩:=hd b hb;exact⟨ZD,ZD,ZD,λi hi=>by have:=h4 i hi;omega,λi hi=>by have:=h5 i hi;omega⟩
theorem OCodes.frz {N:Nat}(hN:N<=100000){us:List OCode}{cc:C}{cl:List (Nat×Obj)}(hg:Gr cl 3 (us.map OCode.row) cc)(hu:∀u∈us,u.ok/\u.sm N)(h:Held H S (us.flatMap OCode.lg++cl)) :
  ∃cs:List CodeD,FrzC H S cc (.sl false 3 (Qw cs))/\cs.length=us.length/\∀c∈cs,c.gd:=by
 obtain⟨cs,h1,h2,h3⟩:=OP (H:=H) (S:=S) (P:=CodeD.gd) (f:=OCode.row) (g:=CodeD.cells) us λu dx=>u.frz hN (hu u dx).1 (hu u dx).2 (h.l.m dx);exact⟨cs,Gr.frzM hg h.r h1,h2,h3⟩
end Go.AE.Y
namespace Go.AE
variable {P:Program}
theorem Az {a b:SC}{Q:X->Env->Heap->Prop}{e:Env}{H:Heap}(T:Env->Heap->Prop)(h1:∀Q':X->Env->Heap->Prop,(∀e H,T e H->Q' .nrm e H)->(∀e H,Q .ret e H->Q' .ret e H)->(∀i e H,Q (.exit i) e H->Q' (.exit i) e H)->Ad P a Q' e H)
  (h2:∀e H,T e H->Ad P b Q e H):Ad P (.seq a b) Q e H:=h1 (X.sq P b Q) h2 (λ_ _ h=>h) (λ_ _ _ h=>h)
end Go.AE
namespace Go.AE.Y
structure UPhi where
 to:Int
 ns:List Int
 ac:C
 al:List (Nat×Obj)
def UPhi.row (x:UPhi):List C:=[.int .i64 x.to,x.ac]
structure UBlk where
 aa:List UPhi
 pc:C
 pl:List (Nat×Obj)
 ins:List InsD
 ic:C
 il:List (Nat×Obj)
 jump:Int
 on:Int
 nfl:Bool
 next:List Int
def UBlk.row (x:UBlk):List C:=[x.pc,x.ic,.int .i64 x.jump,.int .i64 x.on,.sl x.nfl 1 (Qb x.next)]
def UBlk.lg (x:UBlk):List (Nat×Obj):=x.il++(x.aa.flatMap UPhi.al++x.pl)
structure UBlk.ok (x:UBlk):Prop where
 p:Gr x.pl 2 (x.aa.map UPhi.row) x.pc
 i:Gr x.il 4 (Af x.ins) x.ic
 a:∀p∈x.aa,Gr p.al 1 (Qb p.ns) p.ac
structure UBlk.sm (b:UBlk)(N:Nat):Prop where
 n:b.next.length<=2
 i:b.ins.length<=1000
 p:b.aa.length<=N
 ia:∀x∈b.ins,x.args.length<=1000
 pa:∀x∈b.aa,x.ns.length<=1000
structure UCode where
 params:Int
 ab:Int
 blocks:List UBlk
 bc:C
 bl:List (Nat×Obj)
def UCode.row (x:UCode):List C:=[.int .i64 x.params,.int .i64 x.ab,x.bc]
def UCode.lg (x:UCode):List (Nat×Obj):=x.blocks.flatMap UBlk.lg++x.bl
structure UCode.ok (x:UCode):Prop where
 b:Gr x.bl 5 (x.blocks.map UBlk.row) x.bc
 bs:∀b∈x.blocks,b.ok
 p0:0<=x.params
 p1:x.params<=3
structure UCode.sm (c:UCode)(N:Nat):Prop where
 b0:0<c.blocks.length
 b:c.blocks.length<=160
 bs:∀b∈c.blocks,b.sm N
theorem UPhi.an (x:UPhi)(h:Gr x.al 1 (Qb x.ns) x.ac):Go.AE.an x.row=true:=by
 simp only[Go.AE.an,UPhi.row,J2,J5,h.ai];rfl
theorem UBlk.an (x:UBlk)(h:x.ok):Go.AE.an x.row=true:=by
 simp only[Go.AE.an,UBlk.row,J2,J5,h.p.ai,h.i.ai];rfl
theorem UCode.an (x:UCode)(h:x.ok):Go.AE.an x.row=true:=by
 simp only[Go.AE.an,UCode.row,J2,J5,h.b.ai];rfl
theorem UBlk.len5 (x:UBlk):x.row.length=5:=rfl
theorem UCode.len3 (x:UCode):x.row.length=3:=rfl
theorem UBlk.sm.mono {b:UBlk}{N M:Nat}(h:b.sm N)(hm:N<=M):b.sm M:=⟨h.n,h.i,by have:=h.p;omega,h.ia,h.pa⟩
theorem UCode.sm.mono {c:UCode}{N M:Nat}(h:c.sm N)(hm:N<=M):c.sm M:=⟨h.b0,h.b,λb hb=>(h.bs b hb).mono hm⟩
variable {H:Heap}{S:Nat->Bool}
theorem UBlk.frz (x:UBlk){N:Nat}(hN:N<=1000)(ay:x.ok)(hs:x.sm N)(h:Held H S x.lg):∃d:BlkD,FrzL H S x.row d.cells/\d.sm:=by
 obtain⟨ps,iE,xU,hpp⟩:=OP (H:=H) (S:=S) (P:=λp:PhiD=>p.args.length<=1000) (f:=UPhi.row) (g:=PhiD.cells) x.aa λp hp=>
  ⟨⟨p.to,p.ns⟩,.cons (Qi rfl) (.cons (Gr.frzM (ay.a p hp) (h.r.l.m hp) (FrzR.same (Qy _))) .nil),hs.pa p hp⟩
 have h1:=hs.n;have h2:=hs.i;have h3:=hs.p;exact⟨⟨ps,x.ins,x.jump,x.on,x.next⟩,.cons (Gr.frzM ay.p h.r.r iE) (.cons (Gr.frzM ay.i h.l (FrzR.same (Q6g _))) (.cons (Qi rfl) (.cons (Qi rfl) (.cons (FrzR.same (Qy _)).sl .nil)))),
  h1,h2,by show ps.length<=_;omega,hs.ia,hpp⟩
theorem UCode.frz (x:UCode){N:Nat}(hN:N<=1000)(ay:x.ok)(hs:x.sm N)(h:Held H S x.lg):∃d:CodeD,FrzL H S x.row d.cells/\d.sm:=by
 obtain⟨bs,fO,cM,wF⟩:=OP (H:=H) (S:=S) (P:=BlkD.sm) (f:=UBlk.row) (g:=BlkD.cells) x.blocks λb hb=>b.frz hN (ay.bs b hb) (hs.bs b hb) (h.l.m hb);have fw:=hs.b0;have bf:=hs.b;exact⟨⟨x.params,x.ab,bs⟩,.cons (Qi rfl) (.cons (Qi rfl) (.cons (Gr.frzM ay.b h.r fO) .nil)),by show 0<bs.length;omega,by show bs.length<=_;omega,wF,ay.p0,by have:=ay.p1;show x.params<=_;omega⟩
theorem UCodes.frz {us:List UCode}{N:Nat}(hN:N<=1000){cc:C}{cl:List (Nat×Obj)}(hg:Gr cl 3 (us.map UCode.row) cc)(hu:∀u∈us,u.ok/\u.sm N)(h:Held H S (us.flatMap UCode.lg++cl)) :
  ∃cs:List CodeD,FrzC H S cc (.sl false 3 (Qw cs))/\cs.length=us.length/\∀c∈cs,c.sm:=by
 obtain⟨cs,h1,h2,h3⟩:=OP (H:=H) (S:=S) (P:=CodeD.sm) (f:=UCode.row) (g:=CodeD.cells) us λu dx=>u.frz hN (hu u dx).1 (hu u dx).2 (h.l.m dx);exact⟨cs,Gr.frzM hg h.r h1,h2,h3⟩
end Go.AE.Y
namespace Go.AE.Y
theorem Qt {α:Type}{l1 l2:List α}(h:∀f:List α->Nat,(∀a b,f (a++b)=f a+f b)->f []=0->(∀x l,f (x::l)=f [x]+f l)->(∀a b:List α,a.Perm b->f a=f b)->f l1=f l2):l1.Perm l2:=by
 classical
 exact List.perm_iff_count.2 λa=>h (List.count a) (λ_ _=>List.count_append) rfl (λx l=>by rw[Jas,Jas];simp;omega) (λ_ _ hp=>hp.count_eq a)
def UBlk.core (x:UBlk):List (Nat×Obj):=x.il++x.aa.flatMap UPhi.al
def Bz (us:List UCode)(ci bi:Nat)(hc:ci<us.length):List (Nat×Obj):=(us[ci].blocks.eraseIdx bi).flatMap UBlk.lg++(us.eraseIdx ci).flatMap UCode.lg
theorem YQ (us:List UCode)(ci bi:Nat)(hc:ci<us.length)(hb:bi<us[ci].blocks.length) :
  (us.flatMap UCode.lg).Perm (us[ci].bl++(us[ci].blocks[bi].pl++(us[ci].blocks[bi].core++Bz us ci bi hc))):=by
 refine Qt λf hf h0 bF hp=>?_;rw[hp _ _ (Cr UCode.lg us ci hc)];simp only[hf,UCode.lg,Bz];rw[hp _ _ (Cr UBlk.lg us[ci].blocks bi hb)];simp only[hf,UBlk.lg,UBlk.core];omega
def UCode.put (u:UCode)(bi:Nat)(b:UBlk)(bl:List (Nat×Obj)):UCode:={ u with blocks:=u.blocks.set bi b,bl:=bl }
theorem VD (us:List UCode)(ci bi:Nat)(hc:ci<us.length)(hb:bi<us[ci].blocks.length)(b:UBlk)(bl:List (Nat×Obj)) :
  ((us.set ci (us[ci].put bi b bl)).flatMap UCode.lg).Perm (bl++(b.pl++(b.core++Bz us ci bi hc))):=by
 refine Qt λf hf h0 bF hp=>?_;rw[hp _ _ (C1 UCode.lg us ci _ hc)];simp only[hf,UCode.lg,Bz,UCode.put];rw[hp _ _ (C1 UBlk.lg us[ci].blocks bi _ hb)];simp only[hf,UBlk.lg,UBlk.core];omega
theorem UBlk.core_snoc (b:UBlk)(p:UPhi)(pc:C)(pl:List (Nat×Obj)):UBlk.core { b with aa:=b.aa++[p],pc:=pc,pl:=pl }=b.core++p.al:=by
 simp[UBlk.core,Jak]
theorem UCode.put_row (u:UCode)(bi:Nat)(b:UBlk)(bl:List (Nat×Obj)):(u.put bi b bl).row=u.row:=rfl
theorem VC (us:List UCode)(ci:Nat)(hc:ci<us.length)(u:UCode)(h:u.row=us[ci].row):(us.set ci u).map UCode.row=us.map UCode.row:=by
 rw[J7,h];refine Jae ZF λi h1 h2=>?_;rw[J8];split
 ·rename_i h;subst h;simp
 ·rfl
theorem UCode.put_ok {u:UCode}{bi:Nat}{b:UBlk}{y:Nat}(h:u.ok)(hb:b.ok)(bG:u.bl=[(y,.vec 5 (u.blocks.map UBlk.row))]):(u.put bi b [(y,.vec 5 ((u.blocks.set bi b).map UBlk.row))]).ok:=by
 refine⟨?_,λb' aU=>?_,h.p0,h.p1⟩
 ·rcases h.b with ⟨h1,h2,h3⟩|⟨y',h1,h2⟩
  ·rw[bG]at h3;simp at h3
  ·rw[bG]at h2;have:y=y':=Zag
   subst this;exact .inr ⟨y,by show u.bc=_;rw[h1];simp[UCode.put],rfl⟩
 ·rcases Jn aU with aU|rfl
  ·exact h.bs _ aU
  ·exact hb
theorem UCode.put_sm {u:UCode}{bi N:Nat}{b:UBlk}{bl:List (Nat×Obj)}(h:u.sm N)(hb:b.sm (N+1)):(u.put bi b bl).sm (N+1):=by
 refine⟨by show 0<(u.blocks.set bi b).length;simpa using h.b0,by show (u.blocks.set bi b).length<=_;simpa using h.b,λb' aU=>?_⟩;rcases Jn aU with aU|rfl
 ·exact (h.bs _ aU).mono ZD
 ·exact hb
theorem UCode.bvec {u:UCode}(h:u.ok)(h0:0<u.blocks.length):∃y,u.bc=.ah y 5 0 u.blocks.length/\u.bl=[(y,.vec 5 (u.blocks.map UBlk.row))]:=by
 rcases h.b with ⟨h1,h2,h3⟩|⟨y,h1,h2⟩
 ·have:=Jaa.1 h2;rw[this]at h0;simp at h0
 ·exact⟨y,by rw[h1];simp,h2⟩
def Cm (us:List OCode)(ci bi:Nat)(hc:ci<us.length):List (Nat×Obj):=(us[ci].blocks.eraseIdx bi).flatMap OBlk.lg++(us.eraseIdx ci).flatMap OCode.lg
theorem Qbtq (us:List OCode)(ci bi:Nat)(hc:ci<us.length)(hb:bi<us[ci].blocks.length) :
  (us.flatMap OCode.lg).Perm (us[ci].bl++(us[ci].blocks[bi].lg++Cm us ci bi hc)):=by
 refine Qt λf hf h0 bF hp=>?_;rw[hp _ _ (Cr OCode.lg us ci hc)];simp only[hf,OCode.lg,Cm];rw[hp _ _ (Cr OBlk.lg us[ci].blocks bi hb)];simp only[hf];omega
def OCode.put (u:OCode)(bi:Nat)(b:OBlk)(bl:List (Nat×Obj)):OCode:={ u with blocks:=u.blocks.set bi b,bl:=bl }
theorem If (us:List OCode)(ci bi:Nat)(hc:ci<us.length)(hb:bi<us[ci].blocks.length)(b:OBlk)(bl:List (Nat×Obj)) :
  ((us.set ci (us[ci].put bi b bl)).flatMap OCode.lg).Perm (bl++(b.lg++Cm us ci bi hc)):=by
 refine Qt λf hf h0 bF hp=>?_;rw[hp _ _ (C1 OCode.lg us ci _ hc)];simp only[hf,OCode.lg,Cm,OCode.put];rw[hp _ _ (C1 OBlk.lg us[ci].blocks bi _ hb)];simp only[hf];omega
theorem Ie (us:List OCode)(ci:Nat)(hc:ci<us.length)(u:OCode)(h:u.row=us[ci].row):(us.set ci u).map OCode.row=us.map OCode.row:=by
 rw[J7,h];refine Jae ZF λi h1 h2=>?_;rw[J8];split
 ·rename_i h;subst h;simp
 ·rfl
theorem OCode.put_ok {u:OCode}{bi:Nat}{b:OBlk}{y:Nat}(h:u.ok)(hb:b.ok)(bG:u.bl=[(y,.vec 5 (u.blocks.map OBlk.row))]):(u.put bi b [(y,.vec 5 ((u.blocks.set bi b).map OBlk.row))]).ok:=by
 refine⟨?_,λb' aU=>?_⟩
 ·rcases h.b with ⟨h1,h2,h3⟩|⟨y',h1,h2⟩
  ·rw[bG]at h3;simp at h3
  ·rw[bG]at h2;have:y=y':=Zag
   subst this;exact .inr ⟨y,by show u.bc=_;rw[h1];simp[OCode.put],rfl⟩
 ·rcases Jn aU with aU|rfl
  ·exact h.bs _ aU
  ·exact hb
theorem OCode.put_sm {u:OCode}{bi:Nat}{b:OBlk}{bl:List (Nat×Obj)}{N:Nat}(h:u.sm N)(hb:b.sm (N+1)):(u.put bi b bl).sm (N+1):=by
 refine⟨by show 0<(u.blocks.set bi b).length;simpa using h.b0,by show (u.blocks.set bi b).length<=_;simpa using h.b,λb' aU=>?_,h.p0,h.p1⟩;rcases Jn aU with aU|rfl
 ·exact (h.bs _ aU).mono ZD
 ·exact hb
theorem OCode.bvec {u:OCode}(h:u.ok)(h0:0<u.blocks.length):∃y,u.bc=.ah y 5 0 u.blocks.length/\u.bl=[(y,.vec 5 (u.blocks.map OBlk.row))]:=by
 rcases h.b with ⟨h1,h2,h3⟩|⟨y,h1,h2⟩
 ·have:=Jaa.1 h2;rw[this]at h0;simp at h0
 ·exact⟨y,by rw[h1];simp,h2⟩
theorem OBlk.ivec {u:OBlk}(h:u.ok)(h0:0<u.ins.length):∃y,u.ic=.ah y 4 0 u.ins.length/\u.il=[(y,.vec 4 (u.ins.map OIns.row))]:=by
 rcases h.i with ⟨h1,h2,h3⟩|⟨y,h1,h2⟩
 ·have:=Jaa.1 h2;rw[this]at h0;simp at h0
 ·exact⟨y,by rw[h1];simp,h2⟩
variable {H0 H H2:Heap}{E X cl:List (Nat×Obj)}
theorem KU {us:List OCode}{ci bi yb:Nat}{u:OCode}{b:OBlk}(kn:Kn H0 H E (X++us.flatMap OCode.lg++cl))(hc:ci<us.length)(hu:us[ci]=u)(hb:bi<u.blocks.length)(hub:u.blocks[bi]=b)
  (bG:u.bl=[(yb,.vec 5 (u.blocks.map OBlk.row))]):Kn H0 H E ([(yb,.vec 5 (u.blocks.map OBlk.row))]++(b.lg++(Cm us ci bi hc++(X++cl)))):=by
 subst hu;subst hub;refine kn.perm (Qt λf hf h0 bF hp=>?_);have h1:=hp _ _ (Qbtq us ci bi hc hb);rw[bG]at h1;simp only[hf]at h1⊢;omega
theorem Qbl7 {us:List OCode}{ci bi yb:Nat}{u:OCode}{b':OBlk}{cc:C}(hc:ci<us.length)(hu:us[ci]=u)(hb:bi<u.blocks.length)
  (bG:u.bl=[(yb,.vec 5 (u.blocks.map OBlk.row))]) {N:Nat} (ay:∀u∈us,u.ok/\u.sm N) (kK:b'.ok) (js:b'.sm (N+1)) (hg:Gr cl 3 (us.map OCode.row) cc)
  (kn:Kn H0 H E ([(yb,.vec 5 ((u.blocks.set bi b').map OBlk.row))]++(b'.lg++(Cm us ci bi hc++(X++cl))))) :
  ∃us':List OCode,us'.length=us.length/\Gr cl 3 (us'.map OCode.row) cc/\(∀u∈us',u.ok/\u.sm (N+1))/\Kn H0 H E (X++us'.flatMap OCode.lg++cl):=by
 obtain⟨h1,h2⟩:=ay _ (Jaf hc);rw[hu]at h1 h2;refine⟨us.set ci (u.put bi b' [(yb,.vec 5 ((u.blocks.set bi b').map OBlk.row))]),ZF,?_,λv hv=>?_,kn.perm (Qt λf hf h0 bF hp=>?_)⟩
 ·rw[Ie us ci hc _ (by rw[hu];rfl)];exact hg
 ·rcases Jn hv with hv|rfl
  ·exact⟨(ay v hv).1,(ay v hv).2.mono ZD⟩
  ·exact⟨OCode.put_ok h1 kK bG,OCode.put_sm h2 js⟩
 ·subst hu;have h1:=hp _ _ (If us ci bi hc hb b' [(yb,.vec 5 ((us[ci].blocks.set bi b').map OBlk.row))]);simp only[hf]at h1⊢;omega
theorem OS {l:List OBlk}{bi:Nat}{b:OBlk}(hb:bi<l.length)(h:b.row=(l[bi]).row):(l.set bi b).map OBlk.row=l.map OBlk.row:=by
 rw[J7,h];refine Jae ZF λi h1 h2=>?_;rw[J8];split
 ·rename_i h;subst h;simp
 ·rfl
variable {b b':OBlk}{R:List (Nat×Obj)}{p:Nat×Obj}
theorem D8 {yi:Nat}(kn:Kn H0 H E ([p]++(b.lg++R)))(ck:b.il=[(yi,.vec 4 (b.ins.map OIns.row))]) :
  Kn H0 H E ([(yi,.vec 4 (b.ins.map OIns.row))]++([p]++(b.nx.lg++(b.aa.flatMap OPhi.lg++(b.pl++(b.ins.flatMap OIns.lg++R)))))):=by
 refine kn.perm (Qt λf hf h0 bF hp=>?_);simp only[OBlk.lg,ck,hf];omega
theorem FP {yi:Nat}{is:List OIns}(kn:Kn H0 H E ([(yi,.vec 4 (is.map OIns.row))]++([p]++(b.nx.lg++(b.aa.flatMap OPhi.lg++(b.pl++(b.ins.flatMap OIns.lg++R)))))))
  (hl:(is.flatMap OIns.lg).Perm (b.ins.flatMap OIns.lg)):Kn H0 H E ([p]++(OBlk.lg { b with ins:=is,il:=[(yi,.vec 4 (is.map OIns.row))] }++R)):=by
 refine kn.perm (Qt λf hf h0 bF hp=>?_);have:=hp _ _ hl;simp only[OBlk.lg,hf];omega
theorem R9 {l:List OIns}{i:Nat}{x':OIns}(hi:i<l.length)(h:x'.lg=(l[i]).lg):((l.set i x').flatMap OIns.lg).Perm (l.flatMap OIns.lg):=by
 refine (C1 OIns.lg l i x' hi).trans ?_;rw[h];exact (Cr OIns.lg l i hi).symm
theorem OBlk.ins_ok {yi:Nat}{i:Nat}{x':OIns}(h:b.ok)(fM:b.ic=.ah yi 4 0 b.ins.length):OBlk.ok { b with ins:=b.ins.set i x',il:=[(yi,.vec 4 ((b.ins.set i x').map OIns.row))] }:=
 ⟨h.p,.inr ⟨yi,by show b.ic=_;rw[fM];simp,rfl⟩,h.a⟩
theorem OBlk.ins_sm {yi:Nat}{i:Nat}{x':OIns}{N:Nat}(h:b.sm N)(hx:x'.a.ns.length<=N+1):OBlk.sm { b with ins:=b.ins.set i x',il:=[(yi,.vec 4 ((b.ins.set i x').map OIns.row))] } (N+1):=by
 refine⟨h.n,by simpa using h.i,by have:=h.p;show b.aa.length<=_;omega,λx aW=>?_,λp hp=>by have:=h.pa p hp;omega⟩;rcases Jn aW with aW|rfl
 ·have:=h.ia x aW;omega
 ·exact hx
end Go.AE.Y
namespace Go.AE.Y
abbrev Qo4:Nat:=3
abbrev Tu:Nat:=5
abbrev SD:Nat:=6
abbrev PH:Nat:=7
abbrev SB:Nat:=8
abbrev RO:Nat:=9
abbrev S7:Nat:=10
abbrev Sg:Nat:=11
abbrev Ta:Nat:=12
abbrev Q6a:Nat:=17
abbrev Hr:Nat:=18
abbrev Q55:Nat:=19
abbrev Qr:Nat:=20
abbrev PL:Nat:=21
abbrev TH:Nat:=22
abbrev Tp:Nat:=23
abbrev Ti:Nat:=24
abbrev DY:Nat:=25
abbrev EZ:Nat:=26
abbrev Pl:Nat:=27
abbrev TI:Nat:=28
abbrev PJ:Nat:=29
abbrev Hy:Nat:=30
abbrev RE:Nat:=31
abbrev Py:Nat:=32
abbrev TK:Nat:=33
abbrev RF:Nat:=34
abbrev PT:Nat:=35
abbrev Ip:Nat:=36
abbrev PB:Nat:=37
abbrev OZ:Nat:=38
abbrev Px:Nat:=39
abbrev Q6b:Nat:=42
abbrev Gh:Nat:=44
abbrev Q5z:Nat:=45
abbrev Q56:Nat:=46
abbrev B3:Nat:=47
abbrev RN:Nat:=48
abbrev SZ:Nat:=49
abbrev TD:Nat:=50
abbrev RH:Nat:=51
abbrev T6:Nat:=52
abbrev DZ:Nat:=53
abbrev TE:Nat:=54
abbrev G0:Nat:=55
abbrev EH:Nat:=56
abbrev T7:Nat:=57
abbrev Eo:Nat:=58
abbrev AM:Nat:=59
abbrev Q6c:Nat:=60
abbrev El:Nat:=61
abbrev OU:Nat:=62
abbrev Hf:Nat:=63
abbrev Rs:Nat:=64
abbrev Pz:Nat:=65
abbrev CH:Nat:=66
abbrev To:Nat:=67
abbrev Hc:Nat:=68
abbrev TJ:Nat:=69
abbrev Qo3:Nat:=70
abbrev Qh8:Nat:=71
abbrev Rr:Nat:=72
abbrev Si:Nat:=73
abbrev HB:Nat:=74
abbrev PI:Nat:=78
abbrev Fz:Nat:=79
abbrev OX:Nat:=80
abbrev Tg:Nat:=81
abbrev Cj:Nat:=82
abbrev SU:Nat:=83
abbrev SY:Nat:=84
abbrev TG:Nat:=85
abbrev SX:Nat:=86
abbrev Rw:Nat:=87
abbrev SW:Nat:=88
abbrev PV:Nat:=89
abbrev Th:Nat:=90
abbrev PK:Nat:=91
abbrev S6:Nat:=92
abbrev SS:Nat:=93
abbrev EV:Nat:=94
abbrev Cv:Nat:=95
abbrev Rf:Nat:=96
abbrev Gu:Nat:=97
abbrev P4:Nat:=98
abbrev Hn:Nat:=99
abbrev Hh:Nat:=100
abbrev SV:Nat:=101
abbrev Tn:Nat:=102
abbrev HU:Nat:=103
abbrev MR:Nat:=104
abbrev TL:Nat:=105
abbrev Eh:Nat:=114
abbrev Re:Nat:=117
abbrev AT:Nat:=118
abbrev Fw:Nat:=119
abbrev F1:Nat:=120
abbrev Q50:Nat:=121
abbrev T5:Nat:=122
abbrev Ht:Nat:=123
abbrev Pm:Nat:=124
abbrev SA:Nat:=125
abbrev RG:Nat:=126
abbrev Sf:Nat:=127
abbrev Pp:Nat:=128
abbrev GP:Nat:=129
abbrev Qb4:Nat:=130
abbrev Qsk:Nat:=131
abbrev Qjs:Nat:=132
abbrev Ql7:Nat:=133
abbrev Qk7:Nat:=134
abbrev Qey:Nat:=135
abbrev MQ:Nat:=136
abbrev Qif:Nat:=137
abbrev Qqv:Nat:=138
abbrev Fy:Nat:=148
abbrev FU:Nat:=149
abbrev Pj:Nat:=150
abbrev T9:Nat:=151
abbrev Q52:Nat:=152
abbrev Fx:Nat:=161
abbrev CE:Nat:=162
abbrev GO:Nat:=163
abbrev Ce:Nat:=164
abbrev G5:Nat:=165
abbrev BN:Nat:=166
abbrev CQ:Nat:=167
abbrev Cx:Nat:=168
abbrev G6:Nat:=169
abbrev CP:Nat:=170
abbrev FV:Nat:=171
abbrev EW:Nat:=172
abbrev Hg:Nat:=173
abbrev OY:Nat:=174
abbrev Qa8h:Nat:=175
abbrev Qbh2:Nat:=176
abbrev RB:Nat:=177
abbrev Qbmn:Nat:=178
abbrev Qa8i:Nat:=179
abbrev Qa8j:Nat:=180
abbrev Qbh3:Nat:=181
abbrev Qbh5:Nat:=182
abbrev Qbh4:Nat:=183
abbrev Qa8k:Nat:=184
abbrev Sj:Nat:=187
abbrev Sl:Nat:=188
abbrev DR:Nat:=189
abbrev Gy:Nat:=190
abbrev Hd:Nat:=191
abbrev He:Nat:=192
abbrev SQ:Nat:=193
abbrev Rv:Nat:=194
abbrev FY:Nat:=195
abbrev Q57:Nat:=198
abbrev Rt:Nat:=199
abbrev Ru:Nat:=200
abbrev PS:Nat:=201
abbrev Sk:Nat:=212
abbrev Em:Nat:=213
abbrev P5:Nat:=214
abbrev Hm:Nat:=215
abbrev Pw:Nat:=216
abbrev PA:Nat:=217
abbrev Sm:Nat:=218
abbrev F3:Nat:=219
abbrev EY:Nat:=220
abbrev EX:Nat:=221
abbrev F0:Nat:=222
abbrev Q51:Nat:=223
abbrev RD:Nat:=224
abbrev OW:Nat:=225
abbrev RC:Nat:=227
abbrev Gt:Nat:=228
abbrev ST:Nat:=229
abbrev PQ:Nat:=230
abbrev Q53:Nat:=231
abbrev RA:Nat:=237
abbrev Q6d:Nat:=238
abbrev S8:Nat:=239
abbrev Q58:Nat:=240
abbrev S5:Nat:=241
abbrev F2:Nat:=242
abbrev SR:Nat:=243
abbrev Q54:Nat:=244
abbrev S9:Nat:=246
abbrev Q59:Nat:=250
abbrev Rg:Nat:=251
abbrev OT:Nat:=252
abbrev F4:Nat:=254
open Go.Proofs.Tryz
def Q85:List Item:=[cJ 5 .eql 4 0]
def Q86:List Item:=[sJ 1 2 7]
def Qbag:SC:=cT 5 (sR (mJ 6 0::aJ 7 Fz [.t 6]::Q86) [2] .ret) .skip
def Q87:List Item:=[sJ 1 2 9]
def Qbah:SC:=sR (mJ 8 0::aJ 9 OX [.t 8]::Q87) [2] .ret
def Qbai:SC:=.seq (sR (mJ 3 0::aJ 4 Qr [.t 3,kI 12]::Q85) [0,2,5] Qbag) Qbah
def Qbo3:SC:=sR [eI 2 (.alloc [.sl true 3 []])] [0,2] Qbai
abbrev Fk:List RS:=[.cell 2 1 true]
theorem Qbnm:mFn prog Q5z 1 10 Qbo3 Fk=true:=ZH
def Qaqm:SC:=cT 24 (sR [zJ 4 0] [4] .ret) .skip
def Qaqn:SC:=cT 36 (sR [mJ 37 0,kJ 38 37,fJ 39 0 38,lJ 40 39,mJ 41 5,iJ 42 1 40 41,lJ 43 42,fI 44 (.cvt .i64 (.t 43)),mJ 45 1,bJ 46 .rem 44 45,mJ 4 46] [4] .ret) .skip
def Qaqo:SC:=sR [mJ 96 6,mJ 97 1,bJ 98 .rem 96 97,mJ 4 98] [4] .ret
def Qaqp:SC:=sR [mJ 92 6,mJ 93 6,cJ 94 .quo 93 64,bJ 95 .xor 92 94,mJ 6 95] [1,6] Qaqo
def Qaqq:SC:=.seq (.a7 46 [0,1,2,3,4,5,6,7,8,9,10,11,12,13,14,15,16,17,18,19,20,21,22,23,24,25,26,27,28,29,30,31,32,33,34,35,36,37,38,39,40,41,42,43,44,45] ( mJ 47 0::kJ 48 47::fJ 49 0 48::lJ 50 49::mJ 51 5::mJ 52 0::kJ 53 52::fJ 54 0 53::lJ 55 54::nJ 56 55::bJ 57 .rem 51 56::iJ 58 1 50 57::lJ 59 58::fI 60 (.cvt .i64 (.t 59))::cJ 61 .mul 60 131::mJ 62 0::kJ 63 62::fJ 64 0 63::lJ 65 64::mJ 66 5::cJ 67 .mul 66 7::cJ 68 .add 67 3::mJ 69 0::kJ 70 69::fJ 71 0 70::lJ 72 71::nJ 73 72::bJ 74 .rem 68 73::iJ 75 1 65 74::lJ 76 75::fI 77 (.cvt .i64 (.t 76))::cJ 78 .mul 77 1117::bJ 79 .add 61 78::mJ 80 5::cJ 81 .mul 80 29::bJ 82 .add 79 81::mJ 83 5::mJ 84 0::kJ 85 84::fJ 86 0 85::lJ 87 86::nJ 88 87::bJ 89 .quo 83 88::cJ 90 .mul 89 53::bJ 91 .add 82 90::mJ 6 91::[]) [1,6]) Qaqp
def Qaqr:SC:=.seq (sR [mJ 30 5,mJ 31 0,kJ 32 31,fJ 33 0 32,lJ 34 33,nJ 35 34,bJ 36 .lss 30 35] [0,1,5,36] Qaqn) Qaqq
def Qaqs:SC:=sR [mJ 25 0,kJ 26 25,fJ 27 1 26,lJ 28 27,cJ 29 .sub 28 1,mJ 5 29] [0,1,5] Qaqr
def Qaqt:SC:=.seq (sR [mJ 15 1,cJ 16 .lss 15 1,mJ 17 16,gFm 18 17 0,gF 19 17 (.nck (.t 18)),gFf 20 17 0 19,gFl 21 17 20,gF 22 17 (.len (.t 21)),gF 23 17 (.bin 0 .eql (.t 22) (kI 0)),pT 24 17 23] [0,1,24] Qaqm) Qaqs
def Qaqu:SC:=sR [mJ 7 0,mJ 8 0,kJ 9 8,fJ 10 1 9,lJ 11 10,cJ 12 .add 11 1,kJ 13 7,fJ 14 1 13,sJ 1 14 12] [0,1] Qaqt
def Qa50:SC:=sR [zJ 4 0] [0,1] Qaqu
abbrev Pv:List RS:=[.tmp 4]
theorem Qa0d:mFn prog Qr 2 99 Qa50 Pv=true:=ZH
def Mk:List Item:=[sJ 1 3 9]
def Mj:List Item:=eI 3 (.alloc [.sl true 3 []])::Mk
def Mi:List Item:=aJ 9 Hr [.t 8]::Mj
def Mh:List Item:=[hJ 11 10,iJ 17 3 11 16,mJ 4 17]
def Mg:List Item:=[hJ 21 20,iJ 29 5 21 28,mJ 5 29]
def Mf:List Item:=[mJ 6 41]
def LM:List Item:=[kJ 49 46,fJ 50 2 49,sJ 1 50 48]
def Qbkt:SC:=cT 58 (.reg [mJ 59 5,kJ 60 59,fJ 61 4 60,lJ 62 61,mJ 63 6,fI 64 (.iad 1 (.t 62) (kI 0)),sJ 1 64 63] [2,3]) .skip
def Qbku:SC:=cT 78 (.reg [mJ 79 5,kJ 80 79,fJ 81 1 80,lJ 82 81,mJ 83 6,fI 84 (.iad 4 (.t 82) (kI 0)),fJ 85 1 84,sJ 1 85 83] [2,3]) .skip
def LL:List Item:=[hJ 97 96,fI 108 (.iad 4 (.t 97) (kI 0)),fJ 109 2 108,sJ 1 109 107]
def Qbdp:SC:=cT 93 (.a7 17 [0,1,2,3,4,5,6,7,8,9,10,11,12,13,3,14,15,16] ( mJ 94 5::kJ 95 94::fJ 96 1 95::lJ 97 96::mJ 98 5::kJ 99 98::fJ 100 1 99::lJ 101 100::fI 102 (.iad 4 (.t 101) (kI 0))::fJ 103 2 102::lJ 104 103::mJ 105 6::fI 106 (.aH 1 [.t 105])::xJ 107 1 104 106::LL) [2,3]) .skip
def NX:List Item:=[kJ 122 112,fJ 123 0 122,sJ 1 123 121]
def NW:List Item:=[hJ 130 129,bJ 133 .add 130 132,kJ 134 126,fJ 135 1 134,sJ 1 135 133]
def NV:List Item:=[hJ 147 146,fI 151 (.iad 4 (.t 147) (kI 0)),fJ 152 3 151,sJ 1 152 150]
def Qbdq:SC:=cT 143 (.a7 10 [0,1,2,3,4,5,6,3,7,8,9] ( mJ 144 5::kJ 145 144::fJ 146 1 145::lJ 147 146::mJ 148 0::fI 149 (.aH 1 [kI 256,kI (-1),kI 1])::aJ 150 AT [.t 148,.t 149]::NV) [2,3]) .skip
def Qbdr:SC:=cT 136 (sR [mJ 138 5,kJ 139 138,fJ 140 1 139,lJ 141 140,nJ 142 141,cJ 143 .gtr 142 0] [0,2,3,5,143] Qbdq) .skip
def Qbds:SC:=cT 124 (.a7 11 [0,1,2,3,4,5,6,4,7,8,9,10] ( mJ 126 4::mJ 127 4::kJ 128 127::fJ 129 0 128::lJ 130 129::mJ 131 0::aJ 132 Qr [.t 131,kI 2]::NW) [2,3]) (sR [cJ 137 .eql 43 7,mJ 136 137] [0,2,3,5,136] Qbdr)
def Qbdt:SC:=cT 110 (.reg (mJ 112 5::mJ 113 5::kJ 114 113::fJ 115 0 114::lJ 116 115::mJ 117 6::fI 118 (.aH 1 [.t 117])::fI 119 (.bld [.int .i64 0,.sl true 1 []] [(0,1,kI 0),(1,1,.t 118)])::fI 120 (.aH 2 [.t 119])::xJ 121 2 116 120::NX) [2,3]) (sR [cJ 125 .eql 43 6,mJ 124 125] [0,2,3,4,5,43,124] Qbds)
def Qbdu:SC:=cT 86 (sR [mJ 88 5,kJ 89 88,fJ 90 1 89,lJ 91 90,nJ 92 91,cJ 93 .gtr 92 0] [2,3,5,6,93] Qbdp) (sR [cJ 111 .eql 43 5,mJ 110 111] [0,2,3,4,5,6,43,110] Qbdt)
def Qbdv:SC:=cT 71 (sR [mJ 73 5,kJ 74 73,fJ 75 1 74,lJ 76 75,nJ 77 76,cJ 78 .gtr 77 0] [2,3,5,6,78] Qbku) (sR [cJ 87 .eql 43 4,mJ 86 87] [0,2,3,4,5,6,43,86] Qbdu)
def Qbdw:SC:=cT 65 (.reg [mJ 67 5,mJ 68 6,kJ 69 67,fJ 70 3 69,sJ 1 70 68] [2,3]) (sR [cJ 72 .eql 43 3,mJ 71 72] [0,2,3,4,5,6,43,71] Qbdv)
def Qbdx:SC:=cT 51 (sR [mJ 53 5,kJ 54 53,fJ 55 4 54,lJ 56 55,nJ 57 56,cJ 58 .gtr 57 0] [2,3,5,6,58] Qbkt) (sR [cJ 66 .eql 43 2,mJ 65 66] [0,2,3,4,5,6,43,65] Qbdw)
def Qbdy:SC:=cT 44 (.reg (mJ 46 5::mJ 47 0::aJ 48 Qr [.t 47,kI 5]::LM) [2,3]) (sR [cJ 52 .eql 43 1,mJ 51 52] [0,2,3,4,5,6,43,51] Qbdx)
def Qbdz:SC:=.block 0 (sR [cJ 45 .eql 43 0,mJ 44 45] [0,2,3,4,5,6,43,44] Qbdy)
def Qbd0:SC:=sR [tJ 153 1 3,sJ 1 2 153] [2] .ret
def Qbd1:SC:=.seq (sR [mJ 42 0,aJ 43 Qr [.t 42,kI 32]] [0,2,3,4,5,6,43] Qbdz) Qbd0
def Qbd2:SC:=.seq (.a7 13 [0,1,2,3,4,5,6,7,8,9,10,11,12] ( mJ 30 0::mJ 31 4::kJ 32 31::fJ 33 1 32::lJ 34 33::mJ 35 4::kJ 36 35::fJ 37 2 36::lJ 38 37::nJ 39 38::fI 40 (.aH 1 [kI (-1),.t 34,.t 39,kI 0,kI 1])::aJ 41 AT [.t 30,.t 40]::Mf) [0,2,3,4,5,6]) Qbd1
def Qbd3:SC:=.seq (.a7 13 [0,1,2,3,4,5,6,7,8,9,10,3,11,12] ( mJ 18 4::kJ 19 18::fJ 20 2 19::lJ 21 20::mJ 22 0::mJ 23 4::kJ 24 23::fJ 25 2 24::lJ 26 25::nJ 27 26::aJ 28 Qr [.t 22,.t 27]::Mg) [0,2,3,4,5]) Qbd2
def Qbd4:SC:=.seq (.a7 9 [0,1,2,3,4,5,6,1,7,8] ( fJ 10 0 3::lJ 11 10::mJ 12 0::fJ 13 0 3::lJ 14 13::nJ 15 14::aJ 16 Qr [.t 12,.t 15]::Mh) [0,2,3,4]) Qbd3
def Qbd5:SC:=sR (mJ 7 0::aJ 8 Re [.t 7]::Mi) [0,2,3] Qbd4
def YI:SC:=sR [eI 2 (.alloc [.sl true 3 []])] [0,2] Qbd5
abbrev IV:List RS:=[.cell 2 1 true]
theorem Qbtb:mFn prog Fz 1 154 YI IV=true:=ZH
def Q9o:List Item:=[cJ 6 .eql 5 0]
def Q9p:List Item:=[sJ 1 3 9]
def Q9q:List Item:=eI 3 (.alloc [.sl true 3 []])::Q9p
def Q9r:List Item:=aJ 9 Fw [.t 8]::Q9q
def Qbaz:SC:=cT 11 (sR [tJ 12 1 3,sJ 1 2 12] [2] .ret) .skip
def Qba0:SC:=sR [tJ 10 1 3,aJ 11 DY [.t 10]] [0,2,3,11] Qbaz
def Qba1:SC:=cT 6 (sR (mJ 7 0::aJ 8 F1 [.t 7]::Q9r) [0,2,3] Qba0) .skip
def Q9s:List Item:=[sJ 1 2 14]
def M8:SC:=sR (mJ 13 0::aJ 14 Re [.t 13]::Q9s) [2] .ret
def Qba2:SC:=.seq (sR (mJ 4 0::aJ 5 Qr [.t 4,kI 2]::Q9o) [0,2,6] Qba1) M8
def Qbo9:SC:=sR [eI 2 (.alloc [.sl true 3 []])] [0,2] Qba2
abbrev Rb:List RS:=[.cell 2 1 true]
theorem Qbns:mFn prog OX 1 15 Qbo9 Rb=true:=ZH
def Qyp:List Item:=[iJ 10 1 5 9,lJ 11 10,mJ 4 11]
def Qax3:SC:=sR (mJ 5 1::mJ 6 0::mJ 7 1::nJ 8 7::aJ 9 Qr [.t 6,.t 8]::Qyp) [4] .ret
def Qbcu:SC:=sR [zJ 4 0] [0,1] Qax3
abbrev MN:List RS:=[.tmp 4]
theorem Qa9i:mFn prog AT 2 12 Qbcu MN=true:=ZH
def SH:List Item:=[sJ 1 3 5]
def SG:List Item:=[fJ 23 0 3,sJ 1 23 22]
def SF:List Item:=hJ 14 13::fI 21 (.aH 3 [.t 20])::xJ 22 3 14 21::SG
def Qaq0:SC:=.reg [mJ 11 4,cJ 12 .add 11 1,mJ 4 12] [1,2,3,4]
def Qaq1:SC:=.seq (.block 1 (.a7 12 [0,1,2,3,4,5,6,7,1,8,9,10,11] ( fJ 13 0 3::lJ 14 13::fJ 15 0 1::lJ 16 15::mJ 17 4::iJ 18 3 16 17::tJ 19 3 18::aJ 20 Gh [.t 19]::SF) [1,2,3,4])) Qaq0
def Qakn:SC:=.seq (sR [mJ 6 4,fJ 7 0 1,lJ 8 7,nJ 9 8,bJ 10 .lss 6 9] [1,2,3,4,10] (cT 10 .skip (.exit 0))) Qaq1
def Qaq2:SC:=sR [tJ 24 1 3,sJ 1 2 24] [2] .ret
def Qaq3:SC:=.seq (sR [zJ 4 0] [1,2,3,4] (bL 0 Qakn)) Qaq2
def Qaq4:SC:=sR (fI 5 (.bld [.sl true 3 []] [])::eI 3 (.alloc [.sl true 3 []])::SH) [1,2,3] Qaq3
def Qa6s:SC:=sR [vJ 1 0,eI 2 (.alloc [.sl true 3 []])] [1,2] Qaq4
abbrev RK:List RS:=[.cell 2 1 true]
theorem Q8s:mFn prog Hr 1 25 Qa6s RK=true:=ZH
def LT:List Item:=[sJ 1 3 9]
def LR:List Item:=[mJ 4 12]
def LQ:List Item:=[fJ 24 0 3,sJ 1 24 23]
def LP:List Item:=hJ 18 17::fI 22 (.aH 3 [.t 21])::xJ 23 3 18 22::LQ
def Qblf:SC:=.reg [mJ 15 4,cJ 16 .sub 15 1,mJ 4 16] [0,2,3,4]
def Qblg:SC:=.seq (.block 1 (.a7 9 [0,1,2,3,4,1,5,6,7,8] ( fJ 17 0 3::lJ 18 17::mJ 19 0::tJ 20 1 3::aJ 21 Fy [.t 19,.t 20]::LP) [0,2,3,4])) Qblf
def Qbfm:SC:=.seq (sR [mJ 13 4,cJ 14 .gtr 13 0] [0,2,3,4,14] (cT 14 .skip (.exit 0))) Qblg
def LN:List Item:=[mJ 5 27]
def Lt:List Item:=[hJ 33 32,iJ 39 3 33 38,mJ 6 39]
def Ls:List Item:=[mJ 7 46]
def Nf:List Item:=[sJ 2 8 53]
def Nd:List Item:=fI 53 (.bld [.int .i64 0,.sl true 1 []] [(0,1,.t 52)])::eI 8 (.alloc [.int .i64 0,.sl true 1 []])::Nf
def Nc:List Item:=[nJ 59 58,zJ 60 0]
def Nb:List Item:=[fJ 72 1 8,sJ 1 72 71]
def Na:List Item:=hJ 63 62::fI 70 (.aH 1 [.t 69])::xJ 71 1 63 70::Nb
def Qbe9:SC:=.reg [cJ 73 .add 60 1,mJ 60 73] [0,2,3,5,6,7,8,59,60]
def Qbfa:SC:=.seq (.block 5 (.a7 12 [0,1,2,3,4,5,6,7,1,8,9,10,11] ( fJ 62 1 8::lJ 63 62::mJ 64 0::mJ 65 6::kJ 66 65::fJ 67 1 66::lJ 68 67::aJ 69 Qr [.t 64,.t 68]::Na) [0,2,3,5,6,7,8,59,60])) Qbe9
def Qa63:SC:=sR [bJ 61 .lss 60 59] [0,2,3,5,6,7,8,59,60,61] (cX 61 4 Qbfa)
def MZ:List Item:=[hJ 79 78,iJ 92 5 79 80,fJ 93 0 92,sJ 1 93 91]
def Qbfb:SC:=cT 75 (.a7 19 [0,1,2,3,4,5,6,7,8,9,10,11,12,13,14,15,3,16,17,18] ( mJ 76 6::kJ 77 76::fJ 78 2 77::lJ 79 78::mJ 80 7::mJ 81 6::kJ 82 81::fJ 83 2 82::lJ 84 83::mJ 85 7::iJ 86 5 84 85::fJ 87 0 86::lJ 88 87::tJ 89 2 8::fI 90 (.aH 2 [.t 89])::xJ 91 2 88 90::MZ) [0,2,3,5]) .skip
def Qbfc:SC:=sR [mJ 74 7,cJ 75 .gtr 74 0] [0,2,3,5,6,7,8,75] Qbfb
def Qbfd:SC:=.seq (sR (mJ 54 6::kJ 55 54::tJ 56 3 55::mJ 57 7::aJ 58 Cv [.t 56,.t 57]::Nc) [0,2,3,5,6,7,8,59,60] (bL 4 Qa63)) Qbfc
def Qbfe:SC:=sR (mJ 47 0::mJ 48 6::kJ 49 48::fJ 50 1 49::lJ 51 50::aJ 52 Qr [.t 47,.t 51]::Nd) [0,2,3,5,6,7,8] Qbfd
def Qbff:SC:=sR (mJ 40 0::mJ 41 6::kJ 42 41::fJ 43 2 42::lJ 44 43::nJ 45 44::aJ 46 Qr [.t 40,.t 45]::Ls) [0,2,3,5,6,7] Qbfe
def Qbfg:SC:=.reg [mJ 30 5,cJ 31 .sub 30 1,mJ 5 31] [0,2,3,5]
def Qbfh:SC:=.seq (.block 3 (.seq (.a7 9 [0,1,2,3,4,5,6,1,7,8] ( fJ 32 0 3::lJ 33 32::mJ 34 0::fJ 35 0 3::lJ 36 35::nJ 37 36::aJ 38 Qr [.t 34,.t 37]::Lt) [0,2,3,5,6]) Qbff)) Qbfg
def Qa64:SC:=.seq (sR [mJ 28 5,cJ 29 .gtr 28 0] [0,2,3,5,29] (cT 29 .skip (.exit 2))) Qbfh
def Qbfi:SC:=sR [tJ 94 1 3,sJ 1 2 94] [2] .ret
def Qbfj:SC:=.seq (sR (mJ 25 0::fI 26 (.aH 1 [kI 0,kI 0,kI 1,kI 3])::aJ 27 AT [.t 25,.t 26]::LN) [0,2,3,5] (bL 2 Qa64)) Qbfi
def Qbfk:SC:=.seq (sR (mJ 10 0::fI 11 (.aH 1 [kI 1,kI 2,kI 1,kI 3])::aJ 12 AT [.t 10,.t 11]::LR) [0,2,3,4] (bL 0 Qbfm)) Qbfj
def Qbfl:SC:=sR (fI 9 (.bld [.sl true 3 []] [])::eI 3 (.alloc [.sl true 3 []])::LT) [0,2,3] Qbfk
def YC:SC:=sR [eI 2 (.alloc [.sl true 3 []])] [0,2] Qbfl
abbrev IS:List RS:=[.cell 2 1 true]
theorem Qbtg:mFn prog Re 1 95 YC IS=true:=ZH
def Qnn:List Item:=[oJ 11 10]
def Qaes:SC:=cT 11 (sR [fB 2 false] [2] .ret) .skip
def Qno:List Item:=[sJ 3 5 23]
def PN:List Item:=[gF 41 36 (.not (.t 40)),pT 42 36 41]
def Tt:List Item:=gF 34 28 (.not (.t 33))::pT 35 28 34::mJ 36 35::gFf 37 36 2 5::gFl 38 36 37::gF 39 36 (.len (.t 38))::.e (some 40) (some (36,false)) (.call AM [.t 39,kI 1,kI 160])::PN
def Qnp:List Item:=oJ 27 26::mJ 28 27::gFf 29 28 1 5::gFl 30 28 29::gFf 31 28 0 5::gFl 32 28 31::.e (some 33) (some (28,false)) (.call AM [.t 30,.t 32,kI 300])::Tt
def s_sp_UnitValid_6:SC:=cT 42 (sR [fB 2 false] [2] .ret) .skip
def Ts:List Item:=[gF 74 69 (.not (.t 73)),pT 75 69 74]
def Qqt:SC:=cT 75 (sR [fB 2 false] [2] .ret) .skip
def Qaet:SC:=sR (mJ 67 3::cJ 68 .gtr 67 800::mJ 69 68::gF 70 69 (.ld 1 true (.t 1))::gFm 71 69 4::gFm 72 69 6::.e (some 73) (some (69,false)) (.call Q6c [.t 70,.t 71,.t 72])::Ts) [1,3,4,5,6,75] Qqt
def Qnl:SC:=.reg [mJ 48 6,cJ 49 .add 48 1,mJ 6 49] [1,3,4,5,6]
def Q8d:SC:=.seq (.block 3 (.seq (.a7 18 [0,1,2,3,4,5,6,7,8,9,10,11,12,13,14,15,16,17] ( mJ 50 3::fJ 51 2 5::lJ 52 51::mJ 53 6::iJ 54 5 52 53::fJ 55 1 54::lJ 56 55::nJ 57 56::bJ 58 .add 50 57::fJ 59 2 5::lJ 60 59::mJ 61 6::iJ 62 5 60 61::fJ 63 0 62::lJ 64 63::nJ 65 64::bJ 66 .add 58 65::mJ 3 66::[]) [1,3,4,5,6]) Qaet)) Qnl
def Q5h:SC:=.seq (sR [mJ 43 6,fJ 44 2 5,lJ 45 44,nJ 46 45,bJ 47 .lss 43 46] [1,3,4,5,6,47] (cT 47 .skip (.exit 2))) Q8d
def Qnm:SC:=sR [zJ 6 0] [1,3,4,5,6] (bL 2 Q5h)
def Q8e:SC:=.seq (sR (fJ 24 0 5::lJ 25 24::aJ 26 AM [.t 25,kI 0,kI 3]::Qnp) [1,3,4,5,42] s_sp_UnitValid_6) Qnm
def Tk:SC:=.reg [mJ 17 4,cJ 18 .add 17 1,mJ 4 18] [1,3,4]
def Q8f:SC:=.seq (.block 1 (sR (fJ 19 0 1::lJ 20 19::mJ 21 4::iJ 22 3 20 21::tJ 23 3 22::eI 5 (.alloc [.int .i64 0,.int .i64 0,.sl true 5 []])::Qno) [1,3,4,5] Q8e)) Tk
def Q5i:SC:=.seq (sR [mJ 12 4,fJ 13 0 1,lJ 14 13,nJ 15 14,bJ 16 .lss 12 15] [1,3,4,16] (cT 16 .skip (.exit 0))) Q8f
def Tj:SC:=sR [fB 2 true] [2] .ret
def Q8g:SC:=.seq (sR [zJ 4 0] [1,3,4] (bL 0 Q5i)) Tj
def Q8h:SC:=sR [zJ 3 0] [1,3] Q8g
def Q8i:SC:=.seq (sR (fJ 7 0 1::lJ 8 7::nJ 9 8::aJ 10 AM [.t 9,kI 1,kI 4]::Qnn) [1,11] Qaes) Q8h
def Qar9:SC:=sR [vJ 1 0,fB 2 false] [1] Q8i
abbrev Hx:List RS:=[.tmp 2]
theorem Qan0:mFn prog DY 1 76 Qar9 Hx=true:=ZH
def Ln:List Item:=[sJ 1 3 5]
def Lm:List Item:=[fJ 20 0 3,sJ 1 20 19]
def Ll:List Item:=hJ 14 13::fI 18 (.aH 3 [.t 17])::xJ 19 3 14 18::Lm
def Qblm:SC:=.reg [mJ 11 4,cJ 12 .add 11 1,mJ 4 12] [1,2,3,4]
def Qbln:SC:=.seq (.block 1 (.a7 9 [0,1,2,3,4,1,5,6,7,8] ( fJ 13 0 3::lJ 14 13::tJ 15 1 1::mJ 16 4::aJ 17 FU [.t 15,.t 16]::Ll) [1,2,3,4])) Qblm
def Qbfr:SC:=.seq (sR [mJ 6 4,fJ 7 0 1,lJ 8 7,nJ 9 8,bJ 10 .lss 6 9] [1,2,3,4,10] (cT 10 .skip (.exit 0))) Qbln
def Qblo:SC:=sR [tJ 21 1 3,sJ 1 2 21] [2] .ret
def Qblp:SC:=.seq (sR [zJ 4 0] [1,2,3,4] (bL 0 Qbfr)) Qblo
def Qblq:SC:=sR (fI 5 (.bld [.sl true 3 []] [])::eI 3 (.alloc [.sl true 3 []])::Ln) [1,2,3] Qblp
def Y7:SC:=sR [vJ 1 0,eI 2 (.alloc [.sl true 3 []])] [1,2] Qblq
abbrev IP:List RS:=[.cell 2 1 true]
theorem Qbti:mFn prog Fw 1 22 Y7 IP=true:=ZH
def Me:List Item:=[mJ 3 13]
def Md:List Item:=fI 12 (.bld [.pnil,.sl true 3 [],.sl true 1 [],.int .i64 0,.int .i64 0] [(0,1,.t 8),(4,1,.t 11)])::eI 13 (.boxm (.t 12))::Me
def Mc:List Item:=[mJ 4 16]
def Mb:List Item:=[hJ 26 25,.chk 27 none (.len (.t 26)),.chk 28 none (.iad 1 (.t 22) (.t 27)),hJ 29 28,sJ 3 5 32]
def Ma:List Item:=eI 5 (.alloc [.str [],.sl true 1 [],.sl true 5 []])::Mb
def LZ:List Item:=hJ 26 25::.chk 27 none (.len (.t 26))::.chk 28 none (.iad 1 (.t 22) (.t 27))::hJ 29 28::aJ 32 Pj [.t 21,.t 29,.t 31]::Ma
def LY:List Item:=[kJ 41 33,fJ 42 1 41,sJ 1 42 40]
def Qbkh:SC:=.a7 11 [0,1,2,3,4,5,6,7,8,9,10] ( mJ 33 3::mJ 34 3::kJ 35 34::fJ 36 1 35::lJ 37 36::tJ 38 3 5::fI 39 (.aH 3 [.t 38])::xJ 40 3 37 39::LY) [0,2,3,4]
def Qbki:SC:=.reg [mJ 19 4,cJ 20 .sub 19 1,mJ 4 20] [0,2,3,4]
def Qbkj:SC:=.seq (.block 1 (.seq (.a7 12 [0,1,2,3,4,5,6,7,8,9,10,5,6,7,8,11,12,5,6,7,8,13] ( mJ 21 3::fI 22 (.aH 1 [.k (.c (.str [102])),.k (.c (.str [103])),.k (.c (.str [104]))])::mJ 23 3::kJ 24 23::fJ 25 1 24::lJ 26 25::nJ 27 26::iJ 28 1 22 27::lJ 29 28::mJ 30 0::aJ 31 Qr [.t 30,kI 3]::LZ) [0,2,3,4,5]) Qbkh)) Qbki
def Qa6a:SC:=.seq (sR [mJ 17 4,cJ 18 .gtr 17 0] [0,2,3,4,18] (cT 18 .skip (.exit 0))) Qbkj
def N4:List Item:=[sJ 3 6 47]
def N3:List Item:=eI 6 (.alloc [.str [],.sl true 1 [],.sl true 5 []])::N4
def N2:List Item:=eI 47 (.call Pj [.t 43,.k (.c (.str [109])),.t 46])::N3
def N1:List Item:=[hJ 52 51,.chk 54 none (.ld 3 true (.t 6)),sJ 1 7 57]
def N0:List Item:=fI 57 (.bld [.sl true 3 []] [(0,1,.t 56)])::eI 7 (.alloc [.sl true 3 []])::N1
def Nz:List Item:=.chk 54 none (.ld 3 true (.t 6))::xJ 56 3 53 55::N0
def Oa:List Item:=[oJ 60 59]
def Qbc1:SC:=cT 60 (sR [fI 61 (.bld [.int .i64 0,.int .i64 0,.str [],.sl true 4 []] [(0,1,kI 1),(1,1,kI 1)]),fI 62 (.aH 4 [.t 61]),fI 63 (.bld [.int .i64 0,.str [],.sl true 4 [],.sl true 5 [],.sl true 5 []] [(0,1,kI 3),(2,1,.t 62)]),fI 64 (.aH 5 [.t 63]),fI 65 (.bld [.str [],.sl true 1 [],.sl true 5 []] [(0,1,.k (.c (.str [109]))),(2,1,.t 64)]),fI 66 (.aH 3 [.t 65]),fI 67 (.bld [.sl true 3 []] [(0,1,.t 66)]),sJ 1 2 67] [2] .ret) .skip
def Qbc2:SC:=sR [tJ 68 1 7,sJ 1 2 68] [2] .ret
def Qbc3:SC:=.seq (.seq (.seq .gh (.reg (tJ 58 1 7::aJ 59 T9 [.t 58]::Oa) [2,7,60])) Qbc1) Qbc2
def Qbc4:SC:=.seq (.a7 10 [0,1,2,3,4,6,7,5,6,8,9,10,4,6,11] ( fI 48 (.aH 3 [])::mJ 49 3::kJ 50 49::fJ 51 1 50::lJ 52 51::tJ 54 3 6::fI 55 (.aH 3 [.t 54])::xJ 53 3 48 52::Nz) [2,7]) Qbc3
def Qbc5:SC:=sR (mJ 43 3::mJ 44 0::fI 45 (.aH 1 [kI 0,kI 1,kI 2,kI 1])::aJ 46 AT [.t 44,.t 45]::N2) [2,3,6] Qbc4
def Qbc6:SC:=.seq (sR (mJ 14 0::fI 15 (.aH 1 [kI 0,kI 1,kI 1,kI 2])::aJ 16 AT [.t 14,.t 15]::Mc) [0,2,3,4] (bL 0 Qa6a)) Qbc5
def Qbc7:SC:=sR (mJ 8 0::mJ 9 0::fI 10 (.aH 1 [kI 14,kI 20,kI 8,kI 26])::aJ 11 AT [.t 9,.t 10]::Md) [0,2,3] Qbc6
def YL:SC:=sR [eI 2 (.alloc [.sl true 3 []])] [0,2] Qbc7
abbrev EP:List RS:=[.cell 2 1 true]
theorem Qbs8:mFn prog F1 1 69 YL EP=true:=ZH
def L8:List Item:=[sJ 3 3 9]
def L7:List Item:=[fJ 27 2 3,sJ 1 27 26]
def L6:List Item:=hJ 18 17::fI 25 (.aH 5 [.t 24])::xJ 26 5 18 25::L7
def Qbkx:SC:=.reg [mJ 15 4,cJ 16 .add 15 1,mJ 4 16] [1,2,3,4]
def Qbky:SC:=.seq (.block 1 (.a7 12 [0,1,2,3,4,5,6,7,1,8,9,10,11] ( fJ 17 2 3::lJ 18 17::fJ 19 2 1::lJ 20 19::mJ 21 4::iJ 22 5 20 21::tJ 23 5 22::aJ 24 PI [.t 23]::L6) [1,2,3,4])) Qbkx
def Qbes:SC:=.seq (sR [mJ 10 4,fJ 11 2 1,lJ 12 11,nJ 13 12,bJ 14 .lss 10 13] [1,2,3,4,14] (cT 14 .skip (.exit 0))) Qbky
def Qbkz:SC:=sR [tJ 28 3 3,sJ 3 2 28] [2] .ret
def Qbk0:SC:=.seq (sR [zJ 4 0] [1,2,3,4] (bL 0 Qbes)) Qbkz
def Qbk1:SC:=sR (fJ 5 0 1::lJ 6 5::fJ 7 1 1::lJ 8 7::fI 9 (.bld [.int .i64 0,.int .i64 0,.sl true 5 []] [(0,1,.t 6),(1,1,.t 8)])::eI 3 (.alloc [.int .i64 0,.int .i64 0,.sl true 5 []])::L8) [1,2,3] Qbk0
def YG:SC:=sR [vJ 1 0,eI 2 (.alloc [.int .i64 0,.int .i64 0,.sl true 5 []])] [1,2] Qbk1
abbrev IT:List RS:=[.cell 2 3 true]
theorem Qbtd:mFn prog Gh 1 29 YG IT=true:=ZH
def Nk:List Item:=[mJ 5 41]
def Qbeu:SC:=cT 37 (sR (mJ 38 5::mJ 39 6::fI 40 (.aH 1 [.t 39])::xJ 41 1 38 40::Nk) [1,2,5,6] (.exit 2)) .skip
def Qbev:SC:=.reg [mJ 25 7,cJ 26 .add 25 1,mJ 7 26] [1,2,5,6,7]
def Qbew:SC:=.seq (.block 3 (sR [fJ 27 2 2,lJ 28 27,mJ 29 6,iJ 30 5 28 29,fJ 31 4 30,lJ 32 31,mJ 33 7,iJ 34 1 32 33,lJ 35 34,mJ 36 1,bJ 37 .eql 35 36] [1,2,5,6,7,37] Qbeu)) Qbev
def Qa6y:SC:=.seq (sR [mJ 16 7,fJ 17 2 2,lJ 18 17,mJ 19 6,iJ 20 5 18 19,fJ 21 4 20,lJ 22 21,nJ 23 22,bJ 24 .lss 16 23] [1,2,5,6,7,24] (cT 24 .skip (.exit 2))) Qbew
def L4:SC:=.reg [mJ 14 6,cJ 15 .add 14 1,mJ 6 15] [1,2,5,6]
def Qbex:SC:=.seq (.block 1 (sR [zJ 7 0] [1,2,5,6,7] (bL 2 Qa6y))) L4
def Qa6z:SC:=.seq (sR [mJ 9 6,fJ 10 2 2,lJ 11 10,nJ 12 11,bJ 13 .lss 9 12] [1,2,5,6,13] (cT 13 .skip (.exit 0))) Qbex
def L3:SC:=sR [mJ 42 5,mJ 4 42] [4] .ret
def Qbey:SC:=.seq (sR [zJ 6 0] [1,2,5,6] (bL 0 Qa6z)) L3
def Qa6x:SC:=sR [fI 8 (.aH 1 []),mJ 5 8] [1,2,5] Qbey
def Qbqe:SC:=sR [vJ 2 0,fI 4 (.mv (.k (.c (.sl true 1 []))))] [1,2] Qa6x
abbrev Fi:List RS:=[.tmp 4]
theorem Qboa:mFn prog Cv 2 43 Qbqe Fi=true:=ZH
def LH:List Item:=[sJ 3 5 13]
def LF:List Item:=fI 13 (.bld [.int .i64 0,.int .i64 0,.sl true 5 []] [(0,1,.t 12)])::eI 5 (.alloc [.int .i64 0,.int .i64 0,.sl true 5 []])::LH
def LE:List Item:=[hJ 15 14,bJ 19 .add 16 18,fJ 20 1 5,sJ 1 20 19]
def LD:List Item:=[mJ 6 23]
def LC:List Item:=[sJ 5 8 29]
def LB:List Item:=[mJ 9 32]
def LA:List Item:=[fJ 46 1 8,sJ 1 46 45]
def L9:List Item:=hJ 38 37::fI 44 (.aH 4 [.t 43])::xJ 45 4 38 44::LA
def Qbkv:SC:=.reg [mJ 35 9,cJ 36 .sub 35 1,mJ 9 36] [0,3,4,5,6,7,8,9]
def Qbkw:SC:=.seq (.block 3 (.a7 11 [0,1,2,3,4,5,6,1,7,8,9,10] ( fJ 37 1 8::lJ 38 37::mJ 39 0::tJ 40 1 3::fJ 41 1 5::lJ 42 41::aJ 43 Fx [.t 39,.t 40,.t 42]::L9) [0,3,4,5,6,7,8,9])) Qbkv
def Qa6q:SC:=.seq (sR [mJ 33 9,cJ 34 .gtr 33 0] [0,3,4,5,6,7,8,9,34] (cT 34 .skip (.exit 2))) Qbkw
def Nt:List Item:=[fJ 51 3 8,sJ 1 51 50]
def Ns:List Item:=[fJ 55 2 8,sJ 1 55 54]
def Pq:List Item:=[gT 66 63 (.bin 0 .gtr (.t 65) (kI 0)),gF 67 58 (.pick (.t 63) (.t 66) (.k (.c (.bool false)))),pT 68 58 67]
def LJ:SC:=cT 68 (.reg [fJ 69 2 8,.e none none (.sto 1 (.t 69) (kI 3))] [0,3,4,5,6,7,8]) .skip
def Nr:List Item:=[fI 79 (.aH 1 [.t 78]),fJ 80 4 8,sJ 1 80 79]
def Qbeb:SC:=.reg (mJ 75 0::mJ 76 7::mJ 77 6::aJ 78 CE [.t 75,.t 76,.t 77]::Nr) [0,3,4,5,6,7,8]
def Nq:List Item:=[fI 91 (.aH 1 [.t 86,.t 90]),fJ 92 4 8,sJ 1 92 91]
def Np:List Item:=mJ 87 0::mJ 88 7::mJ 89 6::aJ 90 CE [.t 87,.t 88,.t 89]::Nq
def Qbec:SC:=cT 81 (.reg (mJ 83 0::mJ 84 7::mJ 85 6::aJ 86 CE [.t 83,.t 84,.t 85]::Np) [0,3,4,5,6,7,8]) .skip
def Qbed:SC:=cT 72 (sR [fJ 74 3 8,.e none none (.sto 1 (.t 74) (kI 0))] [0,3,4,5,6,7,8] Qbeb) (sR [cJ 82 .eql 71 2,mJ 81 82] [0,3,4,5,6,7,8,81] Qbec)
def Qbee:SC:=.block 4 (sR [cJ 73 .eql 71 1,mJ 72 73] [0,3,4,5,6,7,8,71,72] Qbed)
def No:List Item:=[fJ 98 2 5,sJ 1 98 97]
def Qbef:SC:=.reg (fJ 93 2 5::lJ 94 93::tJ 95 5 8::fI 96 (.aH 5 [.t 95])::xJ 97 5 94 96::No) [0,3,4,5,6,7]
def Qbeg:SC:=.seq (sR [fJ 70 2 8,lJ 71 70] [0,3,4,5,6,7,8,71] Qbee) Qbef
def Qbeh:SC:=.seq (sR (mJ 56 6::cJ 57 .eql 56 1::mJ 58 57::gFm 59 58 7::gFm 60 58 6::gF 61 58 (.bin 0 .sub (.t 60) (kI 1))::gF 62 58 (.bin 0 .eql (.t 59) (.t 61))::gFm 63 58 62::gTm 64 63 0::.e (some 65) (some (63,true)) (.call Qr [.t 64,kI 3])::Pq) [0,3,4,5,6,7,8,68] LJ) Qbeg
def Qbei:SC:=sR (mJ 52 0::fI 53 (.aH 1 [kI 2,kI 1,kI 2,kI 1,kI 3])::aJ 54 AT [.t 52,.t 53]::Ns) [0,3,4,5,6,7,8] Qbeh
def Qbej:SC:=sR (mJ 47 0::fJ 48 1 5::lJ 49 48::aJ 50 Qr [.t 47,.t 49]::Nt) [0,3,4,5,6,7,8] Qbei
def Qbek:SC:=.seq (sR (mJ 30 0::fI 31 (.aH 1 [kI 1,kI 2,kI 0,kI 3,kI 4])::aJ 32 AT [.t 30,.t 31]::LB) [0,3,4,5,6,7,8,9] (bL 2 Qa6q)) Qbej
def Qbel:SC:=.reg [mJ 27 7,cJ 28 .add 27 1,mJ 7 28] [0,3,4,5,6,7]
def Qbem:SC:=.seq (.block 1 (sR (fI 29 (.bld [.sl true 2 [],.sl true 4 [],.int .i64 0,.int .i64 0,.sl true 1 []] [])::eI 8 (.alloc [.sl true 2 [],.sl true 4 [],.int .i64 0,.int .i64 0,.sl true 1 []])::LC) [0,3,4,5,6,7,8] Qbek)) Qbel
def Qa6r:SC:=.seq (sR [mJ 24 7,mJ 25 6,bJ 26 .lss 24 25] [0,3,4,5,6,7,26] (cT 26 .skip (.exit 0))) Qbem
def Qben:SC:=sR [tJ 99 3 5,sJ 3 4 99] [4] .ret
def Qbeo:SC:=.seq (sR [zJ 7 0] [0,3,4,5,6,7] (bL 0 Qa6r)) Qben
def Qbep:SC:=sR (mJ 21 0::fI 22 (.aH 1 [kI 3,kI 5,kI 2,kI 1,kI 7,kI 4])::aJ 23 AT [.t 21,.t 22]::LD) [0,3,4,5,6] Qbeo
def Qbeq:SC:=.seq (.a7 8 [0,1,2,3,4,1,5,6,7] ( fJ 14 0 5::lJ 15 14::cJ 16 .add 15 2::mJ 17 0::aJ 18 Qr [.t 17,kI 5]::LE) [0,3,4,5]) Qbep
def Qber:SC:=sR (mJ 10 0::fI 11 (.aH 1 [kI 1,kI 0,kI 2,kI 3])::aJ 12 AT [.t 10,.t 11]::LF) [0,3,4,5] Qbeq
def YH:SC:=sR [vJ 3 1,eI 4 (.alloc [.int .i64 0,.int .i64 0,.sl true 5 []])] [0,3,4] Qber
abbrev IU:List RS:=[.cell 4 3 true]
theorem Qbtc:mFn prog Fy 2 100 YH IU=true:=ZH
def YW:SC:=sR [mJ 7 0,mJ 8 1,bJ 9 .geq 7 8,mJ 10 9,gTm 11 10 0,gTm 12 10 2,gT 13 10 (.bin 0 .leq (.t 11) (.t 12)),pF 14 10 13,mJ 6 14] [6] .ret
def Ve:SC:=sR [fB 6 false] [0,1,2] YW
abbrev HP:List RS:=[.tmp 6]
theorem VI:mFn prog AM 3 15 Ve HP=true:=ZH
def Nw:List Item:=[sJ 3 7 18]
def Nv:List Item:=[sJ 5 8 23]
def Qbd6:SC:=cT 30 (sR [fB 6 false] [6] .ret) .skip
def Qbd7:SC:=cT 33 (.reg [zJ 9 0] [1,2,3,7,8,9]) (sR [fB 6 false] [6] .ret)
def Qbd8:SC:=cT 31 (.reg [zJ 9 2] [1,2,3,7,8,9]) (sR [cJ 34 .eql 25 3,mJ 33 34] [1,2,3,7,8,33] Qbd7)
def Qbd9:SC:=cT 26 (sR [fJ 28 3 8,lJ 29 28,cJ 30 .neq 29 0] [1,2,3,7,8,9,30] Qbd6) (sR [cJ 32 .eql 25 2,mJ 31 32] [1,2,3,7,8,25,31] Qbd8)
def Qbea:SC:=.block 0 (sR [cJ 27 .eql 25 1,mJ 26 27] [1,2,3,7,8,9,25,26] Qbd9)
def Pr:List Item:=[gT 51 44 (.not (.t 50)),gF 52 40 (.pick (.t 44) (.t 51) (.k (.c (.bool false)))),pT 53 40 52]
def s_l7Block_8:SC:=cT 53 (sR [fB 6 false] [6] .ret) .skip
def Nu:List Item:=[oJ 71 70]
def Qa6c:SC:=cT 71 (sR [fB 6 false] [6] .ret) .skip
def Qa6d:SC:=.reg [mJ 59 10,cJ 60 .add 59 1,mJ 10 60] [1,2,3,7,8,10]
def Qa6e:SC:=.seq (.block 2 (.seq (.a7 11 [0,1,2,3,4,5,6,7,8,9,10] ( fJ 61 4 8::lJ 62 61::mJ 63 10::iJ 64 1 62 63::lJ 65 64::fJ 66 2 7::lJ 67 66::nJ 68 67::cJ 69 .sub 68 1::aJ 70 AM [.t 65,kI 1,.t 69]::Nu) [1,2,3,7,8,10,71]) Qa6c)) Qa6d
def Qayd:SC:=.seq (sR [mJ 54 10,fJ 55 4 8,lJ 56 55,nJ 57 56,bJ 58 .lss 54 57] [1,2,3,7,8,10,58] (cT 58 .skip (.exit 1))) Qa6e
def Q4s:List Item:=[oJ 87 86]
def Qa6f:SC:=cT 87 (sR [fB 6 false] [6] .ret) .skip
def Qa6g:SC:=.reg [mJ 77 11,cJ 78 .add 77 1,mJ 11 78] [1,2,3,7,8,11]
def Qa6h:SC:=.seq (.block 4 (.seq (.a7 9 [0,1,2,3,4,5,6,7,8] ( tJ 79 1 3::mJ 80 1::fJ 81 1 8::lJ 82 81::mJ 83 11::iJ 84 4 82 83::tJ 85 4 84::aJ 86 EV [.t 79,.t 80,.t 85]::Q4s) [1,2,3,7,8,11,87]) Qa6f)) Qa6g
def Qaye:SC:=.seq (sR [mJ 72 11,fJ 73 1 8,lJ 74 73,nJ 75 74,bJ 76 .lss 72 75] [1,2,3,7,8,11,76] (cT 76 .skip (.exit 3))) Qa6h
def Q4t:List Item:=[mJ 12 90]
def P6:List Item:=[gF 134 123 (.not (.t 133)),pT 135 123 134]
def RQ:List Item:=gF 121 112 (.not (.t 120))::pT 122 112 121::mJ 123 122::gFf 124 123 0 8::gFl 125 123 124::gFm 126 123 13::gF 127 123 (.iad 2 (.t 125) (.t 126))::gFf 128 123 0 127::gFl 129 123 128::gFf 130 123 1 7::gFl 131 123 130::gF 132 123 (.bin 0 .sub (.t 131) (kI 1))::.e (some 133) (some (123,false)) (.call AM [.t 129,kI 0,.t 132])::P6
def NU:SC:=cT 135 (sR [fB 6 false] [6] .ret) .skip
def NT:SC:=.reg [mJ 96 13,cJ 97 .add 96 1,mJ 13 97] [2,7,8,12,13]
def Qa6i:SC:=.seq (.block 6 (.seq (.a7 38 [0,1,2,3,4,5,6,7,8,9,10,11,12,13,14,15,16,17,18,19,20,21,22,23,24,25,26,27,28,29,30,31,32,33,34,35,36,37] ( mJ 98 2::cJ 99 .eql 98 0::mJ 100 99::gFf 101 100 0 8::gFl 102 100 101::gFm 103 100 13::gF 104 100 (.iad 2 (.t 102) (.t 103))::gFf 105 100 1 104::gFl 106 100 105::gF 107 100 (.len (.t 106))::gFm 108 100 12::gF 109 100 (.len (.t 108))::gF 110 100 (.bin 0 .neq (.t 107) (.t 109))::pT 111 100 110::mJ 112 111::gF 113 112 (.ld 3 true (.t 7))::gFf 114 112 0 8::gFl 115 112 114::gFm 116 112 13::gF 117 112 (.iad 2 (.t 115) (.t 116))::gFf 118 112 1 117::gFl 119 112 118::.e (some 120) (some (112,false)) (.call Rf [.t 113,.t 119])::RQ) [2,7,8,12,13,135]) NU)) NT
def Qayf:SC:=.seq (sR [mJ 91 13,fJ 92 0 8,lJ 93 92,nJ 94 93,bJ 95 .lss 91 94] [2,7,8,12,13,95] (cT 95 .skip (.exit 5))) Qa6i
def NS:SC:=sR [fB 6 true] [6] .ret
def Qa6j:SC:=.seq (sR [zJ 13 0] [2,7,8,12,13] (bL 5 Qayf)) NS
def Qa6k:SC:=sR (tJ 88 3 7::mJ 89 2::aJ 90 Cv [.t 88,.t 89]::Q4t) [2,7,8,12] Qa6j
def Qa6l:SC:=.seq (sR [zJ 11 0] [1,2,3,7,8,11] (bL 3 Qaye)) Qa6k
def NR:SC:=.seq (sR [zJ 10 0] [1,2,3,7,8,10] (bL 1 Qayd)) Qa6l
def Nx:SC:=.seq (sR (fJ 35 4 8::lJ 36 35::nJ 37 36::mJ 38 9::bJ 39 .neq 37 38::mJ 40 39::gFf 41 40 2 8::gFl 42 40 41::gF 43 40 (.bin 0 .neq (.t 42) (kI 1))::gFm 44 40 43::gTf 45 44 3 8::gTl 46 44 45::gTf 47 44 1 7::gTl 48 44 47::gT 49 44 (.bin 0 .sub (.t 48) (kI 1))::.e (some 50) (some (44,true)) (.call AM [.t 46,kI 0,.t 49])::Pr) [1,2,3,7,8,53] s_l7Block_8) NR
def Qa6m:SC:=.seq (sR [fJ 24 2 8,lJ 25 24] [1,2,3,7,8,9,25] Qbea) Nx
def Qa6n:SC:=sR [zJ 9 1] [1,2,3,7,8,9] Qa6m
def Qa6o:SC:=sR (fJ 19 2 7::lJ 20 19::mJ 21 2::iJ 22 5 20 21::tJ 23 5 22::eI 8 (.alloc [.sl true 2 [],.sl true 4 [],.int .i64 0,.int .i64 0,.sl true 1 []])::Nv) [1,2,3,7,8] Qa6n
def Qa6p:SC:=sR (fJ 14 0 3::lJ 15 14::mJ 16 1::iJ 17 3 15 16::tJ 18 3 17::eI 7 (.alloc [.int .i64 0,.int .i64 0,.sl true 5 []])::Nw) [1,2,3,7] Qa6o
def Qbqb:SC:=sR [vJ 3 0,fB 6 false] [1,2,3] Qa6p
abbrev Ge:List RS:=[.tmp 6]
theorem Qbn8:mFn prog Q6c 3 136 Qbqb Ge=true:=ZH
def Oq:List Item:=[sJ 3 5 13]
def Oo:List Item:=[mJ 6 19]
def On:List Item:=[hJ 29 28,.chk 30 none (.len (.t 29)),bJ 34 .add 30 33,kJ 35 27,fJ 36 1 35,fJ 37 1 36,sJ 1 37 34]
def Om:List Item:=[kJ 59 45,fJ 60 5 59,sJ 1 60 58]
def YB:SC:=.reg [mJ 43 7,cJ 44 .add 43 1,mJ 7 44] [4,5,6,7]
def YA:SC:=.seq (.block 1 (.a7 17 [0,1,2,3,4,5,6,7,8,9,10,11,12,13,14,15,16] ( mJ 45 6::mJ 46 6::kJ 47 46::fJ 48 5 47::lJ 49 48::fJ 50 1 5::lJ 51 50::mJ 52 7::iJ 53 1 51 52::lJ 54 53::mJ 55 7::fI 56 (.bld [.str [],.int .i64 0,.int .i64 0] [(0,1,.t 54),(1,1,.t 55),(2,1,kI 0)])::fI 57 (.aH 3 [.t 56])::xJ 58 3 49 57::Om) [4,5,6,7])) YB
def Qbqo:SC:=.seq (sR [mJ 38 7,fJ 39 1 5,lJ 40 39,nJ 41 40,bJ 42 .lss 38 41] [4,5,6,7,42] (cT 42 .skip (.exit 0))) YA
def Ol:List Item:=[mJ 8 71]
def Oi:List Item:=fI 70 (.aH 1 [])::aJ 71 BN [.t 67,kI 1,.t 69,kI 0,.t 70]::Ol
def Y9:SC:=sR [mJ 76 6,kJ 77 76,fJ 78 1 77,tJ 79 3 78,sJ 3 4 79] [4] .ret
def Qbqf:SC:=sR [mJ 72 6,mJ 73 8,fI 74 (.aH 1 []),aJ 75 Cx [.t 72,kI 3,.t 73,.t 74,kI 0]] [4,6] Y9
def Qbqg:SC:=sR (mJ 67 6::mJ 68 6::aJ 69 CQ [.t 68]::Oi) [4,6,8] Qbqf
def Qbqh:SC:=sR [mJ 63 6,fJ 64 2 5,lJ 65 64,aJ 66 G5 [.t 63,.t 65]] [4,6] Qbqg
def Qbqi:SC:=sR [mJ 61 6,aJ 62 Ce [.t 61]] [4,5,6] Qbqh
def Qbqj:SC:=.seq (sR [zJ 7 0] [4,5,6,7] (bL 0 Qbqo)) Qbqi
def Qbqk:SC:=.seq (.a7 12 [0,1,2,3,4,5,6,2,3,7,8,9,10,11] ( mJ 27 6::fJ 28 1 5::lJ 29 28::nJ 30 29::fJ 31 2 5::lJ 32 31::aJ 33 GO [.t 32]::On) [4,5,6]) Qbqj
def Qbql:SC:=sR [mJ 20 6,fJ 21 1 5,lJ 22 21,nJ 23 22,kJ 24 20,fJ 25 1 24,fJ 26 0 25,sJ 1 26 23] [4,5,6] Qbqk
def Qbqm:SC:=sR (tJ 14 1 2::fJ 15 1 5::lJ 16 15::nJ 17 16::fI 18 (.bld [.sl true 3 [],.int .i64 0,.int .i64 0,.sl true 5 [],.int .i64 0,.sl true 3 [],.int .i64 0,.sl true 1 []] [(0,1,.t 14),(6,1,.t 17)])::eI 19 (.boxm (.t 18))::Oo) [4,5,6] Qbql
def Qbqn:SC:=sR (fJ 9 0 2::lJ 10 9::mJ 11 1::iJ 12 3 10 11::tJ 13 3 12::eI 5 (.alloc [.str [],.sl true 1 [],.sl true 5 []])::Oq) [2,4,5] Qbqm
def Vb:SC:=sR [vJ 2 0,eI 4 (.alloc [.int .i64 0,.int .i64 0,.sl true 5 []])] [1,2,4] Qbqn
abbrev HO:List RS:=[.cell 4 3 true]
theorem VF:mFn prog FU 2 80 Vb HO=true:=ZH
def Q4n:List Item:=[sJ 3 7 26]
def Q4o:List Item:=fI 26 (.bld [.str [],.sl true 1 [],.sl true 5 []] [(0,1,.t 19),(1,1,.t 25)])::eI 7 (.alloc [.str [],.sl true 1 [],.sl true 5 []])::Q4n
def Q4p:List Item:=[fJ 29 2 7,sJ 1 29 28]
def RR:List Item:=[gT 41 35 (.bin 0 .gtr (.t 40) (kI 0)),pF 42 35 41]
def Q4q:List Item:=[fJ 59 2 7,sJ 1 59 58]
def Q4r:List Item:=hJ 52 51::fI 55 (.aH 4 [.t 54])::fI 56 (.bld [.int .i64 0,.str [],.sl true 4 [],.sl true 5 [],.sl true 5 []] [(0,1,kI 7),(2,1,.t 55)])::fI 57 (.aH 5 [.t 56])::xJ 58 5 52 57::Q4q
def Qa56:SC:=.a7 10 [0,1,2,3,1,4,5,6,7,8,9] ( fJ 51 2 7::lJ 52 51::mJ 53 0::aJ 54 CP [.t 53,kI 2]::Q4r) [6,7]
def s_l3Gen_fn_7:SC:=cT 42 (sR [mJ 43 0,mJ 44 0,kJ 45 44,fJ 46 4 45,lJ 47 46,cJ 48 .sub 47 1,kJ 49 43,fJ 50 4 49,sJ 1 50 48] [0,6,7] Qa56) .skip
def R5:SC:=sR [tJ 60 3 7,sJ 3 6 60] [6] .ret
def Qa57:SC:=.seq (sR (mJ 30 0::kJ 31 30::fJ 32 4 31::lJ 33 32::cJ 34 .gtr 33 0::mJ 35 34::gTm 36 35 0::gT 37 35 (.nck (.t 36))::gTf 38 35 0 37::gTl 39 35 38::.e (some 40) (some (35,true)) (.call Qr [.t 39,kI 4])::RR) [0,6,7,42] s_l3Gen_fn_7) R5
def Qax5:SC:=sR (mJ 27 0::aJ 28 G6 [.t 27,kI 3]::Q4p) [0,6,7] Qa57
def Qax6:SC:=sR (mJ 19 1::fI 20 (.aH 1 [])::mJ 21 0::kJ 22 21::fJ 23 2 22::lJ 24 23::xJ 25 1 20 24::Q4o) [0,6,7] Qax5
def Qax7:SC:=sR [mJ 14 0,mJ 15 2,cJ 16 .sub 15 1,kJ 17 14,fJ 18 3 17,sJ 1 18 16] [0,1,6] Qax6
def Qax8:SC:=sR [mJ 8 0,fI 9 (.aH 1 [.k (.c (.str [97])),.k (.c (.str [98])),.k (.c (.str [99]))]),mJ 10 2,fI 11 (.sli 1 (.t 9) none (some (.t 10))),kJ 12 8,fJ 13 2 12,sJ 1 13 11] [0,1,2,6] Qax7
def Qbkg:SC:=sR [eI 6 (.alloc [.str [],.sl true 1 [],.sl true 5 []])] [0,1,2,6] Qax8
abbrev Pc:List RS:=[.cell 6 3 true]
theorem Qbix:mFn prog Pj 3 61 Qbkg Pc=true:=ZH
def Qhf:List Item:=[oJ 8 7]
def Q01:SC:=cT 8 (sR [fB 2 false] [2] .ret) .skip
def Qhg:List Item:=[oJ 22 21]
def Q02:SC:=cT 22 (sR [fB 2 false] [2] .ret) .skip
def Q03:SC:=.reg [mJ 14 3,cJ 15 .add 14 1,mJ 3 15] [1,3]
def Q04:SC:=.seq (.block 1 (sR (fJ 16 0 1::lJ 17 16::mJ 18 3::iJ 19 3 17 18::tJ 20 3 19::aJ 21 FV [.t 20]::Qhg) [1,3,22] Q02)) Q03
def Qw3:SC:=.seq (sR [mJ 9 3,fJ 10 0 1,lJ 11 10,nJ 12 11,bJ 13 .lss 9 12] [1,3,13] (cT 13 .skip (.exit 0))) Q04
def Qhh:List Item:=[cJ 25 .leq 24 40,mJ 2 25]
def Q05:SC:=sR (tJ 23 1 1::aJ 24 EW [.t 23]::Qhh) [2] .ret
def Q06:SC:=.seq (sR [zJ 3 0] [1,3] (bL 0 Qw3)) Q05
def Qw2:SC:=.seq (sR (fJ 4 0 1::lJ 5 4::nJ 6 5::aJ 7 AM [.t 6,kI 1,kI 4]::Qhf) [1,8] Q01) Q06
def Q8b:SC:=sR [vJ 1 0,fB 2 false] [1] Qw2
abbrev Tm:List RS:=[.tmp 2]
theorem Q6m:mFn prog T9 1 26 Q8b Tm=true:=ZH
def Qp5:List Item:=[hJ 10 9,hJ 12 11,hJ 15 14,sJ 5 3 17]
def Qp6:List Item:=hJ 10 9::hJ 12 11::fI 17 (.bld [.sl true 2 [],.sl true 4 [],.int .i64 0,.int .i64 0,.sl true 1 []] [(0,1,.t 7),(1,1,.t 8),(2,1,.t 10),(3,1,.t 12),(4,1,.t 16)])::eI 3 (.alloc [.sl true 2 [],.sl true 4 [],.int .i64 0,.int .i64 0,.sl true 1 []])::Qp5
def Qp7:List Item:=[fJ 44 0 3,sJ 1 44 43]
def Qp8:List Item:=hJ 26 25::hJ 28 27::.chk 30 none (.iad 2 (.t 28) (.t 29))::hJ 32 31::fI 41 (.bld [.int .i64 0,.sl true 1 []] [(0,1,.t 32),(1,1,.t 40)])::fI 42 (.aH 2 [.t 41])::xJ 43 2 26 42::Qp7
def Qakl:SC:=.reg [mJ 23 4,cJ 24 .add 23 1,mJ 4 24] [1,2,3,4]
def Qakm:SC:=.seq (.block 1 (.a7 21 [0,1,2,3,4,5,6,7,8,9,10,11,12,13,14,15,1,3,5,7,16,17,18,19,20] ( fJ 25 0 3::lJ 26 25::fJ 27 0 1::lJ 28 27::mJ 29 4::iJ 30 2 28 29::fJ 31 0 30::lJ 32 31::fI 33 (.aH 1 [])::fJ 34 0 1::lJ 35 34::mJ 36 4::iJ 37 2 35 36::fJ 38 1 37::lJ 39 38::xJ 40 1 33 39::Qp8) [1,2,3,4])) Qakl
def Qaec:SC:=.seq (sR [mJ 18 4,fJ 19 0 1,lJ 20 19,nJ 21 20,bJ 22 .lss 18 21] [1,2,3,4,22] (cT 22 .skip (.exit 0))) Qakm
def Qp9:List Item:=[sJ 4 6 56]
def Qqa:List Item:=[fJ 72 1 3,sJ 1 72 71]
def Qqb:List Item:=hJ 58 57::hJ 60 59::hJ 62 61::hJ 68 67::fI 69 (.bld [.int .i64 0,.int .i64 0,.sl true 1 [],.int .i64 0] [(0,1,.t 60),(1,1,.t 62),(2,1,.t 66),(3,1,.t 68)])::fI 70 (.aH 4 [.t 69])::xJ 71 4 58 70::Qqa
def Qad5:SC:=.a7 17 [0,1,2,3,4,5,6,7,8,10,11,9,1,3,5,11,12,13,14,15,16] ( fJ 57 1 3::lJ 58 57::fJ 59 0 6::lJ 60 59::fJ 61 1 6::lJ 62 61::fI 63 (.aH 1 [])::fJ 64 2 6::lJ 65 64::fJ 67 3 6::lJ 68 67::xJ 66 1 63 65::Qqb) [1,2,3,5]
def Qad6:SC:=.reg [mJ 50 5,cJ 51 .add 50 1,mJ 5 51] [1,2,3,5]
def Qad7:SC:=.seq (.block 3 (sR (fJ 52 1 1::lJ 53 52::mJ 54 5::iJ 55 4 53 54::tJ 56 4 55::eI 6 (.alloc [.int .i64 0,.int .i64 0,.sl true 1 [],.int .i64 0])::Qp9) [1,2,3,5,6] Qad5)) Qad6
def Q7x:SC:=.seq (sR [mJ 45 5,fJ 46 1 1,lJ 47 46,nJ 48 47,bJ 49 .lss 45 48] [1,2,3,5,49] (cT 49 .skip (.exit 2))) Qad7
def Qad8:SC:=sR [tJ 73 5 3,sJ 5 2 73] [2] .ret
def Qad9:SC:=.seq (sR [zJ 5 0] [1,2,3,5] (bL 2 Q7x)) Qad8
def Qaea:SC:=.seq (sR [zJ 4 0] [1,2,3,4] (bL 0 Qaec)) Qad9
def Qaeb:SC:=.seq (.a7 11 [0,1,2,3,4,5,6,7,8,9,3,5,10,11,3,5,8,12] ( fI 7 (.aH 2 [])::fI 8 (.aH 4 [])::fJ 9 2 1::lJ 10 9::fJ 11 3 1::lJ 12 11::fI 13 (.aH 1 [])::fJ 14 4 1::lJ 15 14::xJ 16 1 13 15::Qp6) [1,2,3]) Qaea
def Qayg:SC:=sR [vJ 1 0,eI 2 (.alloc [.sl true 2 [],.sl true 4 [],.int .i64 0,.int .i64 0,.sl true 1 []])] [1,2] Qaeb
abbrev Q11:List RS:=[.cell 2 5 true]
theorem Qaut:mFn prog PI 1 74 Qayg Q11=true:=ZH
def Lv:List Item:=[mJ 7 13]
def Lu:List Item:=[sJ 4 8 18]
def LX:List Item:=fI 18 (.bld [.int .i64 0,.int .i64 0,.sl true 1 [],.int .i64 0] [(0,1,.t 14),(1,1,.t 17)])::eI 8 (.alloc [.int .i64 0,.int .i64 0,.sl true 1 [],.int .i64 0])::Lu
def LW:List Item:=[mJ 9 20]
def LV:List Item:=[fI 30 (.aH 1 [.t 29]),fI 31 (.bld [.int .i64 0,.int .i64 0,.sl true 1 [],.int .i64 0] [(0,1,kI 13),(1,1,kI (-1)),(2,1,.t 30)]),sJ 4 6 31]
def Qblb:SC:=cT 26 (sR (mJ 27 0::mJ 28 2::aJ 29 Qr [.t 27,.t 28]::LV) [6] .ret) .skip
def LU:List Item:=[fJ 37 3 8,sJ 1 37 36]
def Qblc:SC:=.reg [fJ 38 0 4,lJ 39 38,fJ 40 3 8,lJ 41 40,iJ 42 3 39 41,fJ 43 0 42,lJ 44 43,mJ 9 44] [0,2,6,7,8,9]
def Qbld:SC:=sR (mJ 32 0::fJ 33 0 4::lJ 34 33::nJ 35 34::aJ 36 Qr [.t 32,.t 35]::LU) [0,2,4,6,7,8] Qblc
def Qble:SC:=cT 22 (.seq (sR [fJ 23 0 4,lJ 24 23,nJ 25 24,cJ 26 .eql 25 0] [0,2,4,6,7,8,26] Qblb) Qbld) .skip
def Nj:List Item:=[fJ 50 3 8,sJ 1 50 49]
def Qbe0:SC:=cT 46 (.reg (mJ 47 0::fI 48 (.aH 1 [kI 0,kI 1,kI 2,kI 3,kI 15,kI 16,kI 255])::aJ 49 AT [.t 47,.t 48]::Nj) [0,2,6,7,8,9]) .skip
def Ni:List Item:=[oJ 53 52]
def Qbe1:SC:=cT 53 (.reg [fJ 54 1 8,.e none none (.sto 1 (.t 54) (kI (-1)))] [0,2,6,8,9]) .skip
def Nh:List Item:=[fJ 67 2 8,sJ 1 67 66]
def Ng:List Item:=hJ 61 60::fI 65 (.aH 1 [.t 64])::xJ 66 1 61 65::Nh
def Qbe2:SC:=.reg [mJ 58 10,cJ 59 .add 58 1,mJ 10 59] [0,2,6,8,9,10]
def Qbe3:SC:=.seq (.block 1 (.a7 9 [0,1,2,3,4,1,5,6,7,8] ( fJ 60 2 8::lJ 61 60::mJ 62 0::mJ 63 2::aJ 64 Qr [.t 62,.t 63]::Ng) [0,2,6,8,9,10])) Qbe2
def Qa60:SC:=.seq (sR [mJ 55 10,mJ 56 9,bJ 57 .lss 55 56] [0,2,6,8,9,10,57] (cT 57 .skip (.exit 0))) Qbe3
def Qbe4:SC:=sR [tJ 68 4 8,sJ 4 6 68] [6] .ret
def Ly:SC:=.seq (sR [zJ 10 0] [0,2,6,8,9,10] (bL 0 Qa60)) Qbe4
def Lx:SC:=.seq (sR (mJ 51 7::aJ 52 Eh [.t 51]::Ni) [0,2,6,8,9,53] Qbe1) Ly
def Lw:SC:=.seq (sR [mJ 45 7,cJ 46 .eql 45 1] [0,2,6,7,8,9,46] Qbe0) Lx
def Qbe5:SC:=.seq (sR [mJ 21 7,cJ 22 .eql 21 14] [0,2,4,6,7,8,9,22] Qble) Lw
def Qbe6:SC:=sR (mJ 19 7::aJ 20 GP [.t 19]::LW) [0,2,4,6,7,8,9] Qbe5
def Qbe7:SC:=sR (mJ 14 7::mJ 15 0::mJ 16 2::aJ 17 Qr [.t 15,.t 16]::LX) [0,2,4,6,7,8] Qbe6
def Qbe8:SC:=sR (mJ 11 0::fI 12 (.aH 1 [kI 1,kI 1,kI 2,kI 3,kI 4,kI 5,kI 8,kI 9,kI 10,kI 13,kI 3,kI 6,kI 7,kI 11,kI 12,kI 14])::aJ 13 AT [.t 11,.t 12]::Lv) [0,2,4,6,7] Qbe7
def YE:SC:=sR [vJ 4 1,eI 6 (.alloc [.int .i64 0,.int .i64 0,.sl true 1 [],.int .i64 0])] [0,2,4,6] Qbe8
abbrev Gb:List RS:=[.cell 6 4 true]
theorem Qbtf:mFn prog Fx 3 69 YE Gb=true:=ZH
def Fe:List Item:=[gT 14 11 (.bin 0 .gtr (.t 13) (kI 0)),pF 15 11 14]
def Ou:List Item:=[bJ 24 .add 17 23,mJ 6 24]
def s_l7To_2:SC:=cT 15 (sR (mJ 16 1::cJ 17 .add 16 1::mJ 18 0::mJ 19 2::cJ 20 .sub 19 1::mJ 21 1::bJ 22 .sub 20 21::aJ 23 Qr [.t 18,.t 22]::Ou) [6] .ret) .skip
def Ot:List Item:=[fI 29 (.bin 0 .add (kI 1) (.t 28)),mJ 6 29]
def Iz:SC:=sR (mJ 25 0::mJ 26 2::cJ 27 .sub 26 1::aJ 28 Qr [.t 25,.t 27]::Ot) [6] .ret
def YD:SC:=.seq (sR (mJ 7 1::mJ 8 2::cJ 9 .sub 8 1::bJ 10 .lss 7 9::mJ 11 10::gTm 12 11 0::.e (some 13) (some (11,true)) (.call Qr [.t 12,kI 4])::Fe) [0,1,2,15] s_l7To_2) Iz
def Vc:SC:=sR [zJ 6 0] [0,1,2] YD
abbrev Do:List RS:=[.tmp 6]
theorem VG:mFn prog CE 3 30 Vc Do=true:=ZH
def Ky:List Item:=[sJ 3 7 12]
def Q7y:List Item:=[gF 22 17 (.not (.t 21)),pT 23 17 22]
def Kx:List Item:=oJ 16 15::mJ 17 16::gF 18 17 (.ld 3 true (.t 7))::gFf 19 17 2 5::gFl 20 17 19::.e (some 21) (some (17,false)) (.call Rf [.t 18,.t 20])::Q7y
def s_l7Ins_3:SC:=cT 23 (sR [fB 6 false] [6] .ret) .skip
def Q7z:List Item:=[gF 38 34 (.not (.t 37)),gFm 39 34 38,gTf 40 39 1 5,gTl 41 39 40,gT 42 39 (.bin 0 .neq (.t 41) (kI (-1))),gF 43 34 (.pick (.t 39) (.t 42) (.k (.c (.bool false)))),pT 44 34 43]
def Kw:List Item:=fI 33 (.bin 1 .neq (.t 26) (.t 32))::mJ 34 33::gFf 35 34 0 5::gFl 36 34 35::.e (some 37) (some (34,false)) (.call Eh [.t 36])::Q7z
def Kv:List Item:=hJ 28 27::hJ 30 29::aJ 32 AM [.t 28,kI 0,.t 31]::Kw
def s_l7Ins_7:SC:=cT 44 (sR [fB 6 false] [6] .ret) .skip
def Pb:List Item:=[mJ 53 52,gTf 54 53 2 5,gTl 55 53 54,gT 56 53 (.len (.t 55)),gTf 57 53 0 3,gTl 58 53 57,gTf 59 53 3 5,gTl 60 53 59,gT 61 53 (.iad 3 (.t 58) (.t 60)),gTf 62 53 0 61,gTl 63 53 62,gT 64 53 (.bin 0 .eql (.t 56) (.t 63)),pF 65 53 64,mJ 6 65]
def Qbqc:SC:=cT 47 (.seq (.a7 19 [0,1,2,3,4,5,6,7,8,9,10,11,12,13,14,15,16,17,18] ( fJ 48 3 5::lJ 49 48::mJ 50 1::cJ 51 .sub 50 1::aJ 52 AM [.t 49,kI 0,.t 51]::Pb) [6]) .ret) .skip
def Q0u:List Item:=[pF 77 73 76,mJ 78 77,gTf 79 78 3 5,gTl 80 78 79,gT 81 78 (.bin 0 .eql (.t 80) (kI 0)),gTm 82 78 81,gFf 83 82 0 5,gFl 84 82 83,gF 85 82 (.bin 0 .eql (.t 84) (kI 1)),gT 86 78 (.pick (.t 82) (.k (.c (.bool true))) (.t 85)),pF 87 78 86,mJ 6 87]
def L5:List Item:=hJ 67 66::.chk 68 none (.len (.t 67))::bJ 72 .eql 68 71::mJ 73 72::gTf 74 73 3 5::gTl 75 73 74::.e (some 76) (some (73,true)) (.call AM [.t 75,kI 0,kI 255])::Q0u
def Qbk2:SC:=.seq (.a7 23 [0,1,2,3,4,5,1,2,6,7,8,9,10,11,12,13,14,15,16,17,18,19,20,21,22] ( fJ 66 2 5::lJ 67 66::nJ 68 67::fJ 69 0 5::lJ 70 69::aJ 71 GP [.t 70]::L5) [6]) .ret
def K0:SC:=.seq (sR [fJ 45 0 5,lJ 46 45,cJ 47 .eql 46 14] [1,3,5,47] Qbqc) Qbk2
def Kz:SC:=.seq (.seq (.a7 21 [0,1,3,4,5,6,7,2,4,6,8,9,10,11,12,13,14,15,16,17,18,19,20] ( fJ 24 0 5::lJ 25 24::fJ 27 1 5::lJ 28 27::fJ 29 1 7::lJ 30 29::cJ 31 .sub 30 1::aJ 26 Eh [.t 25]::Kv) [1,3,5,44]) s_l7Ins_7) K0
def Qbk3:SC:=.seq (sR (fJ 13 0 5::lJ 14 13::aJ 15 AM [.t 14,kI 1,kI 14]::Kx) [1,3,5,7,23] s_l7Ins_3) Kz
def Qbk4:SC:=sR (fJ 8 0 3::lJ 9 8::mJ 10 1::iJ 11 3 9 10::tJ 12 3 11::eI 7 (.alloc [.int .i64 0,.int .i64 0,.sl true 5 []])::Ky) [1,3,5,7] Qbk3
def VS:SC:=sR [vJ 3 0,vJ 5 2,fB 6 false] [1,3,5] Qbk4
abbrev CC:List RS:=[.tmp 6]
theorem Xj:mFn prog EV 3 88 VS CC=true:=ZH
def Lz:List Item:=[oJ 20 19]
def Qbk6:SC:=cT 20 (sR [fB 4 false] [4] .ret) .skip
def Qbk7:SC:=.reg [mJ 10 5,cJ 11 .add 10 1,mJ 5 11] [1,2,5]
def Qbk8:SC:=.seq (.block 1 (.seq (.a7 9 [0,1,2,3,4,5,6,7,8] ( mJ 12 1::mJ 13 5::iJ 14 1 12 13::lJ 15 14::fJ 16 1 2::lJ 17 16::cJ 18 .sub 17 1::aJ 19 AM [.t 15,kI 0,.t 18]::Lz) [1,2,5,20]) Qbk6)) Qbk7
def Qbez:SC:=.seq (sR [mJ 6 5,mJ 7 1,nJ 8 7,bJ 9 .lss 6 8] [1,2,5,9] (cT 9 .skip (.exit 0))) Qbk8
def Qbk9:SC:=sR [fB 4 true] [4] .ret
def Qbla:SC:=.seq (sR [zJ 5 0] [1,2,5] (bL 0 Qbez)) Qbk9
def YF:SC:=sR [vJ 2 0,fB 4 false] [1,2] Qbla
abbrev EN:List RS:=[.tmp 4]
theorem Qbte:mFn prog Rf 2 21 YF EN=true:=ZH
def Lr:List Item:=[bJ 33 .add 26 32,mJ 3 33]
def Lq:List Item:=.chk 29 none (.iad 5 (.t 27) (.t 28))::hJ 31 30::bJ 26 .add 19 25::aJ 32 GO [.t 31]::Lr
def Lp:List Item:=.chk 22 none (.iad 5 (.t 20) (.t 21))::hJ 24 23::.chk 29 none (.iad 5 (.t 27) (.t 28))::hJ 31 30::bJ 19 .add 11 18::aJ 25 GO [.t 24]::Lq
def Qblh:SC:=.reg [mJ 9 4,cJ 10 .add 9 1,mJ 4 10] [0,3,4]
def Qbli:SC:=.seq (.block 1 (.a7 24 [0,1,2,3,4,5,6,9,10,11,12,13,16,17,18,19,20,7,11,13,18,20,8,14,18,20,15,21,22,23] ( mJ 11 3::mJ 12 0::mJ 13 4::iJ 14 5 12 13::fJ 15 0 14::lJ 16 15::cJ 17 .eql 16 1::mJ 20 0::mJ 21 4::iJ 22 5 20 21::fJ 23 3 22::lJ 24 23::mJ 27 0::mJ 28 4::iJ 29 5 27 28::fJ 30 4 29::lJ 31 30::aJ 18 Q6b [.t 17]::Lp) [0,3,4])) Qblh
def Qbfn:SC:=.seq (sR [mJ 5 4,mJ 6 0,nJ 7 6,bJ 8 .lss 5 7] [0,3,4,8] (cT 8 .skip (.exit 0))) Qbli
def Qblj:SC:=sR [mJ 34 3,mJ 2 34] [2] .ret
def Qblk:SC:=.seq (sR [zJ 4 0] [0,3,4] (bL 0 Qbfn)) Qblj
def Qbll:SC:=sR [zJ 3 0] [0,3] Qblk
def Y8:SC:=sR [zJ 2 0] [0] Qbll
abbrev IQ:List RS:=[.tmp 2]
theorem Qbth:mFn prog GO 1 35 Y8 IQ=true:=ZH
def Qqc:List Item:=[kJ 15 3,fJ 16 1 15,fJ 17 2 16,sJ 1 17 14]
def Qalf:SC:=sR [mJ 18 0,kJ 19 18,fJ 20 1 19,fJ 21 2 20,lJ 22 21,nJ 23 22,cJ 24 .sub 23 1,mJ 2 24] [2] .ret
def Qalg:SC:=sR (mJ 3 0::mJ 4 0::kJ 5 4::fJ 6 1 5::fJ 7 2 6::lJ 8 7::fI 9 (.aH 2 [])::fI 10 (.aH 4 [])::fI 11 (.aH 1 [])::fI 12 (.bld [.sl true 2 [],.sl true 4 [],.int .i64 0,.int .i64 0,.sl true 1 []] [(0,1,.t 9),(1,1,.t 10),(4,1,.t 11)])::fI 13 (.aH 5 [.t 12])::xJ 14 5 8 13::Qqc) [0] Qalf
def Qayk:SC:=sR [zJ 2 0] [0] Qalg
abbrev Q12:List RS:=[.tmp 2]
theorem Qauu:mFn prog Ce 1 25 Qayk Q12=true:=ZH
def Qamf:SC:=.reg [mJ 15 5,cJ 16 .add 15 1,mJ 5 16] [0,1,4,5]
def Qamg:SC:=.seq (.block 1 (.reg [mJ 17 0,mJ 18 1,mJ 19 5,iJ 20 5 18 19,tJ 21 5 20,aJ 22 Sj [.t 17,.t 21]] [0,1,4,5])) Qamf
def Qaee:SC:=.seq (sR [mJ 11 5,mJ 12 1,nJ 13 12,bJ 14 .lss 11 13] [0,1,4,5,14] (cT 14 .skip (.exit 0))) Qamg
def Qamh:SC:=.reg [mJ 23 0,mJ 24 0,kJ 25 24,fJ 26 5 25,lJ 27 26,mJ 28 4,fI 29 (.sli 3 (.t 27) none (some (.t 28))),kJ 30 23,fJ 31 5 30,sJ 1 31 29] []
def Qami:SC:=.seq (sR [zJ 5 0] [0,1,4,5] (bL 0 Qaee)) Qamh
def Qayu:SC:=sR [mJ 6 0,kJ 7 6,fJ 8 5 7,lJ 9 8,nJ 10 9,mJ 4 10] [0,1,4] Qami
abbrev Sa:List RS:=[]
theorem Qauw:mFn prog G5 2 32 Qayu Sa=true:=ZH
def Qy1:List Item:=[kJ 34 22,fJ 35 1 34,sJ 1 35 33]
def Qaym:SC:=sR [mJ 36 2,mJ 10 36] [10] .ret
def Qayn:SC:=sR (mJ 22 11::mJ 23 11::kJ 24 23::fJ 25 1 24::lJ 26 25::mJ 27 1::mJ 28 2::mJ 29 4::mJ 30 3::fI 31 (.bld [.int .i64 0,.int .i64 0,.sl true 1 [],.int .i64 0] [(0,1,.t 27),(1,1,.t 28),(2,1,.t 29),(3,1,.t 30)])::fI 32 (.aH 4 [.t 31])::xJ 33 4 26 32::Qy1) [2] Qaym
def Qayo:SC:=.seq (.a7 11 [0,1,2,3,4,5,6,7,8,9,10] ( mJ 12 0::kJ 13 12::fJ 14 1 13::fJ 15 2 14::lJ 16 15::mJ 17 0::kJ 18 17::fJ 19 4 18::lJ 20 19::iJ 21 5 16 20::mJ 11 21::[]) [1,2,3,4,11]) Qayn
def Qbfp:SC:=sR [zJ 10 0] [0,1,2,3,4] Qayo
abbrev M6:List RS:=[.tmp 10]
theorem Qa9l:mFn prog BN 5 37 Qbfp M6=true:=ZH
def Qals:SC:=sR [mJ 13 0,kJ 14 13,fJ 15 1 14,fJ 16 1 15,lJ 17 16,cJ 18 .sub 17 1,mJ 2 18] [2] .ret
def Qalt:SC:=sR [mJ 3 0,mJ 4 0,kJ 5 4,fJ 6 1 5,fJ 7 1 6,lJ 8 7,cJ 9 .add 8 1,kJ 10 3,fJ 11 1 10,fJ 12 1 11,sJ 1 12 9] [0] Qals
def Qayl:SC:=sR [zJ 2 0] [0] Qalt
abbrev Q13:List RS:=[.tmp 2]
theorem Qauv:mFn prog CQ 1 19 Qayl Q13=true:=ZH
def Qarh:SC:=.reg [mJ 33 0,mJ 34 4,kJ 35 33,fJ 36 4 35,sJ 1 36 34] []
def Qari:SC:=sR [mJ 29 10,mJ 30 3,kJ 31 29,fJ 32 4 31,sJ 1 32 30] [0,4] Qarh
def Qarj:SC:=sR [mJ 25 10,mJ 26 2,kJ 27 25,fJ 28 3 27,sJ 1 28 26] [0,3,4,10] Qari
def Qark:SC:=sR [mJ 21 10,mJ 22 1,kJ 23 21,fJ 24 2 23,sJ 1 24 22] [0,2,3,4,10] Qarj
def Qa7c:SC:=.seq (.a7 11 [0,1,2,3,4,5,6,7,8,9,10] ( mJ 11 0::kJ 12 11::fJ 13 1 12::fJ 14 2 13::lJ 15 14::mJ 16 0::kJ 17 16::fJ 18 4 17::lJ 19 18::iJ 20 5 15 19::mJ 10 20::[]) [0,1,2,3,4,10]) Qark
abbrev Q8y:List RS:=[]
theorem Qa0j:mFn prog Cx 5 37 Qa7c Q8y=true:=ZH
def Qpr:List Item:=[mJ 7 18]
def Qps:List Item:=[mJ 6 34]
def Qpt:List Item:=xJ 34 5 30 33::Qps
def Qaix:SC:=.reg [mJ 28 7,cJ 29 .sub 28 1,mJ 7 29] [0,1,5,6,7]
def Qaiy:SC:=.seq (.block 1 (.reg (mJ 30 6::mJ 31 0::mJ 32 1::aJ 33 Sl [.t 31,.t 32]::Qpt) [0,1,5,6,7])) Qaix
def Qad3:SC:=.seq (sR [mJ 19 7,cJ 20 .gtr 19 0,mJ 21 20,gTm 22 21 0,gT 23 21 (.nck (.t 22)),gTf 24 21 4 23,gTl 25 21 24,gT 26 21 (.bin 0 .gtr (.t 25) (kI 0)),pF 27 21 26] [0,1,5,6,7,27] (cT 27 .skip (.exit 0))) Qaiy
def Qaiz:SC:=sR [mJ 39 6,mJ 4 39] [4] .ret
def Qai0:SC:=sR [mJ 35 0,mJ 36 5,kJ 37 35,fJ 38 2 37,sJ 1 38 36] [6] Qaiz
def Qai1:SC:=.seq (sR (mJ 13 0::kJ 14 13::fJ 15 0 14::lJ 16 15::fI 17 (.aH 1 [kI 2,kI 3,kI 1,kI 4])::aJ 18 AT [.t 16,.t 17]::Qpr) [0,1,5,6,7] (bL 0 Qad3)) Qai0
def Qai2:SC:=sR [fI 12 (.aH 5 []),mJ 6 12] [0,1,5,6] Qai1
def Qad2:SC:=sR [mJ 8 0,kJ 9 8,fJ 10 2 9,lJ 11 10,mJ 5 11] [0,1,5] Qai2
def Qax4:SC:=sR [fI 4 (.mv (.k (.c (.sl true 5 []))))] [0,1] Qad2
abbrev Q10:List RS:=[.tmp 4]
theorem Qaur:mFn prog G6 2 40 Qax4 Q10=true:=ZH
def Qtw:List Item:=[hJ 12 11,hJ 16 15,sJ 4 5 18]
def Qtx:List Item:=eI 5 (.alloc [.int .i64 0,.int .i64 0,.str [],.sl true 4 []])::Qtw
def SJ:List Item:=[gF 31 25 (.bin 0 .gtr (.t 30) (kI 0)),pT 32 25 31]
def s_l3Gen_expr_3:SC:=cT 32 (sR [tJ 33 4 5,sJ 4 4 33] [4] .ret) .skip
def Qty:List Item:=[hJ 37 36,hJ 41 40,hJ 45 44,.chk 46 none (.len (.t 45)),.chk 48 none (.iad 3 (.t 37) (.t 47)),.chk 49 none (.ld 3 true (.t 48)),sJ 3 6 49]
def Qtz:List Item:=hJ 37 36::iJ 48 3 37 47::tJ 49 3 48::eI 6 (.alloc [.str [],.sl true 1 [],.sl true 5 []])::Qty
def Qt0:List Item:=[sJ 4 7 52]
def Qt1:List Item:=[fJ 73 3 7,sJ 1 73 72]
def Qt2:List Item:=hJ 61 60::fI 71 (.aH 4 [.t 70])::xJ 72 4 61 71::Qt1
def Qaqw:SC:=.reg [mJ 58 8,cJ 59 .add 58 1,mJ 8 59] [0,4,6,7,8]
def Qai3:SC:=.seq (.block 1 (.a7 15 [0,1,2,3,4,5,6,7,8,9,10,1,11,12,13,14] ( fJ 60 3 7::lJ 61 60::mJ 62 0::kJ 63 62::fJ 64 0 63::lJ 65 64::mJ 66 0::kJ 67 66::fJ 68 2 67::lJ 69 68::aJ 70 DR [.t 65,.t 69,kI 2]::Qt2) [0,4,6,7,8])) Qaqw
def Qad4:SC:=.seq (sR [mJ 53 8,fJ 54 1 6,lJ 55 54,nJ 56 55,bJ 57 .lss 53 56] [0,4,6,7,8,57] (cT 57 .skip (.exit 0))) Qai3
def Qpu:List Item:=[cJ 79 .eql 78 0]
def Qai4:SC:=cT 79 (sR [tJ 80 4 7,sJ 4 4 80] [4] .ret) .skip
def Qpv:List Item:=[.chk 87 none (.ld 4 true (.t 7)),fI 97 (.aH 4 [.t 87,.t 96]),fI 98 (.bld [.int .i64 0,.int .i64 0,.str [],.sl true 4 []] [(0,1,.t 86),(3,1,.t 97)]),sJ 4 4 98]
def Qpw:List Item:=.chk 87 none (.ld 4 true (.t 7))::hJ 91 90::hJ 95 94::aJ 96 DR [.t 91,.t 95,kI 2]::Qpv
def Qai5:SC:=.seq (.a7 19 [0,1,2,3,4,6,7,8,9,10,11,12,13,14,5,6,10,14,15,6,16,17,18] ( mJ 81 0::kJ 82 81::fJ 83 0 82::lJ 84 83::fI 85 (.aH 1 [kI 3,kI 4,kI 8,kI 10])::tJ 87 4 7::mJ 88 0::kJ 89 88::fJ 90 0 89::lJ 91 90::mJ 92 0::kJ 93 92::fJ 94 2 93::lJ 95 94::aJ 86 AT [.t 84,.t 85]::Qpw) [4]) .ret
def Qai6:SC:=.seq (sR (mJ 74 0::kJ 75 74::fJ 76 0 75::lJ 77 76::aJ 78 Qr [.t 77,kI 2]::Qpu) [0,4,7,79] Qai4) Qai5
def Qai7:SC:=.seq (sR [zJ 8 0] [0,4,6,7,8] (bL 0 Qad4)) Qai6
def Qai8:SC:=sR (fJ 50 0 6::lJ 51 50::fI 52 (.bld [.int .i64 0,.int .i64 0,.str [],.sl true 4 []] [(0,1,kI 13),(2,1,.t 51)])::eI 7 (.alloc [.int .i64 0,.int .i64 0,.str [],.sl true 4 []])::Qt0) [0,4,6,7] Qai7
def Qtv:SC:=.seq (.a7 16 [0,1,2,3,4,5,6,7,8,9,10,11,12,13,3,14,15,16,3,7,11,12,14,15,17] ( mJ 34 0::kJ 35 34::fJ 36 1 35::lJ 37 36::mJ 38 0::kJ 39 38::fJ 40 0 39::lJ 41 40::mJ 42 0::kJ 43 42::fJ 44 1 43::lJ 45 44::nJ 46 45::aJ 47 Qr [.t 41,.t 46]::Qtz) [0,4,6]) Qai8
def Qai9:SC:=.seq (sR (mJ 19 0::kJ 20 19::fJ 21 1 20::lJ 22 21::nJ 23 22::cJ 24 .eql 23 0::mJ 25 24::gFm 26 25 0::gF 27 25 (.nck (.t 26))::gFf 28 25 0 27::gFl 29 25 28::.e (some 30) (some (25,false)) (.call Qr [.t 29,kI 4])::SJ) [0,4,5,32] s_l3Gen_expr_3) Qtv
def Qaja:SC:=.seq (.a7 10 [0,1,2,3,4,5,6,7,8,9,10,3,7,11] ( mJ 9 0::kJ 10 9::fJ 11 0 10::lJ 12 11::mJ 13 0::kJ 14 13::fJ 15 2 14::lJ 16 15::mJ 17 1::aJ 18 DR [.t 12,.t 16,.t 17]::Qtx) [0,4,5]) Qai9
def Qa55:SC:=sR [eI 4 (.alloc [.int .i64 0,.int .i64 0,.str [],.sl true 4 []])] [0,1,4] Qaja
abbrev Pu:List RS:=[.cell 4 4 true]
theorem Qa0f:mFn prog CP 2 99 Qa55 Pu=true:=ZH
def Ow:List Item:=[oJ 17 16]
def Qbt5:SC:=cT 17 (sR [fB 2 false] [2] .ret) .skip
def Qbt6:SC:=.reg [mJ 9 3,cJ 10 .add 9 1,mJ 3 10] [1,3]
def Qbt7:SC:=.seq (.block 1 (sR (fJ 11 1 1::lJ 12 11::mJ 13 3::iJ 14 1 12 13::lJ 15 14::aJ 16 Gy [.t 15]::Ow) [1,3,17] Qbt5)) Qbt6
def Qbp8:SC:=.seq (sR [mJ 4 3,fJ 5 1 1,lJ 6 5,nJ 7 6,bJ 8 .lss 4 7] [1,3,8] (cT 8 .skip (.exit 0))) Qbt7
def Ff:List Item:=[pF 31 27 30,mJ 2 31]
def Ov:List Item:=mJ 21 20::gTf 22 21 1 1::gTl 23 21 22::gT 24 21 (.len (.t 23))::gT 25 21 (.bin 0 .leq (.t 24) (kI 3))::pF 26 21 25::mJ 27 26::gTf 28 27 2 1::gTl 29 27 28::.e (some 30) (some (27,true)) (.call Hd [.t 29,kI 4])::Ff
def Qbt8:SC:=sR (fJ 18 0 1::lJ 19 18::aJ 20 Gy [.t 19]::Ov) [2] .ret
def Qbt9:SC:=.seq (sR [zJ 3 0] [1,3] (bL 0 Qbp8)) Qbt8
def Vd:SC:=sR [vJ 1 0,fB 2 false] [1] Qbt9
abbrev E6:List RS:=[.tmp 2]
theorem VH:mFn prog FV 1 32 Vd E6=true:=ZH
def K1:List Item:=[bJ 20 .add 12 19,mJ 3 20]
def Qbp2:SC:=.reg [mJ 10 4,cJ 11 .add 10 1,mJ 4 11] [1,3,4]
def Qbp3:SC:=.seq (.block 1 (.reg (mJ 12 3::fJ 13 0 1::lJ 14 13::mJ 15 4::iJ 16 3 14 15::fJ 17 2 16::lJ 18 17::aJ 19 He [.t 18]::K1) [1,3,4])) Qbp2
def Qbkc:SC:=.seq (sR [mJ 5 4,fJ 6 0 1,lJ 7 6,nJ 8 7,bJ 9 .lss 5 8] [1,3,4,9] (cT 9 .skip (.exit 0))) Qbp3
def Qbp4:SC:=sR [mJ 21 3,mJ 2 21] [2] .ret
def Qbp5:SC:=.seq (sR [zJ 4 0] [1,3,4] (bL 0 Qbkc)) Qbp4
def Qbp6:SC:=sR [zJ 3 0] [1,3] Qbp5
def VT:SC:=sR [vJ 1 0,zJ 2 0] [1] Qbp6
abbrev Id:List RS:=[.tmp 2]
theorem Xk:mFn prog EW 1 22 VT Id=true:=ZH
def Nl:List Item:=[mJ 5 4,gTm 6 5 0,gT 7 5 (.bin 0 .neq (.t 6) (kI 12)),pF 8 5 7,mJ 9 8,gTm 10 9 0,gT 11 9 (.bin 0 .neq (.t 10) (kI 13)),pF 12 9 11,mJ 2 12]
def Qbet:SC:=sR (mJ 3 0::aJ 4 AM [.t 3,kI 1,kI 14]::Nl) [2] .ret
def Qbqd:SC:=sR [fB 2 false] [0] Qbet
abbrev OE:List RS:=[.tmp 2]
theorem Qbn9:mFn prog Eh 1 13 Qbqd OE=true:=ZH
def Ml:List Item:=[mJ 24 23,gFm 25 24 0,gF 26 24 (.bin 0 .eql (.t 25) (kI 12)),pT 27 24 26,mJ 21 27]
def Qbko:SC:=cT 21 (sR [zJ 2 2] [2] .ret) .skip
def Qbkp:SC:=cT 6 (sR [zJ 2 1] [2] .ret) (sR (mJ 22 0::aJ 23 AM [.t 22,kI 3,kI 9]::Ml) [21] Qbko)
def Qbkq:SC:=cT 3 (sR [zJ 2 0] [2] .ret) (sR [mJ 7 0,cJ 8 .eql 7 2,mJ 9 8,gFm 10 9 0,gF 11 9 (.bin 0 .eql (.t 10) (kI 10)),pT 12 9 11,mJ 13 12,gFm 14 13 0,gF 15 13 (.bin 0 .eql (.t 14) (kI 11)),pT 16 13 15,mJ 17 16,gFm 18 17 0,gF 19 17 (.bin 0 .eql (.t 18) (kI 13)),pT 20 17 19,mJ 6 20] [0,6] Qbkp)
def Qbkr:SC:=sR [zJ 2 (-1)] [2] .ret
def Qbks:SC:=.seq (.block 0 (sR [mJ 4 0,cJ 5 .eql 4 1,mJ 3 5] [0,3] Qbkq)) Qbkr
def YJ:SC:=sR [zJ 2 0] [0] Qbks
abbrev EO:List RS:=[.tmp 2]
theorem Qbta:mFn prog GP 1 28 YJ EO=true:=ZH
def Qbdm:SC:=cT 3 (sR [zJ 2 1] [2] .ret) .skip
def Qbdn:SC:=sR [zJ 2 0] [2] .ret
def Qbdo:SC:=.seq (sR [mJ 3 0] [3] Qbdm) Qbdn
def Qbqa:SC:=sR [zJ 2 0] [0] Qbdo
abbrev Fp:List RS:=[.tmp 2]
theorem Qbn7:mFn prog Q6b 1 4 Qbqa Fp=true:=ZH
def Qars:SC:=cT 11 (sR [mJ 12 0,tJ 13 5 3,aJ 14 Sk [.t 12,.t 13]] [] .ret) .skip
def Quy:List Item:=[mJ 4 32]
def Quz:List Item:=fI 31 (.aH 1 [.t 30])::xJ 32 1 23 31::Quy
def Qart:SC:=.reg [mJ 21 5,cJ 22 .add 21 1,mJ 5 22] [0,3,4,5]
def Qaru:SC:=.seq (.block 1 (.reg (mJ 23 4::mJ 24 0::fJ 25 2 3::lJ 26 25::mJ 27 5::iJ 28 4 26 27::tJ 29 4 28::aJ 30 Em [.t 24,.t 29]::Quz) [0,3,4,5])) Qart
def Qame:SC:=.seq (sR [mJ 16 5,fJ 17 2 3,lJ 18 17,nJ 19 18,bJ 20 .lss 16 19] [0,3,4,5,20] (cT 20 .skip (.exit 0))) Qaru
def Qu0:List Item:=[kJ 58 44,fJ 59 5 58,sJ 1 59 57]
def Qarv:SC:=.reg [mJ 60 0,mJ 61 0,kJ 62 61,fJ 63 6 62,lJ 64 63,cJ 65 .add 64 1,kJ 66 60,fJ 67 6 66,sJ 1 67 65] []
def Qarw:SC:=.seq (.a7 17 [0,1,2,3,4,5,6,7,8,9,10,11,12,13,14,15,16] ( mJ 44 0::mJ 45 0::kJ 46 45::fJ 47 5 46::lJ 48 47::fJ 49 1 3::lJ 50 49::mJ 51 0::kJ 52 51::fJ 53 6 52::lJ 54 53::fI 55 (.bld [.str [],.int .i64 0,.int .i64 0] [(0,1,.t 50),(1,1,.t 54),(2,1,kI 0)])::fI 56 (.aH 3 [.t 55])::xJ 57 3 48 56::Qu0) [0]) Qarv
def Qu1:List Item:=[mJ 75 4,aJ 76 BN [.t 70,kI 2,.t 74,kI 0,.t 75]]
def Qqm:List Item:=[.chk 91 none (.iad 1 (.t 90) (kI 0)),hJ 92 91,aJ 96 Cx [.t 89,kI 3,.t 92,.t 93,.t 95]]
def Qqn:List Item:=[mJ 6 100]
def Qqo:List Item:=[mJ 7 102]
def Qqp:List Item:=[mJ 8 104]
def Qalw:SC:=.reg [mJ 127 0,mJ 128 8,fI 129 (.aH 1 [.t 128]),mJ 130 8,aJ 131 Cx [.t 127,kI 1,kI 0,.t 129,.t 130]] []
def Qalx:SC:=sR [mJ 123 0,fJ 124 4 3,lJ 125 124,aJ 126 G5 [.t 123,.t 125]] [0,8] Qalw
def Qaly:SC:=sR [mJ 118 0,mJ 119 8,fI 120 (.aH 1 [.t 119]),mJ 121 7,aJ 122 Cx [.t 118,kI 1,kI 0,.t 120,.t 121]] [0,3,8] Qalx
def Qalz:SC:=sR [mJ 114 0,fJ 115 3 3,lJ 116 115,aJ 117 G5 [.t 114,.t 116]] [0,3,7,8] Qaly
def Qal0:SC:=sR [mJ 105 0,mJ 106 4,fI 107 (.iad 1 (.t 106) (kI 0)),lJ 108 107,mJ 109 6,mJ 110 7,fI 111 (.aH 1 [.t 109,.t 110]),mJ 112 6,aJ 113 Cx [.t 105,kI 2,.t 108,.t 111,.t 112]] [0,3,7,8] Qalz
def Qal1:SC:=sR (mJ 103 0::aJ 104 Ce [.t 103]::Qqp) [0,3,4,6,7,8] Qal0
def Qal2:SC:=sR (mJ 101 0::aJ 102 Ce [.t 101]::Qqo) [0,3,4,6,7] Qal1
def Qal3:SC:=cT 97 (sR (mJ 99 0::aJ 100 Ce [.t 99]::Qqn) [0,3,4,6] Qal2) .skip
def Qal4:SC:=cT 87 (.a7 8 [0,1,2,3,4,5,6,2,3,7] ( mJ 89 0::mJ 90 4::fI 91 (.iad 1 (.t 90) (kI 0))::lJ 92 91::fI 93 (.aH 1 [])::mJ 94 0::aJ 95 Ce [.t 94]::Qqm) []) (sR [cJ 98 .eql 34 5,mJ 97 98] [0,3,4,97] Qal3)
def Qal5:SC:=cT 82 (.reg [mJ 84 0,mJ 85 4,aJ 86 BN [.t 84,kI 12,kI (-1),kI 0,.t 85]] []) (sR [cJ 88 .eql 34 7,mJ 87 88] [0,3,4,34,87] Qal4)
def Qal6:SC:=cT 77 (.reg [mJ 79 0,mJ 80 4,aJ 81 BN [.t 79,kI 13,kI (-1),kI 0,.t 80]] []) (sR [cJ 83 .eql 34 4,mJ 82 83] [0,3,4,34,82] Qal5)
def Qal7:SC:=cT 68 (.reg (mJ 70 0::mJ 71 0::fJ 72 1 3::lJ 73 72::aJ 74 P5 [.t 71,.t 73]::Qu1) []) (sR [cJ 78 .eql 34 3,mJ 77 78] [0,3,4,34,77] Qal6)
def Qal8:SC:=cT 35 (sR [mJ 37 0,mJ 38 0,kJ 39 38,fJ 40 6 39,lJ 41 40,mJ 42 4,aJ 43 BN [.t 37,kI 2,.t 41,kI 0,.t 42]] [0,3] Qarw) (sR [cJ 69 .eql 34 2,mJ 68 69] [0,3,4,34,68] Qal7)
def Qal9:SC:=.block 2 (sR [cJ 36 .eql 34 1,mJ 35 36] [0,3,4,34,35] Qal8)
def Qama:SC:=.seq (.seq .gh (.reg [fJ 33 0 3,lJ 34 33] [0,3,4,34])) Qal9
def Qamb:SC:=.seq (sR [zJ 5 0] [0,3,4,5] (bL 0 Qame)) Qama
def Qamc:SC:=sR [fI 15 (.aH 1 []),mJ 4 15] [0,3,4] Qamb
def Qamd:SC:=.seq (sR [fJ 9 0 3,lJ 10 9,cJ 11 .eql 10 6] [0,3,11] Qars) Qamc
def Qa7e:SC:=sR [vJ 3 1] [0,3] Qamd
abbrev RI:List RS:=[]
theorem Qa0l:mFn prog Sj 2 132 Qa7e RI=true:=ZH
def Qud:List Item:=[mJ 5 19]
def Que:List Item:=[fI 42 (.aH 4 [.t 41]),fI 43 (.bld [.int .i64 0,.str [],.sl true 4 [],.sl true 5 [],.sl true 5 []] [(0,1,kI 2),(1,1,.t 39),(2,1,.t 42)]),fI 44 (.aH 5 [.t 43]),mJ 4 44]
def Quf:List Item:=aJ 41 CP [.t 40,kI 3]::Que
def Qug:List Item:=[fI 52 (.aH 5 [.t 51]),mJ 4 52]
def Quh:List Item:=aJ 51 Pw [.t 48,.t 50]::Qug
def Qui:List Item:=[fI 62 (.aH 4 [.t 61]),fI 63 (.bld [.int .i64 0,.str [],.sl true 4 [],.sl true 5 [],.sl true 5 []] [(0,1,kI 3),(2,1,.t 62)]),fI 64 (.aH 5 [.t 63]),mJ 4 64]
def Quj:List Item:=[fI 72 (.aH 4 [.t 69,.t 71]),fI 73 (.bld [.int .i64 0,.str [],.sl true 4 [],.sl true 5 [],.sl true 5 []] [(0,1,kI 4),(2,1,.t 72)]),fI 74 (.aH 5 [.t 73]),mJ 4 74]
def Quk:List Item:=mJ 70 0::aJ 71 CP [.t 70,kI 2]::Quj
def Qul:List Item:=[fI 80 (.aH 4 [.t 79]),fI 81 (.bld [.int .i64 0,.int .i64 0,.str [],.sl true 4 []] [(0,1,kI 12),(3,1,.t 80)]),fI 82 (.aH 4 [.t 81]),fI 83 (.bld [.int .i64 0,.str [],.sl true 4 [],.sl true 5 [],.sl true 5 []] [(0,1,kI 3),(2,1,.t 82)]),fI 84 (.aH 5 [.t 83]),mJ 4 84]
def Qum:List Item:=[sJ 5 6 95]
def Qpz:List Item:=fI 95 (.bld [.int .i64 0,.str [],.sl true 4 [],.sl true 5 [],.sl true 5 []] [(0,1,kI 5),(2,1,.t 90),(3,1,.t 94)])::eI 6 (.alloc [.int .i64 0,.str [],.sl true 4 [],.sl true 5 [],.sl true 5 []])::Qum
def Qp0:List Item:=fI 90 (.aH 4 [.t 89])::mJ 91 0::mJ 92 1::cJ 93 .sub 92 1::aJ 94 G6 [.t 91,.t 93]::Qpz
def Qp1:List Item:=[cJ 101 .eql 100 0]
def Qp2:List Item:=[fJ 106 4 6,sJ 1 106 105]
def Qaji:SC:=cT 101 (.reg (mJ 102 0::mJ 103 1::cJ 104 .sub 103 1::aJ 105 G6 [.t 102,.t 104]::Qp2) [6]) .skip
def Qub:SC:=sR [tJ 107 5 6,fI 108 (.aH 5 [.t 107]),mJ 4 108] [4] .ret
def Qajj:SC:=.seq (sR (mJ 96 0::kJ 97 96::fJ 98 0 97::lJ 99 98::aJ 100 Qr [.t 99,kI 2]::Qp1) [0,1,6,101] Qaji) Qub
def Td:List Item:=[gT 118 112 (.bin 0 .eql (.t 117) (kI 0)),pF 119 112 118,mJ 109 119]
def Qp3:List Item:=[fI 122 (.aH 4 [.t 121]),fI 123 (.bld [.int .i64 0,.str [],.sl true 4 [],.sl true 5 [],.sl true 5 []] [(0,1,kI 7),(2,1,.t 122)]),fI 124 (.aH 5 [.t 123]),mJ 4 124]
def Quc:SC:=cT 109 (sR (mJ 120 0::aJ 121 CP [.t 120,kI 2]::Qp3) [4] .ret) .skip
def Qajk:SC:=cT 85 (sR (mJ 88 0::aJ 89 CP [.t 88,kI 3]::Qp0) [0,1,6] Qajj) (sR (mJ 110 5::cJ 111 .eql 110 11::mJ 112 111::gTm 113 112 0::gT 114 112 (.nck (.t 113))::gTf 115 112 0 114::gTl 116 112 115::.e (some 117) (some (112,true)) (.call Qr [.t 116,kI 3])::Td) [0,1,109] Quc)
def Qajl:SC:=cT 75 (sR (mJ 78 0::aJ 79 PA [.t 78]::Qul) [4] .ret) (sR [mJ 86 5,cJ 87 .lss 86 11,mJ 85 87] [0,1,5,85] Qajk)
def Qajm:SC:=cT 65 (sR (mJ 68 0::aJ 69 PA [.t 68]::Quk) [4] .ret) (sR [mJ 76 5,cJ 77 .eql 76 8,mJ 75 77] [0,1,5,75] Qajl)
def Qajn:SC:=cT 53 (sR (mJ 60 0::aJ 61 CP [.t 60,kI 3]::Qui) [4] .ret) (sR [mJ 66 5,cJ 67 .eql 66 7,mJ 65 67] [0,1,5,65] Qajm)
def Qajo:SC:=cT 45 (sR (mJ 48 0::mJ 49 0::aJ 50 CP [.t 49,kI 3]::Quh) [4] .ret) (sR [mJ 54 5,cJ 55 .lss 54 7,mJ 56 55,gFm 57 56 1,gF 58 56 (.bin 0 .lss (.t 57) (kI 2)),pT 59 56 58,mJ 53 59] [0,1,5,53] Qajn)
def Qajp:SC:=cT 20 (.seq (.a7 15 [0,1,2,3,4,5,6,7,9,8,10,11,12,13,14] ( mJ 31 0::kJ 32 31::fJ 33 0 32::lJ 34 33::mJ 35 0::kJ 36 35::fJ 37 2 36::lJ 38 37::mJ 40 0::aJ 39 Hm [.t 34,.t 38]::Quf) [4]) .ret) (sR [mJ 46 5,cJ 47 .lss 46 5,mJ 45 47] [0,1,5,45] Qajo)
def Qp4:List Item:=[mJ 4 127]
def SI:SC:=sR (mJ 125 0::mJ 126 1::aJ 127 Sm [.t 125,.t 126]::Qp4) [4] .ret
def Qajq:SC:=.seq (.block 0 (sR [mJ 21 5,cJ 22 .lss 21 3,mJ 23 22,gTm 24 23 0,gT 25 23 (.nck (.t 24)),gTf 26 23 2 25,gTl 27 23 26,gT 28 23 (.len (.t 27)),gT 29 23 (.bin 0 .gtr (.t 28) (kI 0)),pF 30 23 29,mJ 20 30] [0,1,5,20] Qajp)) SI
def Qajr:SC:=sR (mJ 15 0::kJ 16 15::fJ 17 0 16::lJ 18 17::aJ 19 Qr [.t 18,kI 13]::Qud) [0,1,5] Qajq
def Qajs:SC:=sR [mJ 7 0,mJ 8 0,kJ 9 8,fJ 10 4 9,lJ 11 10,cJ 12 .sub 11 1,kJ 13 7,fJ 14 4 13,sJ 1 14 12] [0,1] Qajr
def Qa59:SC:=sR [fI 4 (.mv (.k (.c (.sl true 5 []))))] [0,1] Qajs
abbrev C7:List RS:=[.tmp 4]
theorem Qa0h:mFn prog Sl 2 128 Qa59 C7=true:=ZH
def Q0p:List Item:=[gF 13 10 (.bin 0 .eql (.t 12) (kI 0)),pT 14 10 13]
def M3:List Item:=[sJ 4 6 17]
def s_l2Expr_2:SC:=cT 14 (sR (mJ 15 0::mJ 16 1::aJ 17 F3 [.t 15,.t 16]::M3) [6] .ret) .skip
def M2:List Item:=[cJ 20 .eql 19 0]
def M1:List Item:=[fI 29 (.aH 4 [.t 28]),fI 30 (.bld [.int .i64 0,.int .i64 0,.str [],.sl true 4 []] [(0,1,.t 23),(3,1,.t 29)]),sJ 4 6 30]
def M0:List Item:=mJ 24 0::mJ 25 1::mJ 26 2::cJ 27 .sub 26 1::aJ 28 DR [.t 24,.t 25,.t 27]::M1
def Qbj2:SC:=cT 20 (sR (mJ 21 0::fI 22 (.aH 1 [kI 11,kI 12,kI 11])::aJ 23 AT [.t 21,.t 22]::M0) [6] .ret) .skip
def Mz:List Item:=[mJ 7 33]
def My:List Item:=[fI 45 (.aH 4 [.t 39,.t 44]),fI 46 (.bld [.int .i64 0,.int .i64 0,.str [],.sl true 4 []] [(0,1,.t 34),(3,1,.t 45)]),sJ 4 6 46]
def Mx:List Item:=mJ 40 0::mJ 41 1::mJ 42 2::cJ 43 .sub 42 1::aJ 44 DR [.t 40,.t 41,.t 43]::My
def Qbca:SC:=sR (mJ 34 7::mJ 35 0::mJ 36 1::mJ 37 2::cJ 38 .sub 37 1::aJ 39 DR [.t 35,.t 36,.t 38]::Mx) [6] .ret
def Qbcb:SC:=sR (mJ 31 0::fI 32 (.aH 1 [kI 3,kI 3,kI 4,kI 5,kI 6,kI 7,kI 8,kI 9,kI 10])::aJ 33 AT [.t 31,.t 32]::Mz) [0,1,2,6,7] Qbca
def M4:SC:=.seq (sR (mJ 18 0::aJ 19 Qr [.t 18,kI 7]::M2) [0,1,2,6,20] Qbj2) Qbcb
def Qbcc:SC:=.seq (sR (mJ 8 2::cJ 9 .lss 8 2::mJ 10 9::gFm 11 10 0::.e (some 12) (some (10,false)) (.call Qr [.t 11,kI 4])::Q0p) [0,1,2,6,14] s_l2Expr_2) M4
def Qbt0:SC:=sR [eI 6 (.alloc [.int .i64 0,.int .i64 0,.str [],.sl true 4 []])] [0,1,2,6] Qbcc
abbrev DG:List RS:=[.cell 6 4 true]
theorem Qbs3:mFn prog DR 3 47 Qbt0 DG=true:=ZH
def Sn:List Item:=[gT 13 10 (.not (.t 12)),pF 14 10 13,mJ 2 14]
def Qy2:List Item:=mJ 5 4::gTm 6 5 0::gT 7 5 (.lens (.t 6))::gT 8 5 (.bin 0 .leq (.t 7) (kI 4))::pF 9 5 8::mJ 10 9::gTm 11 10 0::.e (some 12) (some (10,true)) (.call EX [.t 11])::Sn
def Qayy:SC:=sR (mJ 3 0::aJ 4 EY [.t 3,kI 1]::Qy2) [2] .ret
def Qbfy:SC:=sR [fB 2 false] [0] Qayy
abbrev Rk:List RS:=[.tmp 2]
theorem Qa9n:mFn prog Gy 1 15 Qbfy Rk=true:=ZH
def NY:List Item:=[oJ 18 17]
def Qbdh:SC:=cT 18 (sR [fB 4 false] [4] .ret) .skip
def Qbdi:SC:=.reg [mJ 10 5,cJ 11 .add 10 1,mJ 5 11] [0,1,5]
def Qbdj:SC:=.seq (.block 1 (sR (mJ 12 0::mJ 13 5::iJ 14 5 12 13::tJ 15 5 14::mJ 16 1::aJ 17 F0 [.t 15,.t 16]::NY) [0,1,5,18] Qbdh)) Qbdi
def Qa6b:SC:=.seq (sR [mJ 6 5,mJ 7 0,nJ 8 7,bJ 9 .lss 6 8] [0,1,5,9] (cT 9 .skip (.exit 0))) Qbdj
def Qbdk:SC:=sR [fB 4 true] [4] .ret
def Qbdl:SC:=.seq (sR [zJ 5 0] [0,1,5] (bL 0 Qa6b)) Qbdk
def Qbp9:SC:=sR [fB 4 false] [0,1] Qbdl
abbrev Fq:List RS:=[.tmp 4]
theorem Qbn6:mFn prog Hd 2 19 Qbp9 Fq=true:=ZH
def N6:List Item:=[bJ 27 .add 20 26,mJ 3 27]
def N5:List Item:=.chk 23 none (.iad 5 (.t 21) (.t 22))::hJ 25 24::bJ 20 .add 13 19::aJ 26 He [.t 25]::N6
def Qbcv:SC:=.reg [mJ 11 4,cJ 12 .add 11 1,mJ 4 12] [0,3,4]
def Qbcw:SC:=.seq (.block 1 (.a7 16 [0,1,2,3,4,5,8,9,10,11,12,6,10,12,7,13,14,15] ( mJ 13 3::mJ 14 0::mJ 15 4::iJ 16 5 14 15::fJ 17 3 16::lJ 18 17::mJ 21 0::mJ 22 4::iJ 23 5 21 22::fJ 24 4 23::lJ 25 24::aJ 19 He [.t 18]::N5) [0,3,4])) Qbcv
def Qa51:SC:=.seq (sR [mJ 7 4,mJ 8 0,nJ 9 8,bJ 10 .lss 7 9] [0,3,4,10] (cT 10 .skip (.exit 0))) Qbcw
def Qbcx:SC:=sR [mJ 28 3,mJ 2 28] [2] .ret
def Qbcy:SC:=.seq (sR [zJ 4 0] [0,3,4] (bL 0 Qa51)) Qbcx
def Qbcz:SC:=sR [mJ 5 0,nJ 6 5,mJ 3 6] [0,3] Qbcy
def Qbp7:SC:=sR [zJ 2 0] [0] Qbcz
abbrev OF:List RS:=[.tmp 2]
theorem Qbn5:mFn prog He 1 29 Qbp7 OF=true:=ZH
def Quu:List Item:=[mJ 4 9]
def Quv:List Item:=[mJ 5 11]
def Quw:List Item:=[mJ 6 13]
def Qux:List Item:=[mJ 7 24]
def Qarl:SC:=.reg [mJ 36 0,mJ 37 4,fI 38 (.aH 1 [.t 37]),mJ 39 6,aJ 40 Cx [.t 36,kI 1,kI 0,.t 38,.t 39]] []
def Qarm:SC:=sR [mJ 32 0,fJ 33 3 3,lJ 34 33,aJ 35 G5 [.t 32,.t 34]] [0,4,6] Qarl
def Qarn:SC:=sR [mJ 25 0,mJ 26 7,mJ 27 5,mJ 28 6,fI 29 (.aH 1 [.t 27,.t 28]),mJ 30 5,aJ 31 Cx [.t 25,kI 2,.t 26,.t 29,.t 30]] [0,3,4,6] Qarm
def Qaro:SC:=sR (mJ 19 0::fJ 20 2 3::lJ 21 20::fI 22 (.iad 4 (.t 21) (kI 0))::tJ 23 4 22::aJ 24 Em [.t 19,.t 23]::Qux) [0,3,4,5,6,7] Qarn
def Qarp:SC:=sR [mJ 14 0,mJ 15 4,fI 16 (.aH 1 [.t 15]),mJ 17 4,aJ 18 Cx [.t 14,kI 1,kI 0,.t 16,.t 17]] [0,3,4,5,6] Qaro
def Qarq:SC:=sR (mJ 12 0::aJ 13 Ce [.t 12]::Quw) [0,3,4,5,6] Qarp
def Qalu:SC:=sR (mJ 10 0::aJ 11 Ce [.t 10]::Quv) [0,3,4,5] Qarq
def Qalv:SC:=sR (mJ 8 0::aJ 9 Ce [.t 8]::Quu) [0,3,4] Qalu
def Qa7d:SC:=sR [vJ 3 1] [0,3] Qalv
abbrev Q8z:List RS:=[]
theorem Qa0k:mFn prog Sk 2 41 Qa7d Q8z=true:=ZH
def Quo:List Item:=[mJ 4 17]
def Qup:List Item:=hJ 15 14::aJ 17 BN [.t 11,kI 1,.t 13,.t 15,.t 16]::Quo
def Quq:List Item:=[mJ 4 23]
def Qur:List Item:=[mJ 4 28]
def Qard:SC:=cT 24 (sR (mJ 26 0::tJ 27 4 3::aJ 28 RA [.t 26,.t 27]::Qur) [4] .ret) .skip
def Qare:SC:=cT 18 (sR (mJ 20 0::fJ 21 2 3::lJ 22 21::aJ 23 P5 [.t 20,.t 22]::Quq) [4] .ret) (sR [cJ 25 .eql 8 10,mJ 24 25] [0,3,24] Qard)
def Qarf:SC:=cT 9 (.seq (.a7 8 [0,1,3,4,5,2,4,6,7] ( mJ 11 0::mJ 12 0::fJ 14 1 3::lJ 15 14::fI 16 (.aH 1 [])::aJ 13 CQ [.t 12]::Qup) [4]) .ret) (sR [cJ 19 .eql 8 2,mJ 18 19] [0,3,8,18] Qare)
def Qarg:SC:=.block 0 (sR [cJ 10 .eql 8 1,mJ 9 10] [0,3,8,9] Qarf)
def Qus:List Item:=[mJ 5 46]
def Qut:List Item:=fI 45 (.aH 1 [.t 44])::xJ 46 1 37 45::Qus
def Qalh:SC:=.reg [mJ 35 6,cJ 36 .add 35 1,mJ 6 36] [0,3,5,6]
def Qali:SC:=.seq (.block 2 (.reg (mJ 37 5::mJ 38 0::fJ 39 3 3::lJ 40 39::mJ 41 6::iJ 42 4 40 41::tJ 43 4 42::aJ 44 Em [.t 38,.t 43]::Qut) [0,3,5,6])) Qalh
def Qaed:SC:=.seq (sR [mJ 30 6,fJ 31 3 3,lJ 32 31,nJ 33 32,bJ 34 .lss 30 33] [0,3,5,6,34] (cT 34 .skip (.exit 1))) Qali
def Qqd:List Item:=[mJ 4 55]
def Qqe:List Item:=mJ 54 5::aJ 55 BN [.t 51,kI 10,.t 53,kI 0,.t 54]::Qqd
def Qqf:List Item:=[mJ 4 62]
def Qqg:List Item:=mJ 61 5::aJ 62 BN [.t 58,kI 11,.t 60,kI 0,.t 61]::Qqf
def Qqh:List Item:=[mJ 4 76]
def Qqi:List Item:=aJ 76 BN [.t 65,kI 14,.t 67,.t 74,.t 75]::Qqh
def Qqj:List Item:=.chk 71 none (.ld 1 true (.t 70))::hJ 73 72::aJ 74 Q6d [.t 71,.t 73]::Qqi
def Qalj:SC:=cT 63 (.seq (.a7 13 [0,1,3,4,5,6,7,8,10,2,6,8,9,11,12] ( mJ 65 0::mJ 66 0::mJ 68 0::kJ 69 68::fJ 70 0 69::tJ 71 1 70::fJ 72 2 3::lJ 73 72::mJ 75 5::aJ 67 CQ [.t 66]::Qqj) [4]) .ret) .skip
def Qalk:SC:=cT 56 (sR (mJ 58 0::mJ 59 0::aJ 60 CQ [.t 59]::Qqg) [4] .ret) (sR [cJ 64 .eql 48 13,mJ 63 64] [0,3,5,63] Qalj)
def Qall:SC:=cT 49 (sR (mJ 51 0::mJ 52 0::aJ 53 CQ [.t 52]::Qqe) [4] .ret) (sR [cJ 57 .eql 48 12,mJ 56 57] [0,3,5,48,56] Qalk)
def Qalm:SC:=.block 3 (sR [cJ 50 .eql 48 11,mJ 49 50] [0,3,5,48,49] Qall)
def Qqk:List Item:=[mJ 4 83]
def Qql:List Item:=hJ 79 78::aJ 83 BN [.t 77,.t 79,.t 81,kI 0,.t 82]::Qqk
def Qaln:SC:=.seq (.a7 8 [0,1,2,3,5,4,2,6,7] ( mJ 77 0::fJ 78 0 3::lJ 79 78::mJ 80 0::mJ 82 5::aJ 81 CQ [.t 80]::Qql) [4]) .ret
def Qalo:SC:=.seq (.seq (.seq .gh (.reg [fJ 47 0 3,lJ 48 47] [0,3,5,48])) Qalm) Qaln
def Qalp:SC:=.seq (sR [zJ 6 0] [0,3,5,6] (bL 1 Qaed)) Qalo
def Qalq:SC:=sR [fI 29 (.aH 1 []),mJ 5 29] [0,3,5] Qalp
def Qalr:SC:=.seq (sR [fJ 7 0 3,lJ 8 7] [0,3,8] Qarg) Qalq
def Qa7b:SC:=sR [vJ 3 1,zJ 4 0] [0,3] Qalr
abbrev RJ:List RS:=[.tmp 4]
theorem Qa0i:mFn prog Em 2 84 Qa7b RJ=true:=ZH
def Qayp:SC:=cT 25 (sR [mJ 26 0,kJ 27 26,fJ 28 5 27,lJ 29 28,mJ 30 5,iJ 31 3 29 30,fJ 32 1 31,lJ 33 32,mJ 4 33] [4] .ret) .skip
def Qayq:SC:=.reg [mJ 14 5,cJ 15 .sub 14 1,mJ 5 15] [0,1,5]
def Qayr:SC:=.seq (.block 1 (sR [mJ 16 0,kJ 17 16,fJ 18 5 17,lJ 19 18,mJ 20 5,iJ 21 3 19 20,fJ 22 0 21,lJ 23 22,mJ 24 1,bJ 25 .eql 23 24] [0,1,5,25] Qayp)) Qayq
def Qarr:SC:=.seq (sR [mJ 12 5,cJ 13 .geq 12 0] [0,1,5,13] (cT 13 .skip (.exit 0))) Qayr
def Qays:SC:=sR [zJ 4 (-1)] [4] .ret
def Qayt:SC:=.seq (sR [mJ 6 0,kJ 7 6,fJ 8 5 7,lJ 9 8,nJ 10 9,cJ 11 .sub 10 1,mJ 5 11] [0,1,5] (bL 0 Qarr)) Qays
def Qbfq:SC:=sR [zJ 4 0] [0,1] Qayt
abbrev Rl:List RS:=[.tmp 4]
theorem Qa9m:mFn prog P5 2 34 Qbfq Rl=true:=ZH
def Q4m:List Item:=[iJ 10 1 5 9,lJ 11 10,mJ 4 11]
def Qa5z:SC:=sR (mJ 5 1::mJ 6 0::mJ 7 1::nJ 8 7::aJ 9 Qr [.t 6,.t 8]::Q4m) [4] .ret
def Qbkb:SC:=sR [fI 4 (.mv (.k (.c (.str []))))] [0,1] Qa5z
abbrev La:List RS:=[.tmp 4]
theorem Qbiw:mFn prog Hm 2 12 Qbkb La=true:=ZH
def Qyq:List Item:=[mJ 5 7]
def Qyr:List Item:=[kJ 18 8,fJ 19 2 18,sJ 1 19 17]
def Qys:List Item:=mJ 15 5::fI 16 (.aH 1 [.t 15])::xJ 17 1 14 16::Qyr
def Qaya:SC:=sR [mJ 20 5,tJ 21 4 3,fI 22 (.aH 4 [.t 21]),fI 23 (.bld [.int .i64 0,.str [],.sl true 4 [],.sl true 5 [],.sl true 5 []] [(0,1,kI 1),(1,1,.t 20),(2,1,.t 22)]),sJ 5 4 23] [4] .ret
def Qayb:SC:=sR (mJ 8 0::fI 9 (.aH 1 [])::mJ 10 0::kJ 11 10::fJ 12 2 11::lJ 13 12::xJ 14 1 9 13::Qys) [3,4,5] Qaya
def Qayc:SC:=sR (mJ 6 0::aJ 7 S8 [.t 6]::Qyq) [0,3,4,5] Qayb
def Qbc0:SC:=sR [vJ 3 1,eI 4 (.alloc [.int .i64 0,.str [],.sl true 4 [],.sl true 5 [],.sl true 5 []])] [0,3,4] Qayc
abbrev MM:List RS:=[.cell 4 5 true]
theorem Qa9j:mFn prog Pw 2 24 Qbc0 MM=true:=ZH
def Qtt:List Item:=[fI 11 (.bld [.int .i64 0,.int .i64 0,.str [],.sl true 4 []] [(0,1,kI 1),(1,1,.t 10)]),fI 12 (.aH 4 [.t 4,.t 11]),fI 13 (.bld [.int .i64 0,.int .i64 0,.str [],.sl true 4 []] [(0,1,kI 7),(3,1,.t 12)]),sJ 4 2 13]
def Qtu:List Item:=hJ 8 7::aJ 10 AT [.t 8,.t 9]::Qtt
def Qaqv:SC:=.seq (.a7 12 [0,2,3,4,5,6,1,5,7,8,9,10,11] ( mJ 3 0::mJ 5 0::kJ 6 5::fJ 7 0 6::lJ 8 7::fI 9 (.aH 1 [kI 16,kI 16,kI 16,kI 8,kI 17,kI 0])::aJ 4 CP [.t 3,kI 2]::Qtu) [2]) .ret
def Qa54:SC:=sR [eI 2 (.alloc [.int .i64 0,.int .i64 0,.str [],.sl true 4 []])] [0,2] Qaqv
abbrev Q8w:List RS:=[.cell 2 4 true]
theorem Qa0e:mFn prog PA 1 14 Qa54 Q8w=true:=ZH
def Qt4:List Item:=[sJ 5 5 17]
def Qt5:List Item:=eI 5 (.alloc [.int .i64 0,.str [],.sl true 4 [],.sl true 5 [],.sl true 5 []])::Qt4
def Qt6:List Item:=fI 16 (.bld [.int .i64 0,.int .i64 0,.str [],.sl true 4 []] [(0,1,kI 1),(1,1,.t 15)])::aJ 17 Pw [.t 9,.t 16]::Qt5
def Qt7:List Item:=[sJ 4 6 20]
def Qt8:List Item:=[mJ 7 24]
def Qt9:List Item:=[sJ 5 8 32]
def Qua:List Item:=[.chk 41 none (.ld 5 true (.t 5)),.chk 42 none (.ld 4 true (.t 6)),fI 48 (.bld [.int .i64 0,.str [],.sl true 4 [],.sl true 5 [],.sl true 5 []] [(0,1,kI 6),(2,1,.t 43),(3,1,.t 47)]),fI 49 (.aH 5 [.t 41,.t 48]),mJ 4 49]
def Qaqx:SC:=.seq (.a7 10 [0,1,2,3,4,5,6,0,1,7,8,9] ( tJ 41 5 5::tJ 42 4 6::fI 43 (.aH 4 [.t 42])::mJ 44 7::tJ 45 5 8::fI 46 (.aH 5 [.t 45])::xJ 47 5 44 46::Qua) [4]) .ret
def Qaqy:SC:=sR [mJ 33 0,mJ 34 0,kJ 35 34,fJ 36 4 35,lJ 37 36,cJ 38 .sub 37 2,kJ 39 33,fJ 40 4 39,sJ 1 40 38] [5,6,7,8] Qaqx
def Qaqz:SC:=sR (fJ 25 1 5::lJ 26 25::tJ 27 4 6::fI 28 (.bld [.int .i64 0,.int .i64 0,.str [],.sl true 4 []] [(0,1,kI 1),(1,1,kI 1)])::fI 29 (.aH 4 [.t 27,.t 28])::fI 30 (.bld [.int .i64 0,.int .i64 0,.str [],.sl true 4 []] [(0,1,kI 4),(3,1,.t 29)])::fI 31 (.aH 4 [.t 30])::fI 32 (.bld [.int .i64 0,.str [],.sl true 4 [],.sl true 5 [],.sl true 5 []] [(0,1,kI 2),(1,1,.t 26),(2,1,.t 31)])::eI 8 (.alloc [.int .i64 0,.str [],.sl true 4 [],.sl true 5 [],.sl true 5 []])::Qt9) [0,5,6,7,8] Qaqy
def Qajf:SC:=sR (mJ 21 0::mJ 22 1::cJ 23 .sub 22 1::aJ 24 G6 [.t 21,.t 23]::Qt8) [0,5,6,7] Qaqz
def Qajg:SC:=sR (fJ 18 1 5::lJ 19 18::fI 20 (.bld [.int .i64 0,.int .i64 0,.str [],.sl true 4 []] [(0,1,kI 2),(2,1,.t 19)])::eI 6 (.alloc [.int .i64 0,.int .i64 0,.str [],.sl true 4 []])::Qt7) [0,1,5,6] Qajf
def Qajh:SC:=sR (mJ 9 0::mJ 10 0::kJ 11 10::fJ 12 0 11::lJ 13 12::fI 14 (.aH 1 [kI 2,kI 3,kI 1,kI 0,kI 5])::aJ 15 AT [.t 13,.t 14]::Qt6) [0,1,5] Qajg
def Qa58:SC:=sR [fI 4 (.mv (.k (.c (.sl true 5 []))))] [0,1] Qajh
abbrev Q8x:List RS:=[.tmp 4]
theorem Qa0g:mFn prog Sm 2 50 Qa58 Q8x=true:=ZH
def Q0s:List Item:=[gF 11 8 (.bin 0 .eql (.t 10) (kI 0)),pT 12 8 11]
def Mr:List Item:=[fI 16 (.bld [.int .i64 0,.int .i64 0,.str [],.sl true 4 []] [(0,1,kI 1),(1,1,.t 15)]),sJ 4 4 16]
def s_l2Leaf_2:SC:=cT 12 (sR (mJ 13 0::fI 14 (.aH 1 [kI 0,kI 1,kI 2,kI 3,kI 5,kI 7,kI 15,kI 16,kI 100,kI 255])::aJ 15 AT [.t 13,.t 14]::Mr) [4] .ret) .skip
def Mq:List Item:=[fI 20 (.bld [.int .i64 0,.int .i64 0,.str [],.sl true 4 []] [(0,1,kI 2),(2,1,.t 19)]),sJ 4 4 20]
def K2:SC:=sR (mJ 17 0::mJ 18 1::aJ 19 Hm [.t 17,.t 18]::Mq) [4] .ret
def Qbka:SC:=.seq (sR (mJ 5 1::nJ 6 5::cJ 7 .eql 6 0::mJ 8 7::gFm 9 8 0::.e (some 10) (some (8,false)) (.call Qr [.t 9,kI 3])::Q0s) [0,1,4,12] s_l2Leaf_2) K2
def Qbt3:SC:=sR [eI 4 (.alloc [.int .i64 0,.int .i64 0,.str [],.sl true 4 []])] [0,1,4] Qbka
abbrev DF:List RS:=[.cell 4 4 true]
theorem Qbs6:mFn prog F3 2 21 Qbt3 DF=true:=ZH
def K6:List Item:=[mJ 16 1,bJ 17 .neq 15 16]
def Qbpn:SC:=cT 17 (sR [fB 4 false] [4] .ret) .skip
def Qbpo:SC:=.reg [mJ 10 5,cJ 11 .add 10 1,mJ 5 11] [0,1,5]
def Qbpp:SC:=.seq (.block 1 (sR (mJ 12 0::mJ 13 5::fI 14 (.idx (.t 12) (.t 13))::aJ 15 Q58 [.t 14]::K6) [0,1,5,17] Qbpn)) Qbpo
def Qbj0:SC:=.seq (sR [mJ 6 5,mJ 7 0,fI 8 (.lens (.t 7)),bJ 9 .lss 6 8] [0,1,5,9] (cT 9 .skip (.exit 0))) Qbpp
def Qbpq:SC:=sR [mJ 18 0,fI 19 (.lens (.t 18)),cJ 20 .gtr 19 0,mJ 4 20] [4] .ret
def Qbpr:SC:=.seq (sR [zJ 5 0] [0,1,5] (bL 0 Qbj0)) Qbpq
def VV:SC:=sR [fB 4 false] [0,1] Qbpr
abbrev FL:List RS:=[.tmp 4]
theorem XQ:mFn prog EY 2 21 VV FL=true:=ZH
def K5:List Item:=[mJ 3 5]
def Qbpt:SC:=cT 17 (sR [fB 2 true] [2] .ret) .skip
def Qbpu:SC:=.reg [mJ 10 4,cJ 11 .add 10 1,mJ 4 11] [0,3,4]
def Qbpv:SC:=.seq (.block 1 (sR [mJ 12 3,mJ 13 4,iJ 14 1 12 13,lJ 15 14,mJ 16 0,bJ 17 .eql 15 16] [0,3,4,17] Qbpt)) Qbpu
def Qbj1:SC:=.seq (sR [mJ 6 4,mJ 7 3,nJ 8 7,bJ 9 .lss 6 8] [0,3,4,9] (cT 9 .skip (.exit 0))) Qbpv
def Qbpw:SC:=sR [fB 2 false] [2] .ret
def Qbpx:SC:=.seq (sR [zJ 4 0] [0,3,4] (bL 0 Qbj1)) Qbpw
def Qbpy:SC:=sR (aJ 5 S5 []::K5) [0,3] Qbpx
def VU:SC:=sR [fB 2 false] [0] Qbpy
abbrev FK:List RS:=[.tmp 2]
theorem Xl:mFn prog EX 1 18 VU FK=true:=ZH
def Pg:List Item:=[.chk 17 (some (15,false)) (.ld 1 false (.t 16)),.chk 18 (some (15,false)) (.len (.t 17)),gF 22 15 (.bin 0 .neq (.t 18) (.t 21)),pT 23 15 22]
def Q0t:List Item:=gF 13 9 (.not (.t 12))::pT 14 9 13::mJ 15 14::gFf 16 15 2 2::gFl 17 15 16::gF 18 15 (.len (.t 17))::gFf 19 15 0 2::gFl 20 15 19::.e (some 21) (some (15,false)) (.call F2 [.t 20])::Pg
def s_l3Stmt_2:SC:=cT 23 (sR [fB 4 false] [4] .ret) .skip
def Mn:List Item:=[fI 36 (.bin 1 .neq (.t 32) (.t 35)),mJ 37 36,gFm 38 37 5,gF 39 37 (.not (.t 38)),gFm 40 37 39,gTf 41 40 1 2,gTl 42 40 41,gT 43 40 (.bin 0 .neq (.t 42) (.k (.c (.str [])))),gF 44 37 (.pick (.t 40) (.t 43) (.k (.c (.bool false)))),pT 45 37 44]
def Qbkk:SC:=cT 45 (sR [fB 4 false] [4] .ret) .skip
def Mm:List Item:=[oJ 59 58]
def Qbkl:SC:=cT 59 (sR [fB 4 false] [4] .ret) .skip
def Qbkm:SC:=.reg [mJ 51 6,cJ 52 .add 51 1,mJ 6 52] [1,2,6]
def Qbkn:SC:=.seq (.block 1 (sR (fJ 53 2 2::lJ 54 53::mJ 55 6::iJ 56 4 54 55::tJ 57 4 56::aJ 58 SR [.t 57]::Mm) [1,2,6,59] Qbkl)) Qbkm
def Qbdg:SC:=.seq (sR [mJ 46 6,fJ 47 2 2,lJ 48 47,nJ 49 48,bJ 50 .lss 46 49] [1,2,6,50] (cT 50 .skip (.exit 0))) Qbkn
def Qbc8:SC:=cT 70 (sR [fB 4 false] [4] .ret) .skip
def Qbc9:SC:=cT 95 (sR [fB 4 false] [4] .ret) .skip
def R3:List Item:=[pF 107 101 106,mJ 4 107]
def NZ:List Item:=mJ 101 100::gTf 102 101 4 2::gTl 103 101 102::gTm 104 101 1::gT 105 101 (.bin 0 .sub (.t 104) (kI 1))::.e (some 106) (some (101,true)) (.call Hd [.t 103,.t 105])::R3
def Qbda:SC:=sR (fJ 96 3 2::lJ 97 96::mJ 98 1::cJ 99 .sub 98 1::aJ 100 Hd [.t 97,.t 99]::NZ) [4] .ret
def Qbdb:SC:=.seq (sR [fJ 71 4 2,lJ 72 71,nJ 73 72,cJ 74 .gtr 73 0,mJ 75 74,gTf 76 75 0 2,gTl 77 75 76,gT 78 75 (.bin 0 .neq (.t 77) (kI 5)),pF 79 75 78,mJ 80 79,gFf 81 80 3 2,gFl 82 80 81,gF 83 80 (.len (.t 82)),gF 84 80 (.bin 0 .gtr (.t 83) (kI 0)),gFm 85 80 84,gTf 86 85 0 2,gTl 87 85 86,gT 88 85 (.bin 0 .neq (.t 87) (kI 5)),gF 89 80 (.pick (.t 85) (.t 88) (.k (.c (.bool false)))),gFm 90 80 89,gTf 91 90 0 2,gTl 92 90 91,gT 93 90 (.bin 0 .neq (.t 92) (kI 6)),gF 94 80 (.pick (.t 90) (.t 93) (.k (.c (.bool false)))),pT 95 80 94] [1,2,95] Qbc9) Qbda
def Qbdc:SC:=.seq (sR [fJ 60 0 2,lJ 61 60,cJ 62 .eql 61 8,mJ 63 62,gTf 64 63 2 2,gTl 65 63 64,gT 66 63 (.iad 4 (.t 65) (kI 0)),gTf 67 63 0 66,gTl 68 63 67,gT 69 63 (.bin 0 .neq (.t 68) (kI 13)),pF 70 63 69] [1,2,70] Qbc8) Qbdb
def Qbdd:SC:=.seq (sR [zJ 6 0] [1,2,6] (bL 0 Qbdg)) Qbdc
def Qbde:SC:=.seq (sR (mJ 32 5::fJ 33 1 2::lJ 34 33::aJ 35 Gy [.t 34]::Mn) [1,2,45] Qbkk) Qbdd
def Mo:SC:=sR [fJ 24 0 2,lJ 25 24,cJ 26 .eql 25 1,mJ 27 26,gFf 28 27 0 2,gFl 29 27 28,gF 30 27 (.bin 0 .eql (.t 29) (kI 2)),pT 31 27 30,mJ 5 31] [1,2,5] Qbde
def Qbdf:SC:=.seq (.seq (.a7 17 [0,1,2,3,4,5,6,7,8,9,10,11,12,13,14,10,11,15,16] ( mJ 7 1::cJ 8 .lss 7 1::mJ 9 8::gFf 10 9 0 2::gFl 11 9 10::.e (some 12) (some (9,false)) (.call AM [.t 11,kI 1,kI 8])::Q0t) [1,2,23]) s_l3Stmt_2) Mo
def YK:SC:=sR [vJ 2 0,fB 4 false] [1,2] Qbdf
abbrev DE:List RS:=[.tmp 4]
theorem Qbs9:mFn prog F0 2 108 YK DE=true:=ZH
def Qyt:List Item:=[mJ 5 16]
def Qyu:List Item:=[mJ 6 21]
def Qyv:List Item:=fI 20 (.aH 1 [])::aJ 21 BN [.t 17,kI 1,.t 19,kI 0,.t 20]::Qyu
def Qyw:List Item:=[mJ 7 23]
def Qyx:List Item:=[mJ 8 25]
def Qyy:List Item:=[mJ 9 38]
def Qyz:List Item:=[mJ 10 44]
def Qy0:List Item:=mJ 42 9::fI 43 (.aH 1 [.t 42])::aJ 44 BN [.t 39,kI 10,.t 41,kI 0,.t 43]::Qyz
def Qayi:SC:=sR [mJ 55 6,mJ 4 55] [4] .ret
def Qayj:SC:=sR [mJ 50 0,mJ 51 8,fI 52 (.aH 1 [.t 51]),mJ 53 8,aJ 54 Cx [.t 50,kI 1,kI 0,.t 52,.t 53]] [6] Qayi
def Qaq5:SC:=sR [mJ 45 0,mJ 46 6,mJ 47 10,fI 48 (.aH 1 [.t 47]),aJ 49 BN [.t 45,kI 10,.t 46,kI 0,.t 48]] [0,6,8] Qayj
def Qaq6:SC:=sR (mJ 39 0::mJ 40 0::aJ 41 CQ [.t 40]::Qy0) [0,6,8,10] Qaq5
def Qaq7:SC:=sR (mJ 33 0::fJ 34 3 3::lJ 35 34::fI 36 (.iad 4 (.t 35) (kI 1))::tJ 37 4 36::aJ 38 Em [.t 33,.t 37]::Qyy) [0,6,8,9] Qaq6
def Qaq8:SC:=sR [mJ 26 0,mJ 27 5,mJ 28 7,mJ 29 8,fI 30 (.aH 1 [.t 28,.t 29]),mJ 31 7,aJ 32 Cx [.t 26,kI 2,.t 27,.t 30,.t 31]] [0,3,6,8] Qaq7
def Qaq9:SC:=sR (mJ 24 0::aJ 25 Ce [.t 24]::Qyx) [0,3,5,6,7,8] Qaq8
def Qara:SC:=sR (mJ 22 0::aJ 23 Ce [.t 22]::Qyw) [0,3,5,6,7] Qaq9
def Qarb:SC:=sR (mJ 17 0::mJ 18 0::aJ 19 CQ [.t 18]::Qyv) [0,3,5,6] Qara
def Qarc:SC:=sR (mJ 11 0::fJ 12 3 3::lJ 13 12::fI 14 (.iad 4 (.t 13) (kI 0))::tJ 15 4 14::aJ 16 Em [.t 11,.t 15]::Qyt) [0,3,5] Qarb
def Qbfo:SC:=sR [vJ 3 1,zJ 4 0] [0,3] Qarc
abbrev M7:List RS:=[.tmp 4]
theorem Qa9k:mFn prog RA 2 56 Qbfo M7=true:=ZH
def Qbft:SC:=cT 20 (sR [mJ 21 5,mJ 4 21] [4] .ret) .skip
def Qbfu:SC:=.reg [mJ 11 5,cJ 12 .add 11 1,mJ 5 12] [1,2,5]
def Qbfv:SC:=.seq (.block 1 (sR [fJ 13 0 2,lJ 14 13,mJ 15 5,iJ 16 3 14 15,fJ 17 0 16,lJ 18 17,mJ 19 1,bJ 20 .eql 18 19] [1,2,5,20] Qbft)) Qbfu
def Qa7q:SC:=.seq (sR [mJ 6 5,fJ 7 0 2,lJ 8 7,nJ 9 8,bJ 10 .lss 6 9] [1,2,5,10] (cT 10 .skip (.exit 0))) Qbfv
def Qbfw:SC:=sR [zJ 4 (-1)] [4] .ret
def Qbfx:SC:=.seq (sR [zJ 5 0] [1,2,5] (bL 0 Qa7q)) Qbfw
def Qbqq:SC:=sR [vJ 2 0,zJ 4 0] [1,2] Qbfx
abbrev Fg:List RS:=[.tmp 4]
theorem Qboc:mFn prog Q6d 2 22 Qbqq Fg=true:=ZH
def Qpx:List Item:=[cJ 16 .eql 15 0,mJ 17 16,gTm 18 17 0,gT 19 17 (.nck (.t 18)),gTf 20 17 2 19,gTl 21 17 20,gT 22 17 (.len (.t 21)),gT 23 17 (.bin 0 .gtr (.t 22) (kI 0)),pF 24 17 23]
def Qpy:List Item:=[mJ 2 33]
def Qajb:SC:=cT 24 (.seq (.a7 10 [0,1,2,3,4,5,6,7,8,9] ( mJ 25 0::kJ 26 25::fJ 27 0 26::lJ 28 27::mJ 29 0::kJ 30 29::fJ 31 2 30::lJ 32 31::aJ 33 Hm [.t 28,.t 32]::Qpy) [2]) .ret) .skip
def Qajc:SC:=.seq (.a7 13 [0,1,2,3,4,5,6,7,8,9,10,11,12] ( mJ 34 0::kJ 35 34::fJ 36 3 35::lJ 37 36::cJ 38 .rem 37 24::mJ 39 0::kJ 40 39::fJ 41 3 40::lJ 42 41::cJ 43 .rem 42 24::cJ 44 .add 43 1::fI 45 (.slis (.k (.c (.str [97,98,99,100,101,103,104,105,106,107,108,109,110,112,113,114,115,116,117,118,119,120,121,122]))) (some (.t 38)) (some (.t 44)))::mJ 2 45::[]) [2]) .ret
def Qajd:SC:=.seq (sR (mJ 11 0::kJ 12 11::fJ 13 0 12::lJ 14 13::aJ 15 Qr [.t 14,kI 9]::Qpx) [0,24] Qajb) Qajc
def Qaje:SC:=sR [mJ 3 0,mJ 4 0,kJ 5 4,fJ 6 3 5,lJ 7 6,cJ 8 .add 7 1,kJ 9 3,fJ 10 3 9,sJ 1 10 8] [0] Qajd
def Qax9:SC:=sR [fI 2 (.mv (.k (.c (.str []))))] [0] Qaje
abbrev Sb:List RS:=[.tmp 2]
theorem Qaus:mFn prog S8 1 46 Qax9 Sb=true:=ZH
def N9:List Item:=[cJ 20 .geq 19 0,mJ 17 20]
def Qbb4:SC:=cT 21 (sR [zJ 2 4] [2] .ret) .skip
def Qbb5:SC:=cT 17 (sR [zJ 2 3] [2] .ret) (sR [mJ 22 0,fI 23 (.bin 0 .eql (.t 22) (.k (.c (.int .u8 32)))),mJ 24 23,gFm 25 24 0,gF 26 24 (.bin 0 .eql (.t 25) (.k (.c (.int .u8 10)))),pT 27 24 26,mJ 21 27] [21] Qbb4)
def Qbb6:SC:=cT 10 (sR [zJ 2 2] [2] .ret) (sR (mJ 18 0::eI 19 (.call Q59 [.k (.c (.str [40,41,123,125,59,44,43,45,42,47,37,60,61,38,33,64])),.t 18])::N9) [0,17] Qbb5)
def Qbb7:SC:=cT 3 (sR [zJ 2 1] [2] .ret) (sR [mJ 11 0,fI 12 (.bin 0 .geq (.t 11) (.k (.c (.int .u8 48)))),mJ 13 12,gTm 14 13 0,gT 15 13 (.bin 0 .leq (.t 14) (.k (.c (.int .u8 57)))),pF 16 13 15,mJ 10 16] [0,10] Qbb6)
def Qbb8:SC:=sR [zJ 2 0] [2] .ret
def Qbb9:SC:=.seq (.block 0 (sR [mJ 4 0,fI 5 (.bin 0 .geq (.t 4) (.k (.c (.int .u8 97)))),mJ 6 5,gTm 7 6 0,gT 8 6 (.bin 0 .leq (.t 7) (.k (.c (.int .u8 122)))),pF 9 6 8,mJ 3 9] [0,3] Qbb7)) Qbb8
def Qbps:SC:=sR [zJ 2 0] [0] Qbb9
abbrev Gf:List RS:=[.tmp 2]
theorem Qbn1:mFn prog Q58 1 28 Qbps Gf=true:=ZH
def Qam5:SC:=sR [fI 1 (.aH 1 [.k (.c (.str [102,110])),.k (.c (.str [108,101,116])),.k (.c (.str [115,97,121])),.k (.c (.str [112,117,116])),.k (.c (.str [105,102])),.k (.c (.str [101,108,115,101])),.k (.c (.str [108,111,111,112])),.k (.c (.str [98,97,99,107])),.k (.c (.str [100,111]))]),mJ 0 1] [0] .ret
def Qay0:SC:=sR [fI 0 (.mv (.k (.c (.sl true 1 []))))] [] Qam5
abbrev Q16:List RS:=[.tmp 0]
theorem Qau0:mFn prog S5 0 2 Qay0 Q16=true:=ZH
def Qbkd:SC:=cT 4 (sR [zJ 2 2] [2] .ret) .skip
def Qbke:SC:=sR [zJ 2 1] [2] .ret
def Qbkf:SC:=.seq (sR [mJ 3 0,cJ 4 .eql 3 4] [4] Qbkd) Qbke
def Qbt4:SC:=sR [zJ 2 0] [0] Qbkf
abbrev EQ:List RS:=[.tmp 2]
theorem Qbs7:mFn prog F2 1 5 Qbt4 EQ=true:=ZH
def Tl:List Item:=[gT 8 5 (.bin 0 .leq (.t 7) (kI 30)),pF 9 5 8,mJ 2 9]
def Qnh:List Item:=mJ 5 4::gT 6 5 (.ld 4 true (.t 1))::.e (some 7) (some (5,true)) (.call OT [.t 6])::Tl
def Qaen:SC:=sR (tJ 3 4 1::aJ 4 Rg [.t 3,kI 6]::Qnh) [2] .ret
def Qar7:SC:=sR [vJ 1 0,fB 2 false] [1] Qaen
abbrev Sx:List RS:=[.tmp 2]
theorem Qany:mFn prog SR 1 10 Qar7 Sx=true:=ZH
def Qbcn:SC:=cT 16 (sR [mJ 17 5,mJ 4 17] [4] .ret) .skip
def Qbco:SC:=.reg [mJ 10 5,cJ 11 .add 10 1,mJ 5 11] [0,1,5]
def Qbcp:SC:=.seq (.block 1 (sR [mJ 12 0,mJ 13 5,fI 14 (.idx (.t 12) (.t 13)),mJ 15 1,bJ 16 .eql 14 15] [0,1,5,16] Qbcn)) Qbco
def Qa5y:SC:=.seq (sR [mJ 6 5,mJ 7 0,fI 8 (.lens (.t 7)),bJ 9 .lss 6 8] [0,1,5,9] (cT 9 .skip (.exit 0))) Qbcp
def Qbcq:SC:=sR [zJ 4 (-1)] [4] .ret
def Qbcr:SC:=.seq (sR [zJ 5 0] [0,1,5] (bL 0 Qa5y)) Qbcq
def Qbp0:SC:=sR [zJ 4 0] [0,1] Qbcr
abbrev Ft:List RS:=[.tmp 4]
theorem Qbn3:mFn prog Q59 2 18 Qbp0 Ft=true:=ZH
def Mu:List Item:=[mJ 9 12,fI 13 (.ext (.t 9) 0),fI 14 (.ext (.t 9) 1),mJ 5 13,mJ 6 14]
def Ph:List Item:=[gF 30 23 (.not (.t 29)),pT 31 23 30]
def Q0q:List Item:=gF 21 17 (.not (.t 20))::pT 22 17 21::mJ 23 22::gFf 24 23 3 2::gFl 25 23 24::gF 26 23 (.len (.t 25))::gFm 27 23 5::gFm 28 23 6::.e (some 29) (some (23,false)) (.call AM [.t 26,.t 27,.t 28])::Ph
def s_l2Form_3:SC:=cT 31 (sR [fB 4 false] [4] .ret) .skip
def Q0r:List Item:=[gF 58 54 (.not (.t 57)),pT 59 54 58,mJ 60 59,gFf 61 60 0 2,gFl 62 60 61,gF 63 60 (.bin 0 .neq (.t 62) (kI 1)),gFm 64 60 63,gTf 65 64 1 2,gTl 66 64 65,gT 67 64 (.bin 0 .neq (.t 66) (kI 0)),gF 68 60 (.pick (.t 64) (.t 67) (.k (.c (.bool false)))),pT 69 60 68]
def Mt:List Item:=fI 44 (.bin 1 .neq (.t 40) (.t 43))::mJ 45 44::gFm 46 45 7::gF 47 45 (.not (.t 46))::gFm 48 45 47::gTf 49 48 2 2::gTl 50 48 49::gT 51 48 (.bin 0 .neq (.t 50) (.k (.c (.str []))))::gF 52 45 (.pick (.t 48) (.t 51) (.k (.c (.bool false))))::pT 53 45 52::mJ 54 53::gFf 55 54 1 2::gFl 56 54 55::.e (some 57) (some (54,false)) (.call AM [.t 56,kI 0,kI 255])::Q0r
def s_l2Form_6:SC:=cT 69 (sR [fB 4 false] [4] .ret) .skip
def Ms:List Item:=[oJ 85 84]
def Qbj3:SC:=cT 85 (sR [fB 4 false] [4] .ret) .skip
def Qbj4:SC:=.reg [mJ 75 8,cJ 76 .add 75 1,mJ 8 76] [1,2,8]
def Qbcd:SC:=.seq (.block 1 (sR (fJ 77 3 2::lJ 78 77::mJ 79 8::iJ 80 4 78 79::tJ 81 4 80::mJ 82 1::cJ 83 .sub 82 1::aJ 84 Rg [.t 81,.t 83]::Ms) [1,2,8,85] Qbj3)) Qbj4
def Qa5w:SC:=.seq (sR [mJ 70 8,fJ 71 3 2,lJ 72 71,nJ 73 72,bJ 74 .lss 70 73] [1,2,8,74] (cT 74 .skip (.exit 0))) Qbcd
def Qbce:SC:=sR [fB 4 true] [4] .ret
def Mw:SC:=.seq (sR [zJ 8 0] [1,2,8] (bL 0 Qa5w)) Qbce
def Qbcf:SC:=.seq (sR (mJ 40 7::fJ 41 2 2::lJ 42 41::aJ 43 Gy [.t 42]::Mt) [1,2,69] s_l2Form_6) Mw
def Mv:SC:=sR [fJ 32 0 2,lJ 33 32,cJ 34 .eql 33 2,mJ 35 34,gFf 36 35 0 2,gFl 37 35 36,gF 38 35 (.bin 0 .eql (.t 37) (kI 13)),pT 39 35 38,mJ 7 39] [1,2,7] Qbcf
def Qbcg:SC:=.seq (sR (mJ 15 1::cJ 16 .lss 15 1::mJ 17 16::gFf 18 17 0 2::gFl 19 17 18::.e (some 20) (some (17,false)) (.call AM [.t 19,kI 1,kI 13])::Q0q) [1,2,31] s_l2Form_3) Mv
def Qbch:SC:=sR (fJ 10 0 2::lJ 11 10::aJ 12 F4 [.t 11]::Mu) [1,2,5,6] Qbcg
def Qbt1:SC:=sR [vJ 2 0,fB 4 false] [1,2] Qbch
abbrev OL:List RS:=[.tmp 4]
theorem Qbs4:mFn prog Rg 2 86 Qbt1 OL=true:=ZH
def N8:List Item:=[bJ 19 .add 12 18,mJ 3 19]
def Qbci:SC:=.reg [mJ 10 4,cJ 11 .add 10 1,mJ 4 11] [1,3,4]
def Qbcj:SC:=.seq (.block 1 (.reg (mJ 12 3::fJ 13 3 1::lJ 14 13::mJ 15 4::iJ 16 4 14 15::tJ 17 4 16::aJ 18 OT [.t 17]::N8) [1,3,4])) Qbci
def Qa5x:SC:=.seq (sR [mJ 5 4,fJ 6 3 1,lJ 7 6,nJ 8 7,bJ 9 .lss 5 8] [1,3,4,9] (cT 9 .skip (.exit 0))) Qbcj
def Qbck:SC:=sR [mJ 20 3,mJ 2 20] [2] .ret
def Qbcl:SC:=.seq (sR [zJ 4 0] [1,3,4] (bL 0 Qa5x)) Qbck
def Qbcm:SC:=sR [zJ 3 1] [1,3] Qbcl
def Qbpz:SC:=sR [vJ 1 0,zJ 2 0] [1] Qbcm
abbrev OG:List RS:=[.tmp 2]
theorem Qbn2:mFn prog OT 1 21 Qbpz OG=true:=ZH
def Qbj5:SC:=cT 5 .skip (.reg [cJ 7 .eql 4 2,mJ 5 7] [4,5])
def Qbj6:SC:=cT 8 .skip (.reg [cJ 10 .eql 4 12,mJ 8 10] [4,8])
def Qbj7:SC:=cT 11 (sR [zJ 2 0,zJ 3 3] [2,3] .ret) .skip
def K4:SC:=cT 8 (sR [zJ 2 1,zJ 3 1] [2,3] .ret) (sR [cJ 12 .eql 4 13,mJ 11 12] [11] Qbj7)
def K3:SC:=cT 5 (sR [zJ 2 0,zJ 3 0] [2,3] .ret) (.seq (sR [cJ 9 .eql 4 11,mJ 8 9] [4,8] Qbj6) K4)
def Qbj8:SC:=.block 0 (.seq (sR [cJ 6 .eql 4 1,mJ 5 6] [4,5] Qbj5) K3)
def Q7w:SC:=sR [zJ 2 2,zJ 3 2] [2,3] .ret
def Qbj9:SC:=.seq (sR [mJ 4 0] [4] Qbj8) Q7w
def Qbt2:SC:=sR [zJ 2 0,zJ 3 0] [0] Qbj9
abbrev OK:List RS:=[.tmp 2,.tmp 3]
theorem Qbs5:mFn prog F4 1 13 Qbt2 OK=true:=ZH
end Go.AE.Y
