/- Part 2 of the proof: the engine, codes, walks and plain laws, each named where it stands. -/
import Derived.Test.YtchjcdooknkfpaaGreatDoorZA
import Derived.Test.YtchjcdooknkfpaaGreatDoorProg
open Nat (reduceEqDiff reduceAdd reduceLeDiff reduceLT)
set_option linter.unusedVariables false
set_option linter.unusedSimpArgs false
set_option maxRecDepth 4000
open Array renaming getD_eq_getD_getElem?->Jg,getElem?_eq_some_iff->Jm,getElem?_eq_getElem->Js,getElem?_setIfInBounds_self_of_lt->J1
open Bool renaming and_eq_true->Jj,not_eq_true'->J3,or_eq_true->Jad
open Int renaming eq_ofNat_of_zero_le->Jah
open List renaming mem_of_getElem?->Ja,mem_append->Jb,mem_append_left->Jc,mem_append_right->Jd,getD_eq_getElem?_getD->Je,mem_map->Jh,mem_cons->Ji,nodup_append->Jk,append_assoc->Jl,map_append->Jn,mem_or_eq_of_mem_set->Jo,perm_append_comm->Jp,map_cons->Jq,nil_append->Jr,mem_cons_of_mem->Jt,mem_cons_self->Ju,getElem?_eq_some_iff->Jv,getElem?_eq_getElem->Jw,length_eq_zero_iff->Jx,cons_append->Jy,take_of_length_le->Jz,append_of_mem->J0,length_map->J2,all_cons->J4,mem_singleton->J5,getElem?_set->J6,all_nil->J7,map_nil->J8,map_set->J9,all_eq_true->Jaa,getElem_set->Jab,not_mem_nil->Jac,map_eq_nil_iff->Jae,drop_zero->Jaf,pairwise_iff_getElem->Jag,any_eq_true->Jaj,ext_getElem->Jak,getElem_mem->Jal,length_eq_one_iff->Jam,append_nil->Jan,length_nil->Jao,length_singleton->Jap,flatMap_append->Jaq,getElem?_drop->Jar,set_cons_zero->Jas,countP_cons->Jav,count_cons->Jaw
open Nat renaming zero_add->Jau,le_refl->Jax,zero_le->Jay
open Ne renaming symm->Jat
open Option.some renaming injEq->Jf,inj->Jaz
open Prod.mk renaming injEq->Jai
namespace Go.AE
variable {P:Program}{H:Heap}{g:G}{w:World}{e:Env}{a:Act}
def Item.isE:Item->Bool
 |.e _ _ _=>true
 |_=>false
def Item.aQ:Item->Bool
 |.chk _ _ _=>true
 |_=>false
def Item.isFl:Item->Bool
 |.f _ _ _=>true
 |.p _ _ _ _=>true
 |_=>false
def Item.hf:Item->Bool
 |.f _ _ op=>op.hfree
 |_=>true
def Item.isFa:Item->Bool
 |.e (some _) none (.alloc _)=>true
 |_=>false
abbrev Row:=Nat×Item
def IA (ms:List Nat)(o:Oper):Nat->List Edge->Nat
 |s,[]=>s
 |s,ed::r=>IA ms o (if Region.binds .any ed then s ||| (2 ^ ed.on ||| ms.getD ed.on 0)else s) r
def dIn (d:Option Nat)(l:List Nat):Bool:=
 match d with
 |some t=>l.contains t
 |none=>false
def flo (fa i:Nat):Bool:=i == fa || (decide (100000<=fa)&&(fa-100000).testBit i)
def F1 (ms:List Nat)(fa:Nat)(x y:Row):Bool:=
 x.1 != y.1&&!((ms.getD x.1 0).testBit y.1)&&(match x.2.dst with
  |some t=>y.2.dst != some t
  |none=>true)
 &&(!(dIn y.2.dst x.2.looks) || (ms.getD y.1 0).testBit x.1)
 &&(!(dIn x.2.dst y.2.looks) || (ms.getD y.1 0).testBit x.1)
 &&(!x.2.isE || flo fa y.1 || (ms.getD y.1 0).testBit x.1)
def CX (j:Nat):List Row->Bool
 |[]=>false
 |y::r=>y.2.aQ&&(y.1 == j || CX j r)
def DU (P:Program)(n:Nat)(ops:Array Oper)(ms:List Nat)(fa:Nat)(pre:List Row)(y:Row)(rest:List Row):Bool:=
 match ops[y.1]? with
 |none=>false
 |some o=>match y.2 with
  |.chk d gd op=>CF P n ops o (.f (some d) gd op)&&pre.any (λz=>!z.2.aQ&&z.1 == y.1&&z.2.looks == y.2.looks&&z.2.dst == some d&&!z.2.hf)
    &&pre.all (λz=>z.2.aQ || !(dIn z.2.dst y.2.looks) || (ms.getD y.1 0).testBit z.1)
  |_=>CF P n ops o y.2&&o.after.toList.all (λed=>!Region.binds .any ed || pre.any λz=>!z.2.aQ&&z.1 == ed.on)
    &&ms.getD y.1 0 == IA ms o 0 o.after.toList&&!(dIn y.2.dst y.2.looks)
    &&pre.all (λz=>z.2.aQ || F1 ms fa z y)&&(!flo fa y.1 || y.2.isFa)
    &&(!y.2.isE || pre.all (λz=>z.2.aQ || z.2.hf || (ms.getD y.1 0).testBit z.1 || CX z.1 rest))
def EQ (P:Program)(n:Nat)(ops:Array Oper)(ms:List Nat)(fa:Nat):List Row->List Row->Bool
 |_,[]=>true
 |pre,y::r=>DU P n ops ms fa pre y r&&EQ P n ops ms fa (pre++[y]) r
def Ho:List Oper->List Nat->List Nat
 |[],ms=>ms
 |o::r,ms=>Ho r (ms++[IA ms o 0 o.after.toList])
def Hp (P:Program)(n:Nat)(ops:Array Oper)(fa:Nat)(ord:List Nat)(its:List Item):Bool:=
 ord.length == its.length&&Region.noSelect ops&&EQ P n ops (Ho ops.toList []) fa [] (ord.zip its)
  &&(List.range ops.size).all λi=>(ord.zip its).any λy=>!y.2.aQ&&y.1 == i
theorem T3 {n:Nat}{ops:Array Oper}{ms:List Nat}{fa:Nat}:∀(L pre:List Row),EQ P n ops ms fa pre L=true->
  ∀A y B,L=A++y::B->DU P n ops ms fa (pre++A) y B=true
 |[],_,_,A,y,B,h=>ZI
 |x::r,pre,hm,A,y,B,h=>by
  simp only[EQ,Jj]at hm
  cases A with
  |nil=>
   simp at h;obtain⟨rfl,rfl⟩:=h;simpa using hm.1
  |cons a A=>
   simp at h;obtain⟨rfl,rfl⟩:=h;have:=T3 _ _ hm.2 A y B rfl;simpa[Jl]using this
theorem Q7g {ms:List Nat}{o:Oper}{j:Nat}:∀(l:List Edge) (s:Nat),(IA ms o s l).testBit j=true->
  s.testBit j=true\/∃ed∈l,Region.binds .any ed=true/\(ed.on=j\/(ms.getD ed.on 0).testBit j=true)
 |[],s,h=>.inl h
 |ed::r,s,h=>by
  simp only[IA]at h;rcases Q7g r _ h with h1|⟨x,hx,h1⟩
  ·by_cases hb:Region.binds .any ed=true
   ·rw[if_pos hb]at h1;simp only[Nat.testBit_or,Jad]at h1;rcases h1 with h1|h1|h1
    ·exact .inl h1
    ·rw[Nat.testBit_two_pow]at h1;exact .inr ⟨ed,ZD,hb,.inl ZZ⟩
    ·exact .inr ⟨ed,ZD,hb,.inr h1⟩
   ·rw[if_neg hb]at h1;exact .inl h1
  ·exact .inr ⟨x,Zbj,h1⟩
theorem dIn_iff {d:Option Nat}{l:List Nat}:dIn d l=true↔∃t,d=some t/\t∈l:=by
 cases d <;> simp[dIn]
structure PairOk (ms:List Nat)(fa:Nat)(x y:Row):Prop where
 ne:x.1≠y.1
 top:(ms.getD x.1 0).testBit y.1=false
 dst:∀t,x.2.dst=some t->y.2.dst≠some t
 war:∀t,y.2.dst=some t->t∈x.2.looks->(ms.getD y.1 0).testBit x.1=true
 raw:∀t,x.2.dst=some t->t∈y.2.looks->(ms.getD y.1 0).testBit x.1=true
 ord:x.2.isE=true->¬flo fa y.1=true->(ms.getD y.1 0).testBit x.1=true
theorem Qbb9 {ms:List Nat}{fa:Nat}{x y:Row}(h:F1 ms fa x y=true):PairOk ms fa x y:=by
 simp only[F1,Jj,bne_iff_ne,Jad,J3,beq_iff_eq]at h;obtain⟨⟨⟨⟨⟨h1,h2⟩,h3⟩,h4⟩,h5⟩,h6⟩:=h;refine⟨h1,h2,?_,?_,?_,?_⟩
 ·intro t ht;rw[ht]at h3;simpa using h3
 ·intro t ht hm;rcases h4 with h4|h4
  ·have:=dIn_iff.2 ⟨t,ht,hm⟩;rw[this]at h4;simp at h4
  ·exact h4
 ·intro t ht hm;rcases h5 with h5|h5
  ·have:=dIn_iff.2 ⟨t,ht,hm⟩;rw[this]at h5;simp at h5
  ·exact h5
 ·intro hx hy;rcases h6 with (h6|h6)|h6
  ·rw[hx]at h6;simp at h6
  ·exact absurd h6 hy
  ·exact h6
structure RowOk (P:Program)(n:Nat)(ops:Array Oper)(ms:List Nat)(fa:Nat)(pre:List Row)(y:Row)(rest:List Row)(o:Oper):Prop where
 op:ops[y.1]? = some o
 item:CF P n ops o y.2=true
 aft:∀ed∈o.after,Region.binds .any ed=true->∃z∈pre,z.2.aQ=false/\z.1=ed.on
 anc:∀j,(ms.getD y.1 0).testBit j=true->∃ed∈o.after,Region.binds .any ed=true/\(ed.on=j\/(ms.getD ed.on 0).testBit j=true)
 self:∀t,y.2.dst=some t->t∉y.2.looks
 pair:∀z∈pre,z.2.aQ=false->PairOk ms fa z y
 isFa:flo fa y.1=true->y.2.isFa=true
 cover:y.2.isE=true->∀z∈pre,z.2.aQ=false->z.2.hf=false->(ms.getD y.1 0).testBit z.1=false->CX z.1 rest=true
theorem Qbmr {n:Nat}{ops:Array Oper}{ms:List Nat}{fa:Nat}{pre:List Row}{y:Row}{rest:List Row}(h:DU P n ops ms fa pre y rest=true)(hc:y.2.aQ=false) :
  ∃o,RowOk P n ops ms fa pre y rest o:=by
 obtain⟨i,x⟩:=y;unfold DU at h
 cases ho:ops[i]? with
 |none=>simp[ho]at h
 |some o=>
  simp only[ho]at h;have key:(CF P n ops o x&&o.after.toList.all (λed=>!Region.binds .any ed || pre.any λz=>!z.2.aQ&&z.1 == ed.on)
    &&ms.getD i 0 == IA ms o 0 o.after.toList&&!(dIn x.dst x.looks)
    &&pre.all (λz=>z.2.aQ || F1 ms fa z (i,x))&&(!flo fa i || x.isFa)
    &&(!x.isE || pre.all (λz=>z.2.aQ || z.2.hf || (ms.getD i 0).testBit z.1 || CX z.1 rest)))=true:=by
   cases x with
   |chk=>simp[Item.aQ]at hc
   |f=>exact h
   |p=>exact h
   |e=>exact h
  simp only[Jj,Jaa,Jad,J3,beq_iff_eq,bne_iff_ne,Jaj]at key;obtain⟨⟨⟨⟨⟨⟨h1,h2⟩,h3⟩,h4⟩,h5⟩,h6⟩,h7⟩:=key;refine⟨o,ho,h1,?_,?_,?_,?_,?_,?_⟩
  ·intro ed uC hb;rcases h2 ed (by simpa using uC)with h|⟨z,hz,h⟩
   ·rw[hb]at h;simp at h
   ·exact⟨z,hz,h.1,h.2⟩
  ·intro j hj;simp only at hj;rw[h3]at hj;rcases Q7g _ _ hj with h|⟨ed,uC,h⟩
   ·simp at h
   ·exact⟨ed,by simpa using uC,h⟩
  ·intro t ht hm;have:=dIn_iff.2 ⟨t,ht,hm⟩;simp only at this;rw[this]at h4;simp at h4
  ·intro z hz cH;rcases h5 z hz with h|h
   ·rw[cH]at h;simp at h
   ·exact Qbb9 h
  ·intro hf;rcases h6 with h|h
   ·exact absurd hf (by rw[h];decide)
   ·exact h
  ·intro hE z hz cH hzh sL;rcases h7 with h|h
   ·simp only at hE;rw[hE]at h;simp at h
   ·rcases h z hz with ((h|h)|h)|h
    ·rw[cH]at h;simp at h
    ·rw[hzh]at h;simp at h
    ·simp only at sL;rw[sL]at h;simp at h
    ·exact h
theorem Qbld {n:Nat}{ops:Array Oper}{ms:List Nat}{fa:Nat}{pre:List Row}{i d:Nat}{gd:Option (Nat×Bool)}{op:FOp}{rest:List Row}(h:DU P n ops ms fa pre (i,.chk d gd op) rest=true) :
  ∃o,ops[i]? = some o/\CF P n ops o (.f (some d) gd op)=true/\(∃z∈pre,z.2.aQ=false/\z.1=i/\z.2.looks=(Item.f (some d) gd op).looks/\z.2.dst=some d/\z.2.hf=false)/\
   ∀z∈pre,z.2.aQ=false->∀t,z.2.dst=some t->t∈(Item.f (some d) gd op).looks->(ms.getD i 0).testBit z.1=true:=by
 unfold DU at h
 cases ho:ops[i]? with
 |none=>simp[ho]at h
 |some o=>
  simp only[ho,Jj,Jaj,Jaa,Jad,J3,beq_iff_eq]at h;obtain⟨⟨h1,z,hz,⟨⟨⟨h2,h3⟩,h4⟩,h5⟩,h6⟩,h7⟩:=h;refine⟨o,rfl,h1,⟨z,hz,h2,h3,h4,h5,h6⟩,?_⟩;intro z hz cH t ht hm;rcases h7 z hz with (h|h)|h
  ·rw[cH]at h;simp at h
  ·have:=dIn_iff.2 ⟨t,ht,hm⟩;change dIn z.2.dst (Item.chk d gd op).looks=true at this;rw[this]at h;simp at h
  ·exact h
abbrev dn (listed:Array Bool)(i:Nat):Prop:=listed.getD i false=true
def Rdy (P:Program)(x:Item)(e:Env)(H:Heap)(v:V):Prop:=
 match x with
 |.f _ gd op=>gdO e gd/\(gdB e gd=true->op.obl (gdB e gd) e H)/\v=gdV gd (gdB e gd) (op.val e H)
 |.p _ gd f xs=>gdO e gd/\∃r,(gdB e gd=true->(∀y∈xs,y.fine (gdB e gd) e)/\Fs P f (xs.map λy=>y.v e) r)/\v=gdV gd (gdB e gd) r
 |_=>False
theorem Rdy.congr {x:Item}{e e':Env}{v:V}(h:∀t∈x.looks,lk t e'=lk t e)(hr:Rdy P x e H v):Rdy P x e' H v:=by
 have h1:=Ru h;have h2:=Ll h
 cases x with
 |f d gd op=>
  simp only[Item.gd]at h2;simp only[Item.opds]at h1;have h3:=FOp.congr (H:=H) (p:=gdB e gd) h1;simp only[Rdy]at hr⊢;rw[h2.1,h2.2,h3.1,h3.2];exact hr
 |p d gd f xs=>
  simp only[Item.gd]at h2;simp only[Item.opds]at h1;simp only[Rdy]at hr⊢;rw[h2.1,h2.2,Q45 h1,Tx h1];exact hr
 |e=>exact hr
 |chk=>exact hr
theorem Rdy.hcongr {x:Item}{e:Env}{H':Heap}{v:V}(h:x.hf=true)(hr:Rdy P x e H v):Rdy P x e H' v:=by
 cases x with
 |f d gd op=>
  have h3:=FOp.hcongr (e:=e) (H:=H) (H':=H') (p:=gdB e gd) (op:=op) h;simp only[Rdy]at hr⊢;rw[h3.1,h3.2];exact hr
 |p d gd f xs=>exact hr
 |e=>exact hr
 |chk=>exact hr
theorem Qb1w {n:Nat}{ops:Array Oper}{i:Nat}{o:Oper}{x:Item}{v:V}{Q:Exit->Act->World->Prop}{next:Act->World->Prop}(sh:ops[i]? = some o)(hm:CF P n ops o x=true)
  (hr:Rdy P x e H v) (hs:Sat H g w) (he:EnvOk w g (trim x.looks e) a)
  (bY:∀u w' g',Stp H g w H g' w'->RepV w' g' v u->next (a.put x.dst u) w') :
  wpOp P ops Q i next a w:=by
 have bf:Rdy P x (trim x.looks e) H v:=hr.congr λt ht=>by rw[FE,if_pos ht]
 unfold wpOp;rw[sh];simp only
 cases x with
 |f d gd op=>
  simp only[CF,Jj]at hm;obtain⟨⟨h1,h2⟩,h3⟩:=hm;obtain⟨dv,eU⟩:=Fd h1;simp only[Rdy]at bf;obtain⟨r1,r2,r3⟩:=bf;rw[Ip (n:=n) h2 he r1];by_cases hg:gdB (trim (Item.f d gd op).looks e) gd=true
  ·rw[if_pos hg];obtain⟨u,w',g',k1,k2,k3,k4⟩:=R8 h3 hs he hg (r2 hg);left;unfold Oper.wp;rw[k1,Oper.upon_value,dv];refine bY u w' g' k2 ?_;rw[r3]
   cases gd with
   |none=>exact k3
   |some tb=>exact .gd _ _ _ (λ_=>k3) (λh=>by rw[hg]at h;simp at h)
  ·rw[if_neg hg];have mA:gdB (trim (Item.f d gd op).looks e) gd=false:=Zak
   rw[dv];refine bY _ _ g (.refl hs) ?_;rw[r3]
   cases gd with
   |none=>simp[gdB]at mA
   |some tb=>exact .gd _ _ _ (λh=>absurd h hg) (λ_=>rfl)
 |p d gd f xs=>
  simp only[CF,Jj]at hm;obtain⟨⟨h1,h2⟩,h3⟩:=hm;obtain⟨dv,eU⟩:=Fd h1;simp only[Rdy]at bf;obtain⟨r1,v0,r2,r3⟩:=bf;rw[Ip (n:=n) h2 he r1];by_cases hg:gdB (trim (Item.p d gd f xs).looks e) gd=true
  ·rw[if_pos hg];obtain⟨s1,s2⟩:=r2 hg;left;refine L8 h3 hs he hg s1 s2 Q next (λy u w' H' g' hk aN dt=>?_) λv w' H' g' hk _=>absurd hk.1.symm (s2.1 v);obtain⟨rfl,rfl⟩:=hk;rw[dv];refine bY _ _ g' aN ?_;rw[r3]
   cases gd with
   |none=>exact dt
   |some tb=>exact .gd _ _ _ (λ_=>dt) (λh=>by rw[hg]at h;simp at h)
  ·rw[if_neg hg];have mA:gdB (trim (Item.p d gd f xs).looks e) gd=false:=Zak
   rw[dv];refine bY _ _ g (.refl hs) ?_;rw[r3]
   cases gd with
   |none=>simp[gdB]at mA
   |some tb=>exact .gd _ _ _ (λh=>absurd h hg) (λ_=>rfl)
 |e=>exact bf.elim
 |chk=>exact bf.elim
theorem Qb00 {n:Nat}{ops:Array Oper}{i:Nat}{o:Oper}{d:Option Nat}{gd:Option (Nat×Bool)}{op:EOp}{K:V->Heap->Prop}{Q:Exit->Act->World->Prop}{next:Act->World->Prop}(sh:ops[i]? = some o)
  (hm:CF P n ops o (.e d gd op)=true) (hs:Sat H g w) (he:EnvOk w g (trim (Item.e d gd op).looks e) a)
  (h1:gdO e gd) (h2:gdB e gd=true->op.eff P (gdB e gd) e H K) (h3:gdB e gd=false->K .unk H)
  (bY:∀x u w' H' g',K x H'->Stp H g w H' g' w'->RepV w' g' x u->next (a.put d u) w') (jC:∀v w' H' g',K (.pn v) H'->Stp H g w H' g' w'->Q (.panic [{ v:=v,recovered:=false }]) a w') :
  wpOp P ops Q i next a w:=by
 have gm:∀t∈(Item.e d gd op).looks,lk t (trim (Item.e d gd op).looks e)=lk t e:=λt ht=>by rw[FE,if_pos ht]
 have c1:=Ru gm;have c2:=Ll gm;simp only[Item.gd]at c2;simp only[Item.opds]at c1;unfold wpOp;rw[sh];simp only;simp only[CF,Jj]at hm;obtain⟨⟨m1,m2⟩,m3⟩:=hm;obtain⟨dv,eU⟩:=Fd m1;rw[Ip (n:=n) m2 he (c2.2.2 h1),c2.1];by_cases hg:gdB e gd=true
 ·rw[if_pos hg];left;refine Ib m3 hs he hg (EOp.congr c1 (h2 hg)) Q next (λx u w' H' g' hk aN dt=>?_) jC;rw[dv];exact bY x u w' H' g' hk aN dt
 ·rw[if_neg hg];rw[dv];exact bY .unk undef w H g (h3 Zak) (.refl hs) (.unk _)
structure Early (g0:G)(H:Heap)(g:G)(w:World)(a:Act)(x:Item):Prop where
 ok:∃(d:Nat) (cells:List C) (l b sz:Nat) (T:TypeId) (cs:Array Value),x=.e (some d) none (.alloc cells)/\g.io l=some (b,sz,0)/\g.own b=some (l,[])/\w.heap[b]? = some (.cells cs T (0,0))/\
  cs.size=cells.length/\(∀(k:Nat) (c:C) (v:Value),cells[k]? = some c->cs[k]? = some v->RepC w g c v)/\H l=.none/\g0.io l=none/\RepV w g (.c (.ptr l 0)) (a.tmps.getD d undef)
theorem Early.mono {g0:G}{x:Item}{H':Heap}{g':G}{w':World}{a':Act}(h:Early g0 H g w a x)(hs:Stp H g w H' g' w')(ha:∀d,x.dst=some d->a'.tmps.getD d undef=a.tmps.getD d undef):Early g0 H' g' w' a' x:=by
 obtain⟨d,cells,l,b,sz,T,cs,h1,h2,h3,h4,h5,h6,h7,h8,h9⟩:=h.ok;obtain⟨k1,k2⟩:=hs.fr l Zab h7;obtain⟨k3,k4⟩:=k2 b [] h3;refine⟨d,cells,l,b,sz,T,cs,h1,hs.le.io _ _ h2,k3,k4.trans h4,h5,λk c v p q=>(h6 k c v p q).mono hs.le,k1,h8,?_⟩;rw[ha d Zbn];exact h9.mono hs.le
theorem Early.ptr {g0:G}{x:Item}(h:Early g0 H g w a x):∃d l b sz,x.dst=some d/\g.io l=some (b,sz,0)/\b<w.heap.size/\H l=.none/\a.tmps.getD d undef=.pointer (some ⟨b,0,none⟩):=by
 obtain⟨d,cells,l,b,sz,T,cs,h1,h2,h3,h4,h5,h6,h7,h8,h9⟩:=h.ok;refine⟨d,l,b,sz,by rw[h1];rfl,h2,(Jm.1 h4).1,h7,?_⟩;have hr:=h9.aO;generalize a.tmps.getD d undef=vv at hr⊢
 cases hr with
 |ptr _ _ b' sz' q h=>
  rw[h2]at h;simp only[Jf,Jai]at h;obtain⟨rfl,rfl,rfl⟩:=h;rfl
theorem Early.other {g0:G}{x:Item}(h:Early g0 H g w a x){l:Nat}{o:Obj}{u:Value}(hr:RepV w g (.c (.ptr l 0)) u)(bd:∀d,x.dst=some d->u≠a.tmps.getD d undef):Early g0 (H.set l o) g w a x:=by
 obtain⟨d,cells,l',b,sz,T,cs,h1,h2,h3,h4,h5,h6,h7,h8,h9⟩:=h.ok;have jI:l'≠l:=λe=>by
  subst e;have k:=h9.aO;have k2:=hr.aO;have hq:=bd d Zbn;generalize a.tmps.getD d undef=vv at k hq
  cases k with
  |ptr _ _ b1 s1 q1 e1=>
   cases k2 with
   |ptr _ _ b2 s2 q2 e2=>
    rw[e1]at e2;simp only[Jf,Jai]at e2;obtain⟨rfl,rfl,rfl⟩:=e2;exact hq rfl
 exact⟨d,cells,l',b,sz,T,cs,h1,h2,h3,h4,h5,h6,by rw[Heap.aj _ _ jI];exact h7,h8,h9⟩
theorem Qblj {n:Nat}{ops:Array Oper}{i:Nat}{o:Oper}{x:Item}{g0:G}{Q:Exit->Act->World->Prop}{next:Act->World->Prop}(sh:ops[i]? = some o)(hm:CF P n ops o x=true)(hf:x.isFa=true)
  (hs:Sat H g w) (h0:∀l y,g0.io l=some y->g.io l=some y) (hn:a.tmps.size=n)
  (bY:∀u w' g',Stp H g w H g' w'->Early g0 H g' w' (a.put x.dst u) x->(∀x',Early g0 H g w a x'->∀d,x'.dst=some d->a.tmps.getD d undef≠u)->next (a.put x.dst u) w') :
  wpOp P ops Q i next a w:=by
 cases x with
 |e d gd op=>
  cases op with
  |alloc cells=>
   cases d with
   |none=>simp[Item.isFa]at hf
   |some d=>
    cases gd with
    |some=>simp[Item.isFa]at hf
    |none=>
     simp only[CF,Jj]at hm;obtain⟨⟨m1,m2⟩,m3⟩:=hm;obtain⟨dv,eU⟩:=Fd m1;have hdn:=eU d dv;simp only[mE]at m3;split at m3
     ·rename_i t b9
      obtain⟨i1,z,z1,z2,z3⟩:=IM m3;obtain⟨l,hl,hH⟩:=hs.newName;have hr:=In (w:=w) (g:=g) z3;have aS:=Gt hs hl cells.length 0 (.cells z.cells t);have aN:=Ff hs hl cells.length 0 (.cells z.cells t) .none (λg' hg=>trivial);rw[Heap.set_self _ _ _ hH]at aN;have hg0:g0.io l=none:=by
       cases hx:g0.io l with
       |none=>rfl
       |some y=>rw[h0 l y hx]at hl;simp at hl
      have hw:Region.wanted o (yielded ops a.tmps)=true:=by
       unfold Region.wanted
       cases bm:o.guard with
       |none=>rfl
       |some jb=>rw[bm]at m2;simp[mG]at m2
      unfold wpOp;rw[sh];simp only;rw[if_pos hw];left;unfold Oper.wp;have cE:(execOp a.eval o).run P w=.ok (.value (.pointer (some ⟨w.heap.size,0,none⟩))) (w.alloc (.cells z.cells t)):=by
       simp[execOp,b9,Instr.alloc,DF z1 z2,newVar,newRow]
      rw[cE,Oper.upon_value,dv];refine bY _ _ _ aN ⟨d,cells,l,w.heap.size,cells.length,t,z.cells,rfl,ZK,ZK,DR _ _,hr.1,λk c v p q=>(hr.2 k c v p q).mono aS,hH,hg0,?_⟩ (λx' gB d' dc hh=>?_)
      ·have:(a.put (Item.e (some d) none (.alloc cells)).dst (.pointer (some ⟨w.heap.size,0,none⟩))).tmps.getD d undef=.pointer (some ⟨w.heap.size,0,none⟩):=by
        simp only[Item.dst,Act.put];rw[Jg,J1 ZB];rfl
       rw[this];exact .c _ _ (.ptr l 0 w.heap.size cells.length 0 ZK)
      ·obtain⟨d1,l1,b1,sz1,p1,p2,p3,p4,p5⟩:=gB.ptr;rw[p1]at dc;obtain rfl:=Jaz dc;rw[p5]at hh;have:=congrArg (λv=>match v with
        |Value.pointer (some a)=>a.block
        |_=>0) hh
       simp only at this;omega
     ·simp at m3
  |_=>cases d <;> (try cases gd) <;> simp[Item.isFa]at hf
 |_=>simp[Item.isFa]at hf
theorem Qbpz {H0:Heap}{g0:G}{w0:World}{x:Item}(aN:Stp H0 g0 w0 H g w)(h:Early g0 H g w a x) :
  ∃d cells l,x=.e (some d) none (.alloc cells)/\H l=.none/\Stp H0 g0 w0 (H.set l (.st cells)) g w/\RepV w g (.c (.ptr l 0)) (a.tmps.getD d undef):=by
 obtain⟨d,cells,l,b,sz,T,cs,h1,h2,h3,h4,h5,h6,h7,h8,h9⟩:=h.ok;refine⟨d,cells,l,h1,h7,⟨aN.le,λm hm hn=>?_,⟨aN.sat.fresh,aN.sat.names,aN.sat.excl,aN.sat.named,λm=>?_⟩⟩,h9⟩
 ·have iZ:m≠l:=λh=>by subst h;exact hm h8
  rw[Heap.aj _ _ iZ];exact aN.fr m hm hn
 ·by_cases iZ:m=l
  ·subst iZ;rw[Heap.aF];exact⟨b,sz,T,cs,h2,h3,h4,h5,λk c v p q=>.plain _ _ _ _ (h6 k c v p q)⟩
  ·have dT:=Heap.aj H (.st cells) iZ;rw[dT,<-dT];refine SatObj.keep aN.sat (.refl _ _) (λb q hb=>⟨hb,rfl⟩) dT λm' v left cur hc v' es hv=>?_;by_cases eT:m'=l
   ·subst eT;rw[Heap.aF]at hv;simp at hv
   ·rw[Heap.aj _ _ eT]at hv;exact .inl ⟨hv,λb q hb=>⟨hb,rfl⟩⟩
structure Fix where
 P:Program
 n:Nat
 ops:Array Oper
 ms:List Nat
 fa:Nat
 L:List Row
 H0:Heap
 g0:G
 w0:World
 KP:Value->Heap->Prop
 K:Env->Heap->Prop
def Fix.anc (F:Fix)(i j:Nat):Prop:=(F.ms.getD i 0).testBit j=true
def Dy (F:Fix)(listed:Array Bool)(pre:List Row)(y:Row)(t:Nat)(z:Row):Prop:=
 z∈pre/\z.2.aQ=false/\¬dn listed z.1/\z.2.dst=some t/\F.anc y.1 z.1
def Pend (F:Fix)(listed:Array Bool)(a:Act)(w:World)(pre:List Row)(e:Env)(H:Heap)(g:G)(y:Row):Prop:=
 ∃(o:Oper) (x:Item) (ei:Env) (v:V),F.ops[y.1]? = some o/\CF F.P F.n F.ops o x=true/\x.dst=y.2.dst/\x.looks=y.2.looks/\(y.2.hf=true->x.hf=true)/\
  Rdy F.P x ei H v/\(∀d,y.2.dst=some d->lk d e=v)/\
  ∀t∈y.2.looks,(∀z,Dy F listed pre y t z->lk t ei=lk t e)/\((¬∃z,Dy F listed pre y t z)->RepV w g (lk t ei) (a.tmps.getD t undef))
structure DInv (F:Fix)(listed:Array Bool)(a:Act)(w:World)(pre post:List Row)(e:Env)(H:Heap)(g:G):Prop where
 split:F.L=pre++post
 rest:Cm F.P (post.map Prod.snd) e H F.KP F.K
 stp:Stp F.H0 F.g0 F.w0 H g w
 size:a.tmps.size=F.n
 defers:a.defers=[]
 lsz:listed.size=F.ops.size
 closed:∀i,dn listed i->∀j,F.anc i j->dn listed j
 eDone:∀y∈pre,y.2.isE=true->dn listed y.1
 postDone:∀y∈post,y.2.aQ=false->dn listed y.1->flo F.fa y.1=true/\Early F.g0 H g w a y.2
 pend:∀y∈pre,y.2.isFl=true->¬dn listed y.1->CX y.1 post=true\/Pend F listed a w pre e H g y
 temps:∀t,(∃y∈pre,y.2.aQ=false/\¬dn listed y.1/\y.2.dst=some t)\/(∃y∈post,y.2.aQ=false/\flo F.fa y.1=true/\dn listed y.1/\y.2.dst=some t)\/RepV w g (lk t e) (a.tmps.getD t undef)
 ne:∀y∈post,∀z∈post,y.2.aQ=false->z.2.aQ=false->dn listed y.1->dn listed z.1->y.1≠z.1->∀d d',y.2.dst=some d->z.2.dst=some d'->a.tmps.getD d undef≠a.tmps.getD d' undef
structure FixOk (F:Fix):Prop where
 rows:EQ F.P F.n F.ops F.ms F.fa [] F.L=true
 all:∀i,i<F.ops.size->∃y∈F.L,y.2.aQ=false/\y.1=i
theorem FixOk.row {F:Fix}(hF:FixOk F){A B:List Row}{y:Row}(h:F.L=A++y::B)(hc:y.2.aQ=false):∃o,RowOk F.P F.n F.ops F.ms F.fa A y B o:=by
 have:=T3 _ _ hF.rows A y B h;exact Qbmr this hc
def DB (F:Fix)(x y:Row):Prop:=∃A B,F.L=A++y::B/\x∈A
theorem FixOk.pair {F:Fix}(hF:FixOk F){x y:Row}(h:DB F x y)(hx:x.2.aQ=false)(hy:y.2.aQ=false):PairOk F.ms F.fa x y:=by
 obtain⟨A,B,h1,h2⟩:=h;obtain⟨o,ho⟩:=hF.row h1 hy;exact ho.pair x h2 hx
theorem D4 {F:Fix}{pre post:List Row}(h:F.L=pre++post){x y:Row}(hx:x∈pre)(hy:y∈post):DB F x y:=by
 obtain⟨s,t,rfl⟩:=J0 hy;exact⟨pre++s,t,by rw[h];simp,Zbj⟩
theorem Gz {F:Fix}{pre post:List Row}{y x:Row}(h:F.L=pre++y::post)(hx:x∈post):DB F y x:=
 D4 (pre:=pre++[y]) ZL ZD hx
theorem Q46 {F:Fix}{x y:Row}(hx:x∈F.L)(hy:y∈F.L):x=y\/DB F x y\/DB F y x:=by
 obtain⟨s,t,h⟩:=J0 hx;have:y∈s++x::t:=h▸hy;rcases Jb.1 this with k|k
 ·exact .inr (.inr ⟨s,t,h,k⟩)
 ·rcases Ji.1 k with k|k
  ·exact .inl k.symm
  ·exact .inr (.inl (Gz h k))
theorem FixOk.inj {F:Fix}(hF:FixOk F){x y:Row}(hx:x∈F.L)(hy:y∈F.L)(pQ:x.2.aQ=false)(bS:y.2.aQ=false)(h:x.1=y.1):x=y:=by
 rcases Q46 hx hy with k|k|k
 ·exact k
 ·exact absurd h (hF.pair k pQ bS).ne
 ·exact absurd h.symm (hF.pair k bS pQ).ne
theorem FixOk.injDst {F:Fix}(hF:FixOk F){x y:Row}(hx:x∈F.L)(hy:y∈F.L)(pQ:x.2.aQ=false)(bS:y.2.aQ=false){t:Nat}(h1:x.2.dst=some t)(h2:y.2.dst=some t):x=y:=by
 rcases Q46 hx hy with k|k|k
 ·exact k
 ·exact absurd h2 ((hF.pair k pQ bS).dst t h1)
 ·exact absurd h1 ((hF.pair k bS pQ).dst t h2)
theorem Gp {x:Item}(h:x.isFl=true):x.aQ=false/\x.isE=false:=by
 cases x <;> simp_all[Item.isFl,Item.aQ,Item.isE]
theorem ER {x:Item}(h:x.isE=true):x.aQ=false/\x.isFl=false:=by
 cases x <;> simp_all[Item.isFl,Item.aQ,Item.isE]
theorem IQ {j:Nat}{y:Row}{r:List Row}(h:CX j (y::r)=true):y.2.aQ=true/\(y.1=j\/CX j r=true):=by
 simpa[CX]using h
theorem DInv.passFl {F:Fix}(hF:FixOk F){listed:Array Bool}{pre r:List Row}{y:Row}(hI:DInv F listed a w pre (y::r) e H g)(hy:y.2.isFl=true)(v:V)(hr:Rdy F.P y.2 e H v)
  (bX:Cm F.P (r.map Prod.snd) (Cz y.2.dst v e) H F.KP F.K) (dh:¬dn listed y.1):DInv F listed a w (pre++[y]) r (Cz y.2.dst v e) H g:=by
 obtain⟨bS,As⟩:=Gp hy;obtain⟨o,ho⟩:=hF.row hI.split bS;have hL:y∈F.L:=Za5
 have iv:∀z∈pre,z∈F.L:=λz hz=>ZY
 have fu:∀z∈r,z∈F.L:=λz hz=>ZY
 have gm:∀t,y.2.dst≠some t->lk t (Cz y.2.dst v e)=lk t e:=by
  intro t ht
  cases hd:y.2.dst with
  |none=>rfl
  |some d=>
   simp only[Cz,lk];rw[if_neg];intro h;subst h;exact ht hd
 have yy:∀t,y.2.dst=some t->lk t (Cz y.2.dst v e)=v:=by
  intro t ht;rw[ht];simp[Cz,lk]
 refine⟨by rw[hI.split];simp,bX,hI.stp,hI.size,hI.defers,hI.lsz,hI.closed,?_,?_,?_,?_,λy' eX z' dx=>hI.ne y' (by simp[eX]) z' (by simp[dx])⟩
 ·intro z hz jP;rcases Jb.1 hz with k|k
  ·exact hI.eDone z k jP
  ·simp at k;subst k;rw[As]at jP;simp at jP
 ·exact λz hz=>hI.postDone z Za4
 ·intro z hz eW iD;obtain⟨cH,sM⟩:=Gp eW;right;rcases Jb.1 hz with k|k
  ·rcases hI.pend z k eW iD with h|h
   ·have:=(IQ h).1;rw[bS]at this;simp at this
   ·obtain⟨o',x,ei,u,p1,p2,p3,p4,p5,p6,p7,p8⟩:=h;refine⟨o',x,ei,u,p1,p2,p3,p4,p5,p6,?_,?_⟩
    ·intro d hd;rw[gm d λh=>(hF.pair (D4 hI.split k ZD) cH bS).dst d hd h];exact p7 d hd
    ·intro t ht;obtain⟨q1,q2⟩:=p8 t ht;have hb:∀z',Dy F listed (pre++[y]) z t z'->Dy F listed pre z t z':=by
      rintro z' ⟨b1,b2,b3,b4,b5⟩;refine⟨?_,b2,b3,b4,b5⟩;rcases Jb.1 b1 with b|b
      ·exact b
      ·simp at b;subst b;have:=(hF.pair (D4 hI.split k ZD) cH bS).top;rw[Fix.anc,this]at b5;simp at b5
     refine⟨?_,?_⟩
     ·intro z' dx;have hz'':=hb z' dx;rw[q1 z' hz'',gm];intro h;exact (hF.pair (D4 hI.split hz''.1 ZD) hz''.2.1 bS).dst t hz''.2.2.2.1 h
     ·intro bD;refine q2 λ⟨z',b1,b2⟩=>bD ⟨z',?_,b2⟩;simp[b1]
  ·simp at k;subst k;refine⟨o,z.2,e,v,ho.op,ho.item,rfl,rfl,id,hr,yy,?_⟩;intro t ht;have oR:z.2.dst≠some t:=λh=>ho.self t h ht;refine⟨?_,?_⟩
   ·intro z' dx;rw[gm t oR]
   ·intro bD;rcases hI.temps t with ⟨y',k1,k2,k3,k4⟩|⟨y',k1,k2,k3,k4,k5⟩|k
    ·exact absurd ⟨y',ZaF,k2,k3,k4,(hF.pair (D4 hI.split k1 ZD) k2 cH).raw t k4 ht⟩ bD
    ·exfalso;rcases Ji.1 k1 with h|h
     ·subst h;exact oR k5
     ·have:=(hF.pair (Gz hI.split h) cH k2).war t k5 ht;exact dh (hI.closed _ k4 _ this)
    ·exact k
 ·intro t;by_cases ht:y.2.dst=some t
  ·exact .inl ⟨y,ZD,bS,dh,ht⟩
  ·rw[gm t ht];rcases hI.temps t with ⟨y',k1,k2,k3,k4⟩|⟨y',k1,k2,k3,k4,k5⟩|k
   ·exact .inl ⟨y',ZaF,k2,k3,k4⟩
   ·rcases Ji.1 k1 with h|h
    ·subst h;exact absurd k5 ht
    ·exact .inr (.inl ⟨y',h,k2,k3,k4,k5⟩)
   ·exact .inr (.inr k)
theorem DInv.passChk {F:Fix}(hF:FixOk F){listed:Array Bool}{pre r:List Row}{j d:Nat}{gd:Option (Nat×Bool)}{op:FOp}(hI:DInv F listed a w pre ((j,.chk d gd op)::r) e H g) :
  DInv F listed a w (pre++[(j,.chk d gd op)]) r e H g:=by
 have aC:=T3 _ _ hF.rows pre _ _ hI.split;obtain⟨o,c1,c2,⟨y0,c3,c4,c5,c6,c7,c8⟩,c9⟩:=Qbld aC;have bX:=hI.rest;simp only[Jq,Cm]at bX;obtain⟨⟨r1,r2,r3⟩,r4⟩:=bX;have iv:∀z∈pre,z∈F.L:=λz hz=>ZY
 have jz:∀z t z',Dy F listed (pre++[(j,.chk d gd op)]) z t z'↔Dy F listed pre z t z':=by
  intro z t z';constructor
  ·rintro⟨b1,b2⟩;refine⟨?_,b2⟩;rcases Jb.1 b1 with b|b
   ·exact b
   ·simp at b;subst b;simp[Item.aQ]at b2
  ·rintro⟨b1,b2⟩;exact⟨by simp[b1],b2⟩
 refine⟨by rw[hI.split];simp,r4,hI.stp,hI.size,hI.defers,hI.lsz,hI.closed,?_,?_,?_,?_,λy' eX z' dx=>hI.ne y' (by simp[eX]) z' (by simp[dx])⟩
 ·intro z hz jP;rcases Jb.1 hz with k|k
  ·exact hI.eDone z k jP
  ·simp at k;subst k;simp[Item.isE]at jP
 ·exact λz hz=>hI.postDone z Za4
 ·intro z hz eW iD;obtain⟨cH,sM⟩:=Gp eW;have k:z∈pre:=by
   rcases Jb.1 hz with k|k
   ·exact k
   ·simp at k;subst k;simp[Item.aQ]at cH
  have jF:Pend F listed a w pre e H g z->Pend F listed a w (pre++[(j,.chk d gd op)]) e H g z:=by
   rintro⟨o',x,ei,u,p1,p2,p3,p4,p5,p6,p7,p8⟩;refine⟨o',x,ei,u,p1,p2,p3,p4,p5,p6,p7,λt ht=>?_⟩;simp only[jz];exact p8 t ht
  rcases hI.pend z k eW iD with h|h
  ·rcases (IQ h).2 with h'|h'
   ·right;simp only at h';have rQ:z=y0:=hF.inj (iv _ k) (iv _ c3) cH c4 (by rw[c5,<-h']);subst rQ;refine⟨o,.f (some d) gd op,e,gdV gd (gdB e gd) (op.val e H),by rw[c5];exact c1,c2,by rw[c7];rfl,c6.symm,λh=>by rw[c8]at h;simp at h,⟨r1,r2,rfl⟩,?_,?_⟩
    ·intro d' dc;rw[c7]at dc;simp at dc;subst dc;exact r3
    ·intro t ht;simp only[jz];refine⟨λ_ _=>trivial,λbD=>?_⟩;rcases hI.temps t with ⟨y',k1,k2,k3,k4⟩|⟨y',k1,k2,k3,k4,k5⟩|k'
     ·exfalso;refine bD ⟨y',k1,k2,k3,k4,?_⟩;have:=c9 y' k1 k2 t k4 (by rw[<-c6];exact ht);rw[Fix.anc,c5];exact this
     ·exfalso;rcases Ji.1 k1 with h|h
      ·subst h;simp[Item.aQ]at k2
      ·have:=(hF.pair (D4 (pre:=pre++[(j,.chk d gd op)]) Za5 (by simp[k]) h) cH k2).war t k5 ht;exact iD (hI.closed _ k4 _ this)
     ·exact k'
   ·exact .inl h'
  ·exact .inr (jF h)
 ·intro t;rcases hI.temps t with ⟨y',k1,k2,k3,k4⟩|⟨y',k1,k2,k3,k4,k5⟩|k
  ·exact .inl ⟨y',ZaF,k2,k3,k4⟩
  ·rcases Ji.1 k1 with h|h
   ·subst h;simp[Item.aQ]at k2
   ·exact .inr (.inl ⟨y',h,k2,k3,k4,k5⟩)
  ·exact .inr (.inr k)
theorem Iz {d:Option Nat}{v:V}{e:Env}{t:Nat}(h:d≠some t):lk t (Cz d v e)=lk t e:=by
 cases d with
 |none=>rfl
 |some s=>
  simp only[Cz,lk];rw[if_neg];intro k;subst k;exact h rfl
theorem MN {d:Option Nat}{v:V}{e:Env}{t:Nat}(h:d=some t):lk t (Cz d v e)=v:=by
 subst h;simp[Cz,lk]
theorem Dz {a:Act}{d:Option Nat}{u:Value}{t:Nat}(h:d≠some t):(a.put d u).tmps.getD t undef=a.tmps.getD t undef:=by
 cases d with
 |none=>rfl
 |some s=>
  have:s≠t:=λk=>by subst k;exact h rfl
  simp only[Act.put];rw[Jg,Array.getElem?_setIfInBounds_ne this,<-Jg]
theorem F5 {a:Act}{d:Option Nat}{u:Value}{t:Nat}(h:d=some t)(ht:t<a.tmps.size):(a.put d u).tmps.getD t undef=u:=by
 subst h;simp only[Act.put];rw[Jg,J1 ht];rfl
theorem Cx {listed:Array Bool}{i j:Nat}(hi:i<listed.size):dn (listed.setIfInBounds i true) j↔j=i\/dn listed j:=by
 by_cases h:j=i
 ·subst h;simp[dn,hi]
 ·simp only[dn,getD_set_ne false (Jat h),h,false_or]
theorem Tt {n:Nat}{ops:Array Oper}{o:Oper}{x:Item}(h:CF P n ops o x=true):∀t,x.dst=some t->t<n:=by
 intro t ht;cases x <;> simp only[CF,Jj]at h
 case f d gd op=>obtain⟨h1,h2⟩:=Fd h.1.1;simp only[Item.dst]at ht;exact h2 t (h1.trans ht)
 case p d gd f xs=>obtain⟨h1,h2⟩:=Fd h.1.1;simp only[Item.dst]at ht;exact h2 t (h1.trans ht)
 case e d gd op=>obtain⟨h1,h2⟩:=Fd h.1.1;simp only[Item.dst]at ht;exact h2 t (h1.trans ht)
 case chk=>simp at h
theorem DInv.passE {F:Fix}(hF:FixOk F){listed:Array Bool}{pre r:List Row}{y:Row}(hI:DInv F listed a w pre (y::r) e H g)(hy:y.2.isE=true)(kR:¬dn listed y.1)(pO:¬flo F.fa y.1=true)
  (eC:∀j,F.anc y.1 j->dn listed j) {v:V} {u:Value} {w':World} {H':Heap} {g':G}
  (bX:Cm F.P (r.map Prod.snd) (Cz y.2.dst v e) H' F.KP F.K) (aN:Stp H g w H' g' w') (hv:RepV w' g' v u) :
  DInv F (listed.setIfInBounds y.1 true) (a.put y.2.dst u) w' (pre++[y]) r (Cz y.2.dst v e) H' g':=by
 obtain⟨bS,kS⟩:=ER hy;obtain⟨o,ho⟩:=hF.row hI.split bS;have af:y.1<listed.size:=Zaz
 have iv:∀z∈pre,z∈F.L:=λz hz=>ZY
 have o0:∀z∈pre,DB F z y:=λz hz=>D4 hI.split hz ZD;refine⟨by rw[hI.split];simp,bX,hI.stp.trans aN,by rw[(Dg _ _ _).1];exact hI.size,by rw[(Dg _ _ _).2];exact hI.defers,by simp[hI.lsz],?_,?_,?_,?_,?_,?_⟩
 ·intro i hi j hj;rw[Cx af]at hi⊢;rcases hi with rfl|hi
  ·exact .inr (eC j hj)
  ·exact .inr (hI.closed i hi j hj)
 ·intro z hz jP;rw[Cx af];rcases Jb.1 hz with k|k
  ·exact .inr (hI.eDone z k jP)
  ·simp at k;subst k;exact .inl rfl
 ·intro z hz cH fA;have pK:=hF.pair (Gz hI.split hz) bS cH;rw[Cx af]at fA;obtain⟨k1,k2⟩:=hI.postDone z Za4 cH (fA.resolve_left (Jat pK.ne));exact⟨k1,k2.mono aN λd hd=>Dz λh=>pK.dst d h hd⟩
 ·intro z hz eW iD;obtain⟨cH,sM⟩:=Gp eW;rw[Cx af]at iD;have ig:¬dn listed z.1:=λh=>iD (.inr h);have k:z∈pre:=by
   rcases Jb.1 hz with k|k
   ·exact k
   ·simp at k;subst k;rw[kS]at eW;simp at eW
  have hp:=hF.pair (o0 z k) cH bS;by_cases hh:z.2.hf=true
  ·right;rcases hI.pend z k eW ig with h|h
   ·have:=(IQ h).1;rw[bS]at this;simp at this
   ·obtain⟨o',x,ei,u',p1,p2,p3,p4,p5,p6,p7,p8⟩:=h;refine⟨o',x,ei,u',p1,p2,p3,p4,p5,p6.hcongr (p5 hh),?_,?_⟩
    ·intro d hd;rw[Iz λh=>hp.dst d hd h];exact p7 d hd
    ·intro t ht;obtain⟨q1,q2⟩:=p8 t ht;have iQ:y.2.dst≠some t:=λh=>by
      have:=hp.war t h ht;exact ig (eC _ this)
     have hb:∀z',Dy F (listed.setIfInBounds y.1 true) (pre++[y]) z t z'↔Dy F listed pre z t z':=by
      intro z';constructor
      ·rintro⟨b1,b2,b3,b4,b5⟩;rw[Cx af]at b3;refine⟨?_,b2,λh=>b3 (.inr h),b4,b5⟩;rcases Jb.1 b1 with b|b
       ·exact b
       ·simp at b;subst b;exact absurd b4 iQ
      ·rintro⟨b1,b2,b3,b4,b5⟩;refine⟨by simp[b1],b2,?_,b4,b5⟩;rw[Cx af];rintro (h|h)
       ·exact (hF.pair (o0 z' b1) b2 bS).ne h
       ·exact b3 h
     simp only[hb,Iz iQ,Dz iQ];exact⟨q1,λh=>(q2 h).mono aN.le⟩
  ·left;have:=ho.cover hy z k cH (by simpa using hh);refine this ?_
   cases hx:(F.ms.getD y.1 0).testBit z.1 with
   |false=>rfl
   |true=>exact absurd (eC _ hx) ig
 ·intro t;by_cases ht:y.2.dst=some t
  ·right;right;rw[MN ht,F5 ht ZaR];exact hv
  ·rw[Iz ht,Dz ht];rcases hI.temps t with ⟨y',k1,k2,k3,k4⟩|⟨y',k1,k2,k3,k4,k5⟩|k
   ·refine .inl ⟨y',ZaF,k2,?_,k4⟩;rw[Cx af];rintro (h|h)
    ·exact (hF.pair (o0 y' k1) k2 bS).ne h
    ·exact k3 h
   ·rcases Ji.1 k1 with h|h
    ·subst h;exact absurd k3 pO
    ·exact .inr (.inl ⟨y',h,k2,k3,(Cx af).2 (.inr k4),k5⟩)
   ·exact .inr (.inr (k.mono aN.le))
 ·intro y' eX z' dx gy fg j4 fA bd d d' hd dc;have p1:=hF.pair (Gz hI.split eX) bS gy;have p2:=hF.pair (Gz hI.split dx) bS fg;rw[Cx af]at j4 fA;rw[Dz λh=>p1.dst d h hd,Dz λh=>p2.dst d' h dc];exact hI.ne y' (by simp[eX]) z' (by simp[dx]) gy fg (j4.resolve_left (Jat p1.ne)) (fA.resolve_left (Jat p2.ne)) bd d d' hd dc
theorem DInv.passFa {F:Fix}(hF:FixOk F){listed:Array Bool}{pre r:List Row}{y:Row}(hI:DInv F listed a w pre (y::r) e H g)(bS:y.2.aQ=false)(kR:dn listed y.1) :
  ∃e' H',DInv F listed a w (pre++[y]) r e' H' g:=by
 obtain⟨pO,pA⟩:=hI.postDone y ZD bS kR;obtain⟨d,cells,l,h1,h2,h3,h4⟩:=Qbpz hI.stp pA;obtain⟨d0,ES,l0,b0,sz0,T0,cs0,e1,e2,e3,e4,e5,e6,e7,e8,e9⟩:=pA.ok;obtain⟨o,ho⟩:=hF.row hI.split bS;have hy:y.2.isE=true:=Zbn
 have kS:=(ER hy).2;have j4:y.2.dst=some d:=Zbn
 have o0:∀z∈pre,DB F z y:=λz hz=>D4 hI.split hz ZD;have bX:=hI.rest;simp only[Jq,h1,Cm,gdO,gdB,true_and,EOp.eff]at bX;have qx:=bX.1 trivial l h2;refine⟨Cz (some d) (Up l) e,H.set l (.st cells),?_⟩;refine⟨by rw[hI.split];simp,qx,h3,hI.size,hI.defers,hI.lsz,hI.closed,?_,?_,?_,?_,λy' eX z' dx=>hI.ne y' (by simp[eX]) z' (by simp[dx])⟩
 ·intro z hz jP;rcases Jb.1 hz with k|k
  ·exact hI.eDone z k jP
  ·simp at k;subst k;exact kR
 ·intro z hz cH fA;obtain⟨k1,k2⟩:=hI.postDone z Za4 cH fA;refine⟨k1,k2.other h4 λd' dc=>?_⟩;exact hI.ne y ZD z Za4 bS cH kR fA (hF.pair (Gz hI.split hz) bS cH).ne d d' j4 dc
 ·intro z hz eW iD;obtain⟨cH,sM⟩:=Gp eW;have k:z∈pre:=by
   rcases Jb.1 hz with k|k
   ·exact k
   ·simp at k;subst k;rw[kS]at eW;simp at eW
  have hp:=hF.pair (o0 z k) cH bS;by_cases hh:z.2.hf=true
  ·right;rcases hI.pend z k eW iD with h|h
   ·have:=(IQ h).1;rw[bS]at this;simp at this
   ·obtain⟨o',x,ei,u',p1,p2,p3,p4,p5,p6,p7,p8⟩:=h;refine⟨o',x,ei,u',p1,p2,p3,p4,p5,p6.hcongr (p5 hh),?_,?_⟩
    ·intro d' dc;rw[Iz λh=>hp.dst d' dc (by rw[j4];exact h)];exact p7 d' dc
    ·intro t ht;obtain⟨q1,q2⟩:=p8 t ht;have iQ:some d≠some t:=λh=>by
      have:=hp.war t (by rw[j4];exact h) ht;exact iD (hI.closed _ kR _ this)
     have hb:∀z',Dy F listed (pre++[y]) z t z'↔Dy F listed pre z t z':=by
      intro z';constructor
      ·rintro⟨b1,b2,b3,b4,b5⟩;refine⟨?_,b2,b3,b4,b5⟩;rcases Jb.1 b1 with b|b
       ·exact b
       ·simp at b;subst b;rw[j4]at b4;exact absurd b4 iQ
      ·rintro⟨b1,b2⟩;exact⟨by simp[b1],b2⟩
     simp only[hb,Iz iQ];exact⟨q1,q2⟩
  ·left;refine ho.cover hy z k cH (by simpa using hh) ?_
   cases hx:(F.ms.getD y.1 0).testBit z.1 with
   |false=>rfl
   |true=>exact absurd (hI.closed _ kR _ hx) iD
 ·intro t;by_cases ht:some d=some t
  ·right;right;rw[MN ht];simp at ht;subst ht;exact h4
  ·rw[Iz ht];rcases hI.temps t with ⟨y',k1,k2,k3,k4⟩|⟨y',k1,k2,k3,k4,k5⟩|k
   ·exact .inl ⟨y',ZaF,k2,k3,k4⟩
   ·rcases Ji.1 k1 with h|h
    ·subst h;rw[j4]at k5;exact absurd k5 ht
    ·exact .inr (.inl ⟨y',h,k2,k3,k4,k5⟩)
   ·exact .inr (.inr k)
theorem DInv.doneFl {F:Fix}(hF:FixOk F){listed:Array Bool}{pre post:List Row}{y:Row}(hI:DInv F listed a w pre post e H g)(gu:y∈pre)(hy:y.2.isFl=true)(kR:¬dn listed y.1)
  (eC:∀j,F.anc y.1 j->dn listed j) {v:V} {u:Value} {w':World} {g':G} (rW:∀d,y.2.dst=some d->lk d e=v)
  (aN:Stp H g w H g' w') (hv:RepV w' g' v u) :
  DInv F (listed.setIfInBounds y.1 true) (a.put y.2.dst u) w' pre post e H g':=by
 obtain⟨bS,As⟩:=Gp hy;have jr:y∈F.L:=by rw[hI.split];simp[gu]
 obtain⟨A,B,ny⟩:=J0 jr;obtain⟨o,ho⟩:=hF.row ny bS;have af:y.1<listed.size:=Zaz
 have iv:∀z∈pre,z∈F.L:=λz hz=>ZY
 refine⟨hI.split,hI.rest,hI.stp.trans aN,by rw[(Dg _ _ _).1];exact hI.size,by rw[(Dg _ _ _).2];exact hI.defers,by simp[hI.lsz],?_,?_,?_,?_,?_,?_⟩
 ·intro i hi j hj;rw[Cx af]at hi⊢;rcases hi with rfl|hi
  ·exact .inr (eC j hj)
  ·exact .inr (hI.closed i hi j hj)
 ·intro z hz jP;rw[Cx af];exact .inr (hI.eDone z hz jP)
 ·intro z hz cH fA;have pK:=hF.pair (D4 hI.split gu hz) bS cH;rw[Cx af]at fA;obtain⟨k1,k2⟩:=hI.postDone z hz cH (fA.resolve_left (Jat pK.ne));exact⟨k1,k2.mono aN λd hd=>Dz λh=>pK.dst d h hd⟩
 ·intro z hz eW iD;obtain⟨cH,sM⟩:=Gp eW;rw[Cx af]at iD;have ig:¬dn listed z.1:=λh=>iD (.inr h);have pK:z≠y:=λh=>iD (.inl (by rw[h]));rcases hI.pend z hz eW ig with h|h
  ·exact .inl h
  ·right;obtain⟨o',x,ei,u',p1,p2,p3,p4,p5,p6,p7,p8⟩:=h;refine⟨o',x,ei,u',p1,p2,p3,p4,p5,p6,p7,?_⟩;intro t ht;obtain⟨q1,q2⟩:=p8 t ht;have hb:∀z',Dy F (listed.setIfInBounds y.1 true) pre z t z'->Dy F listed pre z t z':=by
    rintro z' ⟨b1,b2,b3,b4,b5⟩;rw[Cx af]at b3;exact⟨b1,b2,λh=>b3 (.inr h),b4,b5⟩
   refine⟨λz' dx=>q1 z' (hb z' dx),λbD=>?_⟩;by_cases iQ:y.2.dst=some t
   ·have jz:Dy F listed pre z t y:=by
     refine⟨gu,bS,kR,iQ,?_⟩;rcases Q46 jr (iv z hz)with k|k|k
     ·exact absurd k.symm pK
     ·exact (hF.pair k bS cH).raw t iQ ht
     ·exact absurd (eC _ ((hF.pair k cH bS).war t iQ ht)) ig
    rw[q1 y jz,rW t iQ,F5 iQ (by rw[hI.size];exact Tt ho.item t iQ)];exact hv
   ·rw[Dz iQ];refine (q2 λ⟨z',b⟩=>bD ⟨z',?_⟩).mono aN.le;obtain⟨b1,b2,b3,b4,b5⟩:=b;refine⟨b1,b2,?_,b4,b5⟩;rw[Cx af];rintro (h|h)
    ·have:=hF.inj (iv _ b1) jr b2 bS h;subst this;exact iQ b4
    ·exact b3 h
 ·intro t;by_cases ht:y.2.dst=some t
  ·right;right;rw[rW t ht,F5 ht ZaR];exact hv
  ·rw[Dz ht];rcases hI.temps t with ⟨y',k1,k2,k3,k4⟩|⟨y',k1,k2,k3,k4,k5⟩|k
   ·refine .inl ⟨y',k1,k2,?_,k4⟩;rw[Cx af];rintro (h|h)
    ·have:=hF.inj (iv _ k1) jr k2 bS h;subst this;exact ht k4
    ·exact k3 h
   ·exact .inr (.inl ⟨y',k1,k2,k3,(Cx af).2 (.inr k4),k5⟩)
   ·exact .inr (.inr (k.mono aN.le))
 ·intro y' eX z' dx gy fg j4 fA bd d d' hd dc;have p1:=hF.pair (D4 hI.split gu eX) bS gy;have p2:=hF.pair (D4 hI.split gu dx) bS fg;rw[Cx af]at j4 fA;rw[Dz λh=>p1.dst d h hd,Dz λh=>p2.dst d' h dc];exact hI.ne y' eX z' dx gy fg (j4.resolve_left (Jat p1.ne)) (fA.resolve_left (Jat p2.ne)) bd d d' hd dc
theorem DInv.doneFa {F:Fix}(hF:FixOk F){listed:Array Bool}{pre post:List Row}{y:Row}(hI:DInv F listed a w pre post e H g)(gu:y∈post)(bS:y.2.aQ=false)(pO:flo F.fa y.1=true)(kR:¬dn listed y.1)
  (eC:∀j,F.anc y.1 j->dn listed j) {u:Value} {w':World} {g':G}
  (aN:Stp H g w H g' w') (hv:Early F.g0 H g' w' (a.put y.2.dst u) y.2) (eL:∀x',Early F.g0 H g w a x'->∀d,x'.dst=some d->a.tmps.getD d undef≠u) :
  DInv F (listed.setIfInBounds y.1 true) (a.put y.2.dst u) w' pre post e H g':=by
 have jr:y∈F.L:=by rw[hI.split];simp[gu]
 obtain⟨A,B,ny⟩:=J0 jr;obtain⟨o,ho⟩:=hF.row ny bS;have af:y.1<listed.size:=Zaz
 have iv:∀z∈pre,z∈F.L:=λz hz=>ZY
 have fu:∀z∈post,z∈F.L:=λz hz=>ZY
 refine⟨hI.split,hI.rest,hI.stp.trans aN,by rw[(Dg _ _ _).1];exact hI.size,by rw[(Dg _ _ _).2];exact hI.defers,by simp[hI.lsz],?_,?_,?_,?_,?_,?_⟩
 ·intro i hi j hj;rw[Cx af]at hi⊢;rcases hi with rfl|hi
  ·exact .inr (eC j hj)
  ·exact .inr (hI.closed i hi j hj)
 ·intro z hz jP;rw[Cx af];exact .inr (hI.eDone z hz jP)
 ·intro z hz cH fA;rw[Cx af]at fA;rcases fA with h|h
  ·have:=hF.inj (fu _ hz) jr cH bS h;subst this;exact⟨pO,hv⟩
  ·obtain⟨k1,k2⟩:=hI.postDone z hz cH h;refine⟨k1,k2.mono aN λd hd=>Dz λhh=>?_⟩;have:=hF.injDst (fu _ hz) jr cH bS hd hh;subst this;exact kR h
 ·intro z hz eW iD;obtain⟨cH,sM⟩:=Gp eW;rw[Cx af]at iD;have ig:¬dn listed z.1:=λh=>iD (.inr h);rcases hI.pend z hz eW ig with h|h
  ·exact .inl h
  ·right;obtain⟨o',x,ei,u',p1,p2,p3,p4,p5,p6,p7,p8⟩:=h;refine⟨o',x,ei,u',p1,p2,p3,p4,p5,p6,p7,?_⟩;intro t ht;obtain⟨q1,q2⟩:=p8 t ht;have iQ:y.2.dst≠some t:=λh=>by
    have:=(hF.pair (D4 hI.split hz gu) cH bS).war t h ht;exact ig (eC _ this)
   have hb:∀z',Dy F (listed.setIfInBounds y.1 true) pre z t z'↔Dy F listed pre z t z':=by
    intro z';constructor
    ·rintro⟨b1,b2,b3,b4,b5⟩;rw[Cx af]at b3;exact⟨b1,b2,λh=>b3 (.inr h),b4,b5⟩
    ·rintro⟨b1,b2,b3,b4,b5⟩;refine⟨b1,b2,?_,b4,b5⟩;rw[Cx af];rintro (h|h)
     ·exact (hF.pair (D4 hI.split b1 gu) b2 bS).ne h
     ·exact b3 h
   simp only[hb,Dz iQ];exact⟨q1,λh=>(q2 h).mono aN.le⟩
 ·intro t;by_cases ht:y.2.dst=some t
  ·exact .inr (.inl ⟨y,gu,bS,pO,(Cx af).2 (.inl rfl),ht⟩)
  ·rw[Dz ht];rcases hI.temps t with ⟨y',k1,k2,k3,k4⟩|⟨y',k1,k2,k3,k4,k5⟩|k
   ·refine .inl ⟨y',k1,k2,?_,k4⟩;rw[Cx af];rintro (h|h)
    ·exact (hF.pair (D4 hI.split k1 gu) k2 bS).ne h
    ·exact k3 h
   ·exact .inr (.inl ⟨y',k1,k2,k3,(Cx af).2 (.inr k4),k5⟩)
   ·exact .inr (.inr (k.mono aN.le))
 ·have po:∀z'∈post,z'.2.aQ=false->dn listed z'.1->z'.1≠y.1->∀d d',y.2.dst=some d->z'.2.dst=some d'->(a.put y.2.dst u).tmps.getD d undef≠(a.put y.2.dst u).tmps.getD d' undef:=by
   intro z' dx fg fA bd d d' hd dc;obtain⟨_,k2⟩:=hI.postDone z' dx fg fA;rw[F5 hd (by rw[hI.size];exact Tt ho.item d hd),Dz λh=>bd ZaJ];exact λh=>eL _ k2 d' dc h.symm
  intro y' eX z' dx gy fg j4 fA bd d d' hd dc;rw[Cx af]at j4 fA;by_cases h1:y'.1=y.1
  ·have:=hF.inj (fu _ eX) jr gy bS h1;subst this;exact po z' dx fg (fA.resolve_left λh=>bd h.symm) (λh=>bd h.symm) d d' hd dc
  ·by_cases h2:z'.1=y.1
   ·have:=hF.inj (fu _ dx) jr fg bS h2;subst this;exact (po y' eX gy (j4.resolve_left h1) h1 d' d dc hd).symm
   ·rw[Dz λh=>h1 (by rw[hF.injDst (fu _ eX) jr gy bS hd h]),Dz λh=>h2 ZaJ];exact hI.ne y' eX z' dx gy fg (j4.resolve_left h1) (fA.resolve_left h2) bd d d' hd dc
def Hr (listed:Array Bool)(post:List Row):Prop:=post=[]\/∃y r,post=y::r/\y.2.isE=true/\¬dn listed y.1
theorem IB {F:Fix}(hF:FixOk F){listed:Array Bool}:∀(post pre:List Row) (e:Env) (H:Heap),DInv F listed a w pre post e H g->
  ∃pre' post' e' H',DInv F listed a w pre' post' e' H' g/\Hr listed post'
 |[],pre,e,H,hI=>⟨pre,[],e,H,hI,.inl rfl⟩
 |(i,x)::r,pre,e,H,hI=>by
  have AI:x.isE=false->x.aQ=false->¬dn listed i:=by
   intro hx hc hd;obtain⟨_,pA⟩:=hI.postDone (i,x) ZD hc hd;obtain⟨d,cells,l,b,sz,T,cs,h1,_⟩:=pA.ok;simp only at h1;rw[h1]at hx;simp[Item.isE]at hx
  have bX:=hI.rest
  cases x with
  |chk d gd op=>exact IB hF r _ e H (hI.passChk hF)
  |f d gd op=>
   simp only[Jq,Cm]at bX;exact IB hF r _ _ H (hI.passFl hF rfl _ ⟨bX.1,bX.2.1,rfl⟩ bX.2.2 (AI rfl rfl))
  |p d gd f xs=>
   simp only[Jq,Cm]at bX;obtain⟨r1,v,r2,r3⟩:=bX;exact IB hF r _ _ H (hI.passFl hF rfl _ ⟨r1,v,r2,rfl⟩ r3 (AI rfl rfl))
  |e d gd op=>
   by_cases hd:dn listed i
   ·obtain⟨e',H',Af⟩:=hI.passFa hF rfl hd;exact IB hF r _ e' H' Af
   ·exact⟨pre,_,e,H,hI,.inr ⟨_,r,rfl,rfl,hd⟩⟩
theorem RU {α:Type}{p q:α->Bool}:∀(l:List α),(∀x∈l,q x=true->p x=true)->(∃x∈l,p x=true/\q x=false)->l.countP q<l.countP p
 |[],_,h=>ZI
 |x::r,h1,h2=>by
  have aS:r.countP q<=r.countP p:=List.countP_mono_left λy hy=>h1 y (by simp[hy]);obtain⟨y,hy,k1,k2⟩:=h2;rcases Ji.1 hy with rfl|hy
  ·simp only[Jav,k1,k2];simp;omega
  ·have:=RU r (λy hy=>h1 y (by simp[hy])) ⟨y,hy,k1,k2⟩;have hx:=h1 x ZD;simp only[Jav]
   cases hq:q x with
   |true=>rw[hx hq];simp;omega
   |false=>simp;split <;> omega
def unl (F:Fix)(listed:Array Bool):Nat:=(List.range F.ops.size).countP λi=>!listed.getD i false
theorem LA {F:Fix}(hF:FixOk F){listed:Array Bool}(bp:listed.size=F.ops.size)(hr:Region.ready .any F.ops listed=[]):∀(B A:List Row),F.L=A++B->
  (∀y∈A,y.2.aQ=false->dn listed y.1)->∀y∈B,y.2.aQ=false->dn listed y.1
 |[],A,h,hA,y,hy,hc=>by simp at hy
 |x::r,A,h,hA,y,hy,hc=>by
  have hx:x.2.aQ=false->dn listed x.1:=by
   intro pQ;obtain⟨o,ho⟩:=hF.row h pQ;have af:x.1<listed.size:=by rw[bp];exact (Jm.1 ho.op).1
   by_cases hd:dn listed x.1
   ·exact hd
   ·exfalso;have:x.1∈Region.ready .any F.ops listed:=by
     rw[mem_ready];refine⟨?_,o,ho.op,λed uC hb=>?_⟩
     ·simp only[dn]at hd;rw[Jg,Js af]at hd⊢;simpa using hd
     ·obtain⟨z,hz,h1,h2⟩:=ho.aft ed uC hb;rw[<-h2];exact hA z hz h1
    rw[hr]at this;simp at this
  rcases Ji.1 hy with rfl|hy
  ·exact hx hc
  ·refine LA hF bp hr r (A++[x]) (by rw[h];simp) ?_ y hy hc;intro z hz cH;rcases Jb.1 hz with k|k
   ·exact hA z k cH
   ·simp at k;subst k;exact hx cH
theorem LD {F:Fix}(hF:FixOk F){listed:Array Bool}{pre post:List Row}(hI:DInv F listed a w pre post e H g)(aN:Hr listed post)(hr:Region.ready .any F.ops listed=[]) :
  Post F.n F.H0 F.g0 F.w0 F.K a w:=by
 have bT:=LA hF hI.lsz hr F.L [] rfl ZD;rcases aN with rfl|⟨y,r,rfl,hy,hd⟩
 ·refine⟨e,H,g,hI.rest,hI.stp,λt=>?_,hI.defers,hI.size⟩;rcases hI.temps t with ⟨y',k1,k2,k3,k4⟩|⟨y',k1,_⟩|k
  ·exact absurd (bT y' (by rw[hI.split];simp[k1]) k2) k3
  ·simp at k1
  ·exact k
 ·exact absurd (bT y Za5 (ER hy).1) hd
theorem Qbpy {F:Fix}(hF:FixOk F){Q:Exit->Act->World->Prop}(hQ:∀a' w',Post F.n F.H0 F.g0 F.w0 F.K a' w'->Q .normal a' w')(hP:∀v a' w' H' g',F.KP v H'->Stp F.H0 F.g0 F.w0 H' g' w'->a'.defers=[]->a'.tmps.size=F.n->Q (.panic [{ v:=v,recovered:=false }]) a' w') :
  ∀(fuel:Nat) (listed:Array Bool) (a:Act) (w:World) (pre post:List Row) (e:Env) (H:Heap) (g:G),DInv F listed a w pre post e H g->Hr listed post->unl F listed<=fuel->
   wpAny F.P .any F.ops Q fuel listed a w:=by
 intro fuel
 induction fuel with
 |zero=>
  intro listed a w pre post e H g hI aN hu;have hr:Region.ready .any F.ops listed=[]:=by
   rw[List.eq_nil_iff_forall_not_mem];intro i hi;rw[mem_ready]at hi;obtain⟨h1,o,h2,h3⟩:=hi;have af:i<F.ops.size:=(Jm.1 h2).1;have:0<unl F listed:=by
    unfold unl;rw[List.countP_pos_iff];refine⟨i,by simp[af],?_⟩;have fE:i<listed.size:=(by rw[hI.lsz];exact af);rw[Jg,Js fE]at h1⊢;simpa using h1
   omega
  exact⟨hr,hQ _ _ (LD hF hI aN hr)⟩
 |succ fuel ih=>
  intro listed a w pre post e H g hI aN hu;refine⟨λhr=>hQ _ _ (LD hF hI aN hr),?_⟩;intro i hi;rw[mem_ready]at hi;obtain⟨h1,o,h2,h3⟩:=hi;have af:i<F.ops.size:=(Jm.1 h2).1;have fE:i<listed.size:=by rw[hI.lsz];exact af
  have dh:¬dn listed i:=by
   simp only[dn];rw[Jg,Js fE]at h1⊢;simpa using h1
  have iS:unl F (listed.setIfInBounds i true)<=fuel:=by
   have:unl F (listed.setIfInBounds i true)<unl F listed:=by
    refine RU _ ?_ ⟨i,by simp[af],?_,?_⟩
    ·intro j hj hq;by_cases gL:i=j
     ·subst gL;simp[fE]at hq
     ·rw[getD_set_ne false gL]at hq;exact hq
    ·simpa[dn]using dh
    ·simp[fE]
   omega
  obtain⟨y,jr,bS,jq⟩:=hF.all i af;subst jq;obtain⟨A,B,ny⟩:=J0 jr;obtain⟨o',ho⟩:=hF.row ny bS;have iX:o'=o:=by have:=ho.op;rw[h2]at this;simpa using this.symm
  subst iX;have eC:∀j,F.anc y.1 j->dn listed j:=by
   intro j hj;obtain⟨ed,k1,k2,k3⟩:=ho.anc j hj;rcases k3 with k3|k3
   ·rw[<-k3];exact h3 ed k1 k2
   ·exact hI.closed _ (h3 ed k1 k2) j k3
  have cP:∀a' w' pre' post' e' H' g',DInv F (listed.setIfInBounds y.1 true) a' w' pre' post' e' H' g'->wpAny F.P .any F.ops Q fuel (listed.setIfInBounds y.1 true) a' w':=by
   intro a' w' pre' post' e' H' g' Af;obtain⟨p2,q2,e2,H2,rN,eZ⟩:=IB hF post' pre' e' H' Af;exact ih _ a' w' p2 q2 e2 H2 g' rN eZ iS
  have ce:y∈pre\/y∈post:=by
   have:y∈pre++post:=hI.split▸jr;exact Jb.1 this
  have rx:flo F.fa y.1=true->y∈post->wpOp F.P F.ops Q y.1 (wpAny F.P .any F.ops Q fuel (listed.setIfInBounds y.1 true)) a w:=by
   intro lq gu;refine Qblj h2 ho.item (ho.isFa lq) hI.stp.sat (λl z hz=>hI.stp.le.io l z hz) hI.size (g0:=F.g0) λu w' g' k1 k2 k3=>?_;exact cP _ _ _ _ _ _ _ (hI.doneFa hF gu bS lq dh eC k1 k2 k3)
  rcases ce with gu|gu
  ·
   have iO:y.2.isFl=true:=by
    have hE:=hI.eDone y gu;revert hE bS;cases y.2 <;> simp_all[Item.isFl,Item.aQ,Item.isE]
   rcases hI.pend y gu iO dh with h|h
   ·exfalso;rcases aN with rfl|⟨z,r,rfl,hz,_⟩
    ·simp[CX]at h
    ·have:=(IQ h).1;rw[(ER hz).1]at this;simp at this
   ·obtain⟨o2,x,ei,v,p1,p2,p3,p4,p5,p6,p7,p8⟩:=h;rw[h2]at p1;simp only[Jf]at p1;subst p1;have bD:∀t,¬∃z,Dy F listed pre y t z:=by
     rintro t ⟨z,b1,b2,b3,b4,b5⟩;exact b3 (eC _ b5)
    refine Qb1w (n:=F.n) h2 p2 p6 hI.stp.sat ?_ λu w' g' k1 k2=>?_
    ·intro t;rw[FE];split
     ·rename_i ht
      rw[p4]at ht;exact (p8 t ht).2 (bD t)
     ·exact .unk _
    ·rw[p3];exact cP _ _ _ _ _ _ _ (hI.doneFl hF gu iO dh eC p7 k1 k2)
  ·by_cases lq:flo F.fa y.1=true
   ·exact rx lq gu
   ·rcases aN with rfl|⟨z,r,rfl,hz,fA⟩
    ·simp at gu
    ·have hyz:y=z:=by
      rcases Ji.1 gu with k|k
      ·exact k
      ·exfalso;have:=(hF.pair (Gz hI.split k) (ER hz).1 bS).ord hz lq;exact fA (eC _ this)
     subst hyz;have bX:=hI.rest;have yM:=ho.item;have AB:=@DInv.passE;obtain⟨yi,yx⟩:=y
     cases yx with
     |e d gd op=>
      simp only[Jq,Cm]at bX;obtain⟨r1,r2,r3⟩:=bX;refine Qb00 (n:=F.n) h2 yM hI.stp.sat ?_ r1 r2 r3 (λx u w' H' g' k1 k2 k3=>?_) λv w' H' g' k1 k2=>hP v a w' H' g' k1 (hI.stp.trans k2) hI.defers hI.size
      ·intro t;rw[FE];split
       ·rename_i ht
        rcases hI.temps t with ⟨y',b1,b2,b3,b4⟩|⟨y',b1,b2,b3,b4,b5⟩|k
        ·exfalso;exact b3 (eC _ ((hF.pair (D4 hI.split b1 ZD) b2 bS).raw t b4 ht))
        ·exfalso;rcases Ji.1 b1 with h|h
         ·subst h;exact dh b4
         ·have:=(hF.pair (Gz hI.split h) bS b2).war t b5 ht;exact dh (hI.closed _ b4 _ this)
        ·exact k
       ·exact .unk _
      ·exact cP _ _ _ _ _ _ _ (hI.passE hF hz dh lq eC (LZ k1 k3) k2 k3)
     |f=>simp[Item.isE]at hz
     |p=>simp[Item.isE]at hz
     |chk=>simp[Item.isE]at hz
theorem LY (hs:Sat H g w)(k:Nat):Stp H g w H g { w with drawn:=k }:=by
 have aS:Le g w g { w with drawn:=k }:=⟨λ_ h=>⟨h,rfl⟩,λ_ _ h=>h,Jax _,λ_ _ _ h=>h,rfl,rfl,rfl⟩;have hk:∀l,El g w g { w with drawn:=k } l:=λl b q hb=>⟨hb,rfl⟩;exact⟨aS,λl _ hn=>⟨hn,λb p hb=>⟨hb,rfl⟩⟩,hs.fresh,hs.names,hs.excl,hs.named,λl=>SatObj.keep_all hs aS hk l⟩
theorem Qbli {n id fa:Nat}{ord:List Nat}{ops:Array Oper}{its:List Item}{KP:Value->Heap->Prop}{K:Env->Heap->Prop}{Q:Exit->Act->World->Prop}(BF:P.follows .mixedOrders=true)(hm:Hp P n ops fa ord its=true)(hs:Sat H g w)(he:EnvOk w g e a)(hn:a.tmps.size=n)(hd:a.defers=[])
  (hr:Cm P its e H KP K) (hQ:∀a' w',Post n H g w K a' w'->Q .normal a' w') (hP:∀v a' w',Post n H g w (λ_ H'=>KP v H') a' w'->Q (.panic [{ v:=v,recovered:=false }]) a' w'):(Code.region id ops true).wp P Q a w:=by
 simp only[Hp,Jj,beq_iff_eq,Jaa,List.mem_range,Jaj,J3]at hm;obtain⟨⟨⟨m1,m2⟩,m3⟩,m4⟩:=hm;let F:Fix:={ P,n,ops,ms:=Ho ops.toList [],fa,L:=ord.zip its,H0:=H,g0:=g,w0:=w,KP,K };have hF:FixOk F:=⟨m3,λi hi=>m4 i hi⟩;have fW:(ord.zip its).map Prod.snd=its:=by
  rw[List.map_snd_zip];omega
 have aN:=LY hs (w.drawn+1);have ck:∀i,¬dn (Array.replicate ops.size false) i:=by
  intro i h;simp only[dn,Jg,Array.getElem?_replicate]at h;split at h <;> simp at h
 have hI:DInv F (Array.replicate ops.size false) a { w with drawn:=w.drawn+1 } [] (ord.zip its) e H g:=by
  refine⟨rfl,by rw[fW];exact hr,aN,hn,hd,by simp[F],λi hi=>absurd hi (ck i),ZD,λy _ _ h=>absurd h (ck _),ZD,λt=>?_,λy _ z _ _ _ h=>absurd h (ck _)⟩;exact .inr (.inr ((he t).mono aN.le))
 obtain⟨p2,q2,e2,H2,rN,eZ⟩:=IB hF _ _ _ _ hI;refine wp_region_any BF ?_;refine Qbpy hF hQ (λv a' w' H' g' k1 k2 k3 k4=>hP v a' w' ⟨[],H',g',k1,k2,λt=>.unk _,k3,k4⟩) ops.size _ a _ p2 q2 e2 H2 g rN eZ ?_;exact Nat.le_trans List.countP_le_length (by simp[F])
theorem Qbpb {c:Code}{Q:Exit->Act->World->Prop}(I:Nat->Act->World->Prop)(h₀:∃n,I n a w)
  (round:∀n a w,I n a w->c.wp P (Exit.then (λa' w'=>∃m,m<n/\I m a' w') Q) a w):(Code.loop c).wp P Q a w:=by
 intro b k cs;have key:∀n a w,I n a w->∃e a' w',Q e a' w'/\Arrives P (lone (b.at a (.code c::.inLoop c::k)) cs w) b k cs e a' w':=by
  intro n
  induction n using Nat.strongRecOn with
  |_ n ih=>
   intro a w hI;obtain⟨e,a₁,w₁,hq,eB⟩:=round n a w hI b (.inLoop c::k) cs
   cases e with
   |normal=>
    obtain⟨m,af,hI₁⟩:=hq;obtain⟨e₂,a₂,w₂,hq₂,uN⟩:=ih m af a₁ w₁ hI₁;exact⟨e₂,a₂,w₂,hq₂,.of_steps (Steps.trans eB (.one step_inLoop)) uN⟩
   |exit id=>exact⟨_,a₁,w₁,hq,.pass (x:=.inLoop c) rfl (λ_ _=>.inl ZD) eB⟩
   |goto l=>exact⟨_,a₁,w₁,hq,.pass (x:=.inLoop c) rfl (λ_ _=>.inl ZD) eB⟩
   |ret=>exact⟨_,a₁,w₁,hq,.pass (x:=.inLoop c) rfl (λ_ _=>.inl ZD) eB⟩
   |panic ch=>exact⟨_,a₁,w₁,hq,.pass (x:=.inLoop c) rfl (λ_ _=>.inl ZD) eB⟩
   |outgrown=>exact⟨_,a₁,w₁,hq,.pass (x:=.inLoop c) rfl (λ_ _=>.inl ZD) eB⟩
 obtain⟨n,hn⟩:=h₀;obtain⟨e,a',w',hq,eB⟩:=key n a w hn;exact⟨e,a',w',hq,.of_steps (.one step_loop) eB⟩
def xm:Exit->Option X
 |.normal=>some .nrm
 |.exit id=>some (.exit id)
 |.ret=>some .ret
 |.panic [{ v:=v,recovered:=false,goexit:=false }]=>some (.pan v)
 |_=>none
theorem F0 {ch:List PanicEntry}{x:X}(h:xm (.panic ch)=some x):∃v,x=.pan v/\ch=[{ v:=v,recovered:=false }]:=by
 unfold xm at h;split at h <;> simp_all
def EB (n:Nat)(H:Heap)(g:G)(w:World)(Q:X->Env->Heap->Prop)(x:Exit)(a:Act)(w':World):Prop:=
 ∃x',xm x=some x'/\Post n H g w (Q x') a w'
def mC (P:Program)(n:Nat):Code->SC->Bool
 |c,.seq .gh s=>mC P n c s
 |.skip,.skip=>true
 |.region _ ops false,.reg its _=>mIts P n ops 0 its
 |.region _ ops true,.jO fa ord its _=>Hp P n ops fa ord its
 |.seq c d,.seq s t=>mC P n c s&&mC P n d t
 |.cond x c d,.cond y s t=>mO y x&&mC P n c s&&mC P n d t
 |.block i c,.block j s=>i == j&&mC P n c s
 |.loop c,.loop s=>mC P n c s
 |.exit i,.exit j=>i == j
 |.ret,.ret=>true
 |.scope c,.scope s=>mC P n c s
 |.label _,.skip=>true
 |_,_=>false
theorem Kj {ks:List Nat}(h:EnvOk w g e a):EnvOk w g (trim ks e) a:=by
 intro t;unfold trim
 induction ks with
 |nil=>exact .unk _
 |cons k ks ih=>
  simp only[Jq,lk];split
  ·rename_i ht;subst ht;exact h t
  ·exact ih
theorem Post.trans {n:Nat}{H':Heap}{g':G}{w' w'':World}{K:Env->Heap->Prop}(h:Stp H g w H' g' w')(k:Post n H' g' w' K a w''):Post n H g w K a w'':=by
 obtain⟨e2,H2,g2,k1,k2,k3,k4,k5⟩:=k;exact⟨e2,H2,g2,k1,h.trans k2,k3,k4,k5⟩
theorem Qblg (BF:P.follows .mixedOrders=true){n:Nat}:∀(s:SC) (c:Code) (Q:X->Env->Heap->Prop) (e:Env) (H:Heap),mC P n c s=true->BI P s Q e H->
  ∀(g:G) (w:World) (a:Act),Sat H g w->EnvOk w g e a->a.defers=[]->a.tmps.size=n->c.wp P (EB n H g w Q) a w:=by
 intro s
 induction s with
 |skip=>
  intro c Q e H hm hc g w a hs he hd hn
  cases c with
  |skip=>exact wp_skip ⟨.nrm,rfl,e,H,g,hc,.refl hs,he,hd,hn⟩
  |label l=>exact wp_label ⟨.nrm,rfl,e,H,g,hc,.refl hs,he,hd,hn⟩
  |_=>simp[mC]at hm
 |reg its keep=>
  intro c Q e H hm hc g w a hs he hd hn
  cases c with
  |region id ops dr'=>
   cases dr' with
   |true=>simp[mC]at hm
   |false=>
    simp only[mC]at hm;simp only[BI]at hc;have hQ:∀a' w',Post n H g w (λe' H'=>Q .nrm (trim keep e') H') a' w'->EB n H g w Q .normal a' w':=by
     rintro a' w' ⟨e2,H2,g2,k1,k2,k3,k4,k5⟩;exact⟨.nrm,rfl,_,H2,g2,k1,k2,Kj k3,k4,k5⟩
    have hP:∀v a' w',Post n H g w (λ_ H'=>X.panK Q v H') a' w'->EB n H g w Q (.panic [{ v:=v,recovered:=false }]) a' w':=by
     rintro v a' w' ⟨e2,H2,g2,k1,k2,k3,k4,k5⟩;exact⟨.pan v,rfl,[],H2,g2,k1,k2,λt=>.unk _,k4,k5⟩
    have hl:=Lk its 0 hm;refine wp_region ?_;rw[List.range_eq_range',<-hl,Jau];exact Q8h hQ hP its 0 e H g w a hm (.refl hs) he hn hd hc
  |_=>simp[mC]at hm
 |jO fa ord its keep=>
  intro c Q e H hm hc g w a hs he hd hn
  cases c with
  |region id ops dr'=>
   cases dr' with
   |false=>simp[mC]at hm
   |true=>
    simp only[mC]at hm;simp only[BI]at hc;have hQ:∀a' w',Post n H g w (λe' H'=>Q .nrm (trim keep e') H') a' w'->EB n H g w Q .normal a' w':=by
     rintro a' w' ⟨e2,H2,g2,k1,k2,k3,k4,k5⟩;exact⟨.nrm,rfl,_,H2,g2,k1,k2,Kj k3,k4,k5⟩
    have hP:∀v a' w',Post n H g w (λ_ H'=>X.panK Q v H') a' w'->EB n H g w Q (.panic [{ v:=v,recovered:=false }]) a' w':=by
     rintro v a' w' ⟨e2,H2,g2,k1,k2,k3,k4,k5⟩;exact⟨.pan v,rfl,[],H2,g2,k1,k2,λt=>.unk _,k4,k5⟩
    exact Qbli BF hm hs he hn hd hc hQ hP
  |_=>simp[mC]at hm
 |seq s t ihs iht=>
  intro c Q e H hm hc g w a hs he hd hn;by_cases hg:s=.gh
  ·subst hg;have eT:mC P n c t=true:=by simpa[mC]using hm
   simp only[BI]at hc;obtain⟨e1,H1,h1,h2⟩:=hc;obtain⟨g1,k1,k2⟩:=h1 g w (λt=>a.tmps.getD t undef) hs he;refine wp_mono (iht c Q e1 H1 eT h2 g1 w a k1.sat k2 hd hn) ?_;rintro x a' w' ⟨x',q1,q2⟩;exact⟨x',q1,q2.trans k1⟩
  ·cases c with
   |seq c d=>
    have eT:mC P n c s=true/\mC P n d t=true:=by
     cases s <;> first|(exact absurd rfl hg)|simpa[mC]using hm
    simp only[BI]at hc;refine wp_seq (wp_mono (ihs c _ e H eT.1 hc g w a hs he hd hn) ?_);rintro x a' w' ⟨x',q1,e2,H2,g2,k1,k2,k3,k4,k5⟩
    cases x with
    |normal=>
     simp only[xm,Jf]at q1;subst q1;refine wp_mono (iht d Q e2 H2 eT.2 k1 g2 w' a' k2.sat k3 k4 k5) ?_;rintro x2 a2 w2 ⟨x2',r1,r2⟩;exact⟨x2',r1,r2.trans k2⟩
    |exit id=>
     simp only[xm,Jf]at q1;subst q1;exact⟨_,rfl,e2,H2,g2,k1,k2,k3,k4,k5⟩
    |ret=>
     simp only[xm,Jf]at q1;subst q1;exact⟨_,rfl,e2,H2,g2,k1,k2,k3,k4,k5⟩
    |panic ch=>
     obtain⟨v,rfl,rfl⟩:=F0 q1;exact⟨_,rfl,e2,H2,g2,k1,k2,k3,k4,k5⟩
    |_=>simp[xm]at q1
   |_=>cases s <;> first|(exact absurd rfl hg)|simp[mC]at hm
 |cond y s t ihs iht=>
  intro c Q e H hm hc g w a hs he hd hn;cases c <;> simp[mC]at hm
  rename_i x c d
  obtain⟨⟨h1,h2⟩,h3⟩:=hm;simp only[BI]at hc;obtain⟨b,k1,k2,k3⟩:=hc;have hr:=My he h1;rw[k1]at hr;have hb:=hr.aO.bx;exact wp_cond_split hb (λmN=>ihs c Q e H h2 (k2 mN) g w a hs he hd hn) (λmN=>iht d Q e H h3 (k3 mN) g w a hs he hd hn)
 |block id s ih=>
  intro c Q e H hm hc g w a hs he hd hn;cases c <;> simp[mC]at hm
  rename_i id' c
  obtain⟨rfl,h2⟩:=hm;simp only[BI]at hc;refine wp_block (wp_mono (ih c _ e H h2 hc g w a hs he hd hn) ?_);rintro x a' w' ⟨x',q1,e2,H2,g2,k1,k2⟩
  cases x with
  |normal=>
   simp only[xm,Jf]at q1;subst q1;exact⟨.nrm,rfl,e2,H2,g2,k1,k2⟩
  |exit id2=>
   simp only[xm,Jf]at q1;subst q1;simp only[X.inBlock]at k1;simp only[Exit.inBlock];split
   ·rename_i h;subst h;rw[if_pos rfl]at k1;exact⟨.nrm,rfl,e2,H2,g2,k1,k2⟩
   ·rename_i h;rw[if_neg h]at k1;exact⟨.exit id2,rfl,e2,H2,g2,k1,k2⟩
  |ret=>
   simp only[xm,Jf]at q1;subst q1;exact⟨.ret,rfl,e2,H2,g2,k1,k2⟩
  |panic ch=>
   obtain⟨v,rfl,rfl⟩:=F0 q1;exact⟨.pan v,rfl,e2,H2,g2,k1,k2⟩
  |_=>simp[xm]at q1
 |loop s ih=>
  intro c Q e H hm hc g w a hs he hd hn;cases c <;> simp[mC]at hm
  rename_i c
  simp only[BI]at hc;obtain⟨I,⟨m0,h0⟩,qw⟩:=hc;refine Qbpb (λm a' w'=>Post n H g w (I m) a' w') ⟨m0,e,H,g,h0,.refl hs,he,hd,hn⟩ ?_;rintro m a1 w1 ⟨e1,H1,g1,k1,k2,k3,k4,k5⟩;refine wp_mono (ih c _ e1 H1 hm (qw m e1 H1 k1) g1 w1 a1 k2.sat k3 k4 k5) ?_;rintro x a' w' ⟨x',q1,e2,H2,g2,r1,r2,r3,r4,r5⟩
  cases x with
  |normal=>
   simp only[xm,Jf]at q1;subst q1;obtain⟨m',af,hI⟩:=r1;exact⟨m',af,e2,H2,g2,hI,k2.trans r2,r3,r4,r5⟩
  |exit id=>
   simp only[xm,Jf]at q1;subst q1;exact⟨_,rfl,e2,H2,g2,r1,k2.trans r2,r3,r4,r5⟩
  |ret=>
   simp only[xm,Jf]at q1;subst q1;exact⟨_,rfl,e2,H2,g2,r1,k2.trans r2,r3,r4,r5⟩
  |panic ch=>
   obtain⟨v,rfl,rfl⟩:=F0 q1;exact⟨_,rfl,e2,H2,g2,r1,k2.trans r2,r3,r4,r5⟩
  |_=>simp[xm]at q1
 |exit id=>
  intro c Q e H hm hc g w a hs he hd hn;cases c <;> simp[mC]at hm;subst hm;exact wp_exit ⟨.exit _,rfl,e,H,g,hc,.refl hs,he,hd,hn⟩
 |ret=>
  intro c Q e H hm hc g w a hs he hd hn;cases c <;> simp[mC]at hm;exact wp_ret ⟨.ret,rfl,e,H,g,hc,.refl hs,he,hd,hn⟩
 |gh=>
  intro c Q e H hm hc g w a hs he hd hn;cases c <;> simp[mC]at hm
 |scope s ih=>
  intro c Q e H hm hc g w a hs he hd hn;cases c <;> simp[mC]at hm
  rename_i c
  simp only[BI]at hc;refine wp_scope_straight (wp_mono (ih c Q e H hm hc g w a hs he hd hn) ?_);rintro x a' w' ⟨x',q1,q2⟩
  cases x with
  |goto l=>simp[xm]at q1
  |_=>exact⟨x',q1,q2⟩
def mR (P:Program):ResultVar->RS->Bool
 |.tmp t,.tmp t'=>t == t'
 |.cell t ty,.cell t' n agg=>t == t'&&D6 P ty n agg
 |_,_=>false
def mRs (P:Program):List ResultVar->List RS->Bool
 |[],[]=>true
 |x::r,y::s=>mR P x y&&mRs P r s
 |_,_=>false
def mFn (P:Program)(f:FuncId)(nargs n:Nat)(s:SC)(rs:List RS):Bool:=
 fnOk P f&&(match P.funcs[f]? with
  |some fn=>(match fn.body with
   |some c=>fn.ntmps == n&&decide (nargs<=n)&&mC P n c s&&mRs P fn.results.toList rs
   |none=>false)
  |none=>false)
theorem Qb44 {n:Nat}{x:ResultVar}{y:RS}(hm:mR P x y=true)(hs:Sat H g w)(he:EnvOk w g e a)(ho:y.op.obl true e H) :
  ∃v,(match x with
   |.tmp t=>(pure (a.tmps.getD t undef):Sem Value)
   |.cell t ty=>do loadVar ty (<-asAddr (a.tmps.getD t undef))).run P w=.ok v w/\RepV w g (y.op.val e H) v:=by
 cases x with
 |tmp t=>
  cases y with
  |tmp t'=>
   simp[mR]at hm;subst hm;have hr:=BS (x:=.t t) (y:=.tmp t) he (by simp[mO]) rfl ho;exact⟨a.tmps.getD t undef,rfl,hr⟩
  |cell=>simp[mR]at hm
 |cell t ty=>
  cases y with
  |tmp=>simp[mR]at hm
  |cell t' n agg=>
   simp only[mR,Jj,beq_iff_eq]at hm;obtain⟨rfl,h2⟩:=hm;obtain⟨d,i,k1,k2,k3,k4,k5⟩:=IN h2;obtain ⟨v, w', g', r1, r2, r3, _⟩ := s_ld (o := { dst := none, op := .load ty (.tmp t), type := 0, pos := "", after := #[], guard := none }) (x := .t t) (x' := .tmp t) rfl k1 k2 k3 k4 k5 (by simp [mO]) hs he rfl ho
   simp only[RS.op,FOp.obl]at ho;obtain⟨o1,o2,o3,o4,o5⟩:=ho;have xg:=BS (x:=.t t) (y:=.tmp t) he (by simp[mO]) rfl o1;rw[CH o2]at xg;obtain⟨b,q,hv,_⟩:=N3 hs xg.aO o3;have iG:a.tmps.getD t undef=.pointer (some ⟨b,q,none⟩):=hv;have bZ := PX (P := P) (o := { dst := none, op := .load ty (.tmp t), type := 0, pos := "", after := #[], guard := none }) (x := .t t) (x' := .tmp t) rfl k1 k2 k3 k4 k5 (by simp [mO]) hs he rfl ⟨o1, o2, o3, o4, o5⟩
   obtain⟨v2,q1,q2⟩:=bZ;refine⟨v2,?_,q2⟩;simp only[execOp,Instr.loadAt,Act.eval,iG,Instr.sureAddr,Sem.run_bind,Sem.run_pure,Result.andThen_ok]at q1;simp only[iG,asAddr,Sem.run_bind,Sem.run_pure,Result.andThen_ok]
   cases hl:(loadVar ty ⟨b,q,none⟩).run P w with
   |ok u w2=>rw[hl]at q1;simp at q1;obtain⟨rfl,rfl⟩:=q1;rfl
   |halt h w2=>rw[hl]at q1;simp at q1
def rRun (tmps:Array Value):ResultVar->Sem Value
 |.tmp t=>pure (tmps.getD t undef)
 |.cell a t=>do loadVar t (<-asAddr (tmps.getD a undef))
theorem Qbcf {P:Program}{w:World}{tmps:Array Value}:∀(l:List ResultVar) (vs:List Value),l.length=vs.length->
  (∀(j:Nat) (x:ResultVar) (v:Value),l[j]? = some x->vs[j]? = some v->(rRun tmps x).run P w=.ok v w)->(l.mapM (rRun tmps)).run P w=.ok vs w:=by
 intro l
 induction l with
 |nil=>intro vs hl _;cases vs with
  |nil=>simp
  |cons=>simp at hl
 |cons x r ih=>
  intro vs hl h
  cases vs with
  |nil=>simp at hl
  |cons v vs=>
   have h0:=h 0 x v rfl rfl;have ih':=ih vs Zaj λj y u h1 h2=>h (j+1) y u ZZ Zae;simp only[List.mapM_cons,Sem.run_bind,h0,Result.andThen_ok,ih',Sem.run_pure]
theorem Qb2l {n:Nat}:∀(l:List ResultVar) (rs:List RS),mRs P l rs=true->Sat H g w->EnvOk w g e a->(∀r∈rs,r.op.obl true e H)->
  ∃vs:List Value,l.length=vs.length/\vs.length=rs.length/\(∀(j:Nat) (x:ResultVar) (v:Value),l[j]? = some x->vs[j]? = some v->(rRun a.tmps x).run P w=.ok v w)/\
   (∀(j:Nat) (x:V) (u:Value),(rs.map λr=>r.op.val e H)[j]? = some x->vs[j]? = some u->RepV w g x u):=by
 intro l
 induction l with
 |nil=>
  intro rs hm hs he ho
  cases rs with
  |nil=>exact⟨[],rfl,rfl,ZD,ZD⟩
  |cons=>simp[mRs]at hm
 |cons x r ih=>
  intro rs hm hs he ho
  cases rs with
  |nil=>simp[mRs]at hm
  |cons y rs=>
   simp only[mRs,Jj]at hm;obtain⟨v,h1,h2⟩:=Qb44 (n:=n) hm.1 hs he (ho y ZD);obtain⟨vs,k1,k2,k3,k4⟩:=ih rs hm.2 hs he λz hz=>ho z Za4;refine⟨v::vs,ZaF,by simp[k2],?_,?_⟩
   ·intro j z u hz hu
    cases j with
    |zero=>
     simp at hz hu;subst hz;subst hu;exact h1
    |succ j=>exact k3 j z u ZaW (by simpa using hu)
   ·intro j z u hz hu
    cases j with
    |zero=>
     simp at hz hu;subst hz;subst hu;exact h2
    |succ j=>exact k4 j z u ZaW (by simpa using hu)
theorem Qbmp {fn:Func}{rs:List RS}(hm:mRs P fn.results.toList rs=true)(hs:Sat H g w)(he:EnvOk w g e a){K:Uk}(ho:BE rs e H K) :
  ∃v x,(results fn a.tmps).run P w=.ok v w/\K x H/\RepV w g x v:=by
 obtain⟨h1,h2⟩:=ho;obtain⟨vs,k1,k2,k3,k4⟩:=Qb2l (n:=0) _ _ hm hs he h1;have hr:=Qbcf (P:=P) (w:=w) (tmps:=a.tmps) _ _ k1 k3;have cE:(results fn a.tmps).run P w=.ok (if h:vs.toArray.size=1 then vs.toArray[0]else .tuple vs.toArray) w:=by
  have:results fn a.tmps=(do let vs <-fn.results.mapM (rRun a.tmps);pure (if h:vs.size=1 then vs[0]else .tuple vs)):=by
   unfold results;rfl
  rw[this,Array.mapM_eq_mapM_toList];simp only[Sem.run_bind,Sem.run_map,hr,Result.andThen_ok,Sem.run_pure]
 by_cases hl:vs.length=1
 ·obtain⟨v,rfl⟩:∃v,vs=[v]:=Jam.mp hl;obtain⟨r,rfl⟩:∃r,rs=[r]:=Jam.mp ZB;exact⟨v,_,by simpa using cE,h2,k4 0 _ v ZD rfl⟩
 ·have bp:¬vs.toArray.size=1:=Zaj
  rw[dif_neg bp]at cE;refine⟨_,.tup (rs.map λr=>r.op.val e H),cE,?_,.tup _ _ (by simp[k2]) k4⟩;split at h2
  ·rename_i r;simp at k2;omega
  ·exact h2
def Q4 (rs:List RS)(K:V->Heap->Prop):X->Env->Heap->Prop
 |.nrm,e,H=>BE rs e H K
 |.ret,e,H=>BE rs e H K
 |.exit _,_,_=>False
 |.pan v,_,H=>K (.pn v) H
theorem Qb39:∀(args:List V) (i t:Nat),lk t (zipE i args)=if i<=t then args.getD (t-i) .unk else .unk:=by
 intro args
 induction args with
 |nil=>intro i t;simp[zipE,lk]
 |cons v r ih=>
  intro i t;simp only[zipE,lk,ih];split
  ·rename_i h;subst h;simp
  ·rename_i h
   split
   ·rw[if_pos ZB];have:t-i=(t-(i+1))+1:=ZB;rw[this];simp
   ·rw[if_neg ZB]
theorem Qd (BF:P.follows .mixedOrders=true){f n:Nat}{s:SC}{rs:List RS}{args:List V}{H:Heap}{K:V->Heap->Prop}
  (hm:mFn P f args.length n s rs=true) (hc:BI P s (Q4 rs K) (zipE 0 args) H):Qr P f args H K:=by
 simp only[mFn,Jj]at hm;obtain⟨ax,hm⟩:=hm;refine⟨ax,?_⟩;intro g w vs hs hl hv
 cases hf:P.funcs[f]? with
 |none=>rw[hf]at hm;simp at hm
 |some fn=>
  rw[hf]at hm;simp only at hm
  cases hb:fn.body with
  |none=>rw[hb]at hm;simp at hm
  |some c=>
   rw[hb]at hm;simp only[Jj,beq_iff_eq,decide_eq_true_eq]at hm;obtain⟨⟨⟨h1,h2⟩,h3⟩,h4⟩:=hm;refine calls_of_wp hf hb ?_;have he:EnvOk w g (zipE 0 args) { tmps:=vs.toArray++Array.replicate (fn.ntmps-vs.toArray.size) undef,defers:=[] }:=by
    intro t;rw[Qb39,if_pos (Jay _),Nat.sub_zero];by_cases ht:t<args.length
    ·have A3:t<vs.length:=ZB;have hg:(vs.toArray++Array.replicate (fn.ntmps-vs.toArray.size) undef).getD t undef=vs[t]:=by
      simp[Array.getD,A3,Array.getElem_append];intro h;omega
     rw[hg];exact hv t _ _ (by rw[Je,Jw ht];rfl) (Jw A3)
    ·rw[Je,List.getElem?_eq_none ZB];exact .unk _
   refine wp_mono (Qblg BF s c _ (zipE 0 args) H h3 hc g w _ hs he rfl ZG) ?_;rintro x a' w' ⟨x',q1,e2,H2,g2,k1,k2,k3,k4,k5⟩;have key:BE rs e2 H2 K->a'.defers=[]/\∃v,(results fn a'.tmps).run P w'=.ok v w'/\((∃v' x H' g',Ending.returned v=.returned v'/\K x H'/\Stp H g w H' g' w'/\RepV w' g' x v')\/(∃v' H' g',Ending.returned v=.panicked [{ v:=v',recovered:=false }]/\K (.pn v') H'/\Stp H g w H' g' w')):=by
    intro xi;obtain⟨v,x,r1,r2,r3⟩:=Qbmp h4 k2.sat k3 xi;exact⟨k4,v,r1,.inl ⟨v,x,H2,g2,rfl,r2,k2,r3⟩⟩
   cases x with
   |normal=>
    simp only[xm,Jf]at q1;subst q1;exact key k1
   |ret=>
    simp only[xm,Jf]at q1;subst q1;exact key k1
   |exit id=>
    simp only[xm,Jf]at q1;subst q1;exact k1.elim
   |panic ch=>
    obtain⟨v,rfl,rfl⟩:=F0 q1;exact⟨k4,.inr ⟨v,H2,g2,rfl,k1,k2⟩⟩
   |_=>simp[xm]at q1
end Go.AE
namespace Go.AE
variable {P:Program}{H:Heap}{e:Env}
def X.sq (P:Program)(b:SC)(Q:X->Env->Heap->Prop):X->Env->Heap->Prop:=X.next (BI P b Q) Q
theorem Kt {KP:Value->Heap->Prop}{K:V->Heap->Prop}{x:C}:Dm KP K (.c x) H=K (.c x) H:=rfl
theorem VJ {KP:Value->Heap->Prop}{K:V->Heap->Prop}{x:List C}:Dm KP K (.ag x) H=K (.ag x) H:=rfl
theorem HJ {KP:Value->Heap->Prop}{K:V->Heap->Prop}{x:List V}:Dm KP K (.tup x) H=K (.tup x) H:=rfl
theorem Qbu2 {KP:Value->Heap->Prop}{K:V->Heap->Prop}:Dm KP K .unk H=K .unk H:=rfl
theorem VI {KP:Value->Heap->Prop}{K:V->Heap->Prop}{v:Value}:Dm KP K (.pn v) H=KP v H:=rfl
theorem Qb5w {b:SC}{Q:X->Env->Heap->Prop}:X.sq P b Q .nrm e H=BI P b Q e H:=rfl
theorem Qb5y {b:SC}{Q:X->Env->Heap->Prop}:X.sq P b Q .ret e H=Q .ret e H:=rfl
theorem Qb3p {b:SC}{Q:X->Env->Heap->Prop}{i:Nat}:X.sq P b Q (.exit i) e H=Q (.exit i) e H:=rfl
theorem Qb4v {i:Nat}{Q:X->Env->Heap->Prop}:X.inBlock i Q .nrm e H=Q .nrm e H:=rfl
theorem Qb4x {i:Nat}{Q:X->Env->Heap->Prop}:X.inBlock i Q .ret e H=Q .ret e H:=rfl
theorem Qb1z {i:Nat}{Q:X->Env->Heap->Prop}:X.inBlock i Q (.exit i) e H=Q .nrm e H:=by simp[X.inBlock]
theorem HE {i j:Nat}{Q:X->Env->Heap->Prop}(h:(j == i)=false):X.inBlock i Q (.exit j) e H=Q (.exit j) e H:=by
 have:j≠i:=ZL
 simp[X.inBlock,this]
theorem Qb1a {a:SC}{Q:X->Env->Heap->Prop}(h:BI P a Q e H):BI P (.scope a) Q e H:=h
theorem Qh {a b:SC}{Q:X->Env->Heap->Prop}(h:BI P a (X.sq P b Q) e H):BI P (.seq a b) Q e H:=h
theorem Qbsc {K K':Env->Heap->Prop}{Q:X->Env->Heap->Prop}:X.next K (X.next K' Q)=X.next K Q:=by
 funext x e H
 cases x <;> rfl
theorem Q1 {a b c:SC}{Q:X->Env->Heap->Prop}(h:BI P (.seq a (.seq b c)) Q e H):BI P (.seq (.seq a b) c) Q e H:=by
 simp only[BI]at h⊢;rw[Qbsc];exact h
theorem Qp {its:List Item}{keep:List Nat}{Q:X->Env->Heap->Prop}(h:regT P its e H (X.panK Q) λe' H'=>Q .nrm (trim keep e') H'):BI P (.reg its keep) Q e H:=h
theorem BY {fa:Nat}{ord:List Nat}{its:List Item}{keep:List Nat}{Q:X->Env->Heap->Prop}(h:Cm P its e H (X.panK Q) λe' H'=>Q .nrm (trim keep e') H'):BI P (.jO fa ord its keep) Q e H:=h
theorem Qa {its:List Item}{keep:List Nat}{b:SC}{Q:X->Env->Heap->Prop}(h:regT P its e H (X.panK Q) λe' H'=>BI P b Q (trim keep e') H'):BI P (.seq (.reg its keep) b) Q e H:=h
theorem BM {fa:Nat}{ord:List Nat}{its:List Item}{keep:List Nat}{b:SC}{Q:X->Env->Heap->Prop}(h:Cm P its e H (X.panK Q) λe' H'=>BI P b Q (trim keep e') H'):BI P (.seq (.jO fa ord its keep) b) Q e H:=h
theorem Qf {t:Opd}{a b:SC}{Q:X->Env->Heap->Prop}{c:Bool}(hc:t.raw e=.c (.bool c))(h1:c=true->BI P a Q e H)(h2:c=false->BI P b Q e H):BI P (.cond t a b) Q e H:=⟨c,hc,h1,h2⟩
theorem Qe {i:Nat}{a:SC}{Q:X->Env->Heap->Prop}(h:BI P a (X.inBlock i Q) e H):BI P (.block i a) Q e H:=h
theorem Qu {i:Nat}{Q:X->Env->Heap->Prop}(h:Q (.exit i) e H):BI P (.exit i) Q e H:=h
theorem Ql {Q:X->Env->Heap->Prop}(h:Q .ret e H):BI P .ret Q e H:=h
theorem Qi {Q:X->Env->Heap->Prop}(h:Q .nrm e H):BI P .skip Q e H:=h
theorem Qw {a:SC}{Q:X->Env->Heap->Prop}(I:Nat->Env->Heap->Prop)(n:Nat)(h0:I n e H)
  (h:∀n e1 H1,I n e1 H1->BI P a (X.next (λe2 H2=>∃m,m<n/\I m e2 H2) Q) e1 H1):BI P (.loop a) Q e H:=⟨I,⟨n,h0⟩,h⟩
theorem YV {e:Env}:gdO e none=True:=rfl
theorem YW {e:Env}:gdB e none=true:=rfl
theorem YU {p:Bool}{v:V}:gdV none p v=v:=rfl
theorem YT {p:Bool}{v:V}{x:Nat×Bool}:gdV (some x) p v=.gd p v:=rfl
theorem Xm {e:Env}:trim [] e=[]:=rfl
theorem Qbvb {k:Nat}{ks:List Nat}{e:Env}:trim (k::ks) e=(k,lk k e)::trim ks e:=rfl
theorem Xl {a:Prop}:(true=true->a)=a:=ZD
theorem Qbp4 {a:Prop}:(false=true->a)=True:=ZD
theorem Qbvd {a:Prop}:(true=false->a)=True:=ZD
theorem Qblm {a:Prop}:(false=false->a)=a:=ZD
theorem Qb6d {a:Prop}:(a/\True)=a:=ZD
theorem Qb7h {a:Prop}:(True/\a)=a:=ZD
theorem Qb7i {a:Prop}:(True->a)=a:=ZD
theorem Qb6n {a:Prop}:(a->True)=True:=ZD
theorem b_f {b:Bool}:(b == false) = !b:=by cases b <;> rfl
theorem b_t {b:Bool}:(b == true)=b:=by cases b <;> rfl
theorem YP {a:Prop}:(a->a)=True:=ZD
theorem Qbqh {a b:Prop}:(a->b->a)=True:=propext ⟨λ_=>trivial,λ_ h _=>h⟩
theorem Qbqi {a b:Prop}:(a->a/\b)=(a->b):=propext ⟨λh x=>(h x).2,λh x=>⟨x,h x⟩⟩
theorem Qb11 {a b:Prop}:(a->a->b)=(a->b):=ZD
theorem Qbb4 {α:Type}{p:α->Prop}:(∀x∈([]:List α),p x)=True:=ZD
def EG (H:Heap)(p:C)(vs:List C)(K:V->Heap->Prop):Prop:=
 match p with
 |.ptr l k=>match H l with
  |.st cells=>k+vs.length<=cells.length/\∀H',H'=H.set l (.st (EU cells k vs))->K .unk H'
  |_=>False
 |.ep (.ah l sz st n) z i k=>match H l with
  |.vec y rows=>y=sz/\z=sz/\i<n/\st+n<=rows.length/\k+vs.length<=sz/\
    ∀H',H'=H.set l (.vec sz (rows.set (st+i) (EU (rows.getD (st+i) []) k vs)))->K .unk H'
  |_=>False
 |_=>False
def appQ (H:Heap)(sz:Nat)(a b:C)(K:V->Heap->Prop):Prop:=
 aZ H b/\b.aP=sz/\match a with
 |.sl true z rows=>z=sz/\(rows=[]\/rowsOf H b≠[])/\(∀r∈rows++rowsOf H b,ak r=true)/\rows.length+ay b<=LIM/\
   ∀l,H l=.none->∀H',H'=H.set l (.vec sz (rows++rowsOf H b))->K (.c (.ah l sz 0 (rows.length+ay b))) H'
 |.ah l z st n=>match H l with
  |.vec y rows=>z=sz/\y=sz/\st+n<=rows.length/\(∀r∈rowsOf H b,ak r=true)/\n+ay b<=LIM/\
    ∀l',(H.set l .none) l'=.none->∀H',H'=(H.set l .none).set l' (.vec sz ((rows.drop st).take n++rowsOf H b))->
     K (.c (.ah l' sz 0 (n+ay b))) H'
  |_=>False
 |_=>False
def updQ (H:Heap)(tag:Nat)(m k:C)(v:V)(K:V->Heap->Prop):Prop:=
 match m with
 |.mp l=>match H l with
  |.map n es=>Dk tag k es/\es.length+1<=LIM/\∀H',H'=H.set l (.map (n+1) (updE k v es))->K .unk H'
  |_=>False
 |_=>False
def delQ (H:Heap)(tag:Nat)(m k:C)(K:V->Heap->Prop):Prop:=
 match m with
 |.mp l=>match H l with
  |.map n es=>Dk tag k es/\∀H',H'=H.set l (.map (n+1) (delE k es))->K .unk H'
  |_=>False
 |.mnil=>Dk tag k []/\K .unk H
 |_=>False
theorem CV {α:Type}{a:α}{p:α->Prop}:(∀x,x=a->p x)=p a:=propext ⟨λh=>h a rfl,λh x hx=>hx▸h⟩
section
variable {p:Bool}{K:Uk}
theorem Qbu4 {a:C}{vs:List C}:D9 H a vs K=EG H a vs K:=by
 cases a with
 |ptr l k=>simp only[D9,EG];cases hh:H l <;> simp only[hh,CV]
 |ep s z i k=>
  cases s with
  |ah l sz st n=>simp only[D9,EG];cases hh:H l <;> simp only[hh,CV]
  |_=>rfl
 |_=>rfl
theorem Qb02 {sz:Nat}{a b:C}:appT H sz a b K=appQ H sz a b K:=by
 unfold appT appQ;refine congrArg (And _) (congrArg (And _) ?_)
 cases a with
 |sl fl z rows=>cases fl <;> simp only[CV]
 |ah l z st n=>simp only[];cases hh:H l <;> simp only[hh,CV]
 |_=>rfl
theorem Qb32 {tag:Nat}{m k:C}{v:V}:updT H tag m k v K=updQ H tag m k v K:=by
 cases m with
 |mp l=>simp only[updT,updQ];cases hh:H l <;> simp only[hh,CV]
 |_=>rfl
theorem Qb1c {tag:Nat}{m k:C}:delT H tag m k K=delQ H tag m k K:=by
 cases m with
 |mp l=>simp only[delT,delQ];cases hh:H l <;> simp only[hh,CV]
 |_=>rfl
theorem Qbp0 {cells:List C}:(EOp.alloc cells).eff P p e H K=∀l,H l=.none->∀H',H'=H.set l (.st cells)->K (Up l) H':=Zar
theorem Qbvv {a:Opd}:(EOp.boxm a).eff P p e H K=(a.fine p e/\(a.v e).cells≠[]/\∀l,H l=.none->∀H',H'=H.set l (.st (a.v e).cells)->K (Up l) H'):=Zar
theorem Qb1r {n:Nat}{a v:Opd}:(EOp.sto n a v).eff P p e H K=(a.fine p e/\v.fine p e/\(a.v e).isC/\(v.v e).cells.length=n/\0<n/\EG H (a.v e).c1 (v.v e).cells K):=by simp only[EOp.eff,Qbu4]
theorem Qb1j {sz:Nat}{a b:Opd}:(EOp.app sz a b).eff P p e H K=(a.fine p e/\b.fine p e/\(a.v e).isC/\(b.v e).isC/\appQ H sz (a.v e).c1 (b.v e).c1 K):=by simp only[EOp.eff,Qb02]
theorem Qb1o {sz:Nat}{zero:List C}{n:Opd}:(EOp.mks sz zero n).eff P p e H K=(n.fine p e/\Dv (n.v e)/\0<=BL (n.v e)/\BL (n.v e)<=LIM/\
   ∀l,H l=.none->∀H',H'=H.set l (.vec sz (List.replicate (BL (n.v e)).toNat zero))->K (.c (.ah l sz 0 (BL (n.v e)).toNat)) H'):=Zar
theorem Qb1n:EOp.mkm.eff P p e H K=∀l,H l=.none->∀H',H'=H.set l (.map 0 [])->K (.c (.mp l)) H':=Zar
theorem Qb1s {tag:Nat}{m k v:Opd}:(EOp.upd tag m k v).eff P p e H K=(m.fine p e/\k.fine p e/\v.fine p e/\(m.v e).isC/\(k.v e).isC/\(v.v e).cells≠[]/\updQ H tag (m.v e).c1 (k.v e).c1 (v.v e) K):=by simp only[EOp.eff,Qb32]
theorem Qb1l {tag:Nat}{m k:Opd}:(EOp.del tag m k).eff P p e H K=(m.fine p e/\k.fine p e/\(m.v e).isC/\(k.v e).isC/\delQ H tag (m.v e).c1 (k.v e).c1 K):=by simp only[EOp.eff,Qb1c]
theorem Qbvy {m:Opd}:(EOp.clrm m).eff P p e H K=(m.fine p e/\match m.v e with
  |.c (.mp l)=>match H l with
   |.map n _=>∀H',H'=H.set l (.map (n+1) [])->K .unk H'
   |_=>False
  |_=>False):=by
 simp only[EOp.eff];refine congrArg (And _) ?_
 cases m.v e with
 |c x=>cases x with
  |mp l=>simp only[];cases hh:H l <;> simp only[hh,CV]
  |_=>rfl
 |_=>rfl
theorem Qbvz {sz:Nat}{zero:List C}{m:Opd}:(EOp.clrs sz zero m).eff P p e H K=(m.fine p e/\match m.v e with
  |.c (.ah l z st n)=>z=sz/\match H l with
   |.vec y rows=>y=sz/\st+n<=rows.length/\∀H',H'=H.set l (.vec sz (rows.take st++List.replicate n zero++rows.drop (st+n)))->K .unk H'
   |_=>False
  |_=>False):=by
 simp only[EOp.eff];refine congrArg (And _) ?_
 cases m.v e with
 |c x=>cases x with
  |ah l z st n=>simp only[];refine congrArg (And _) ?_;cases hh:H l <;> simp only[hh,CV]
  |_=>rfl
 |_=>rfl
theorem Qbvx {f:Nat}{args:List Opd}:(EOp.call f args).eff P p e H K=((∀x∈args,x.fine p e)/\Qr P f (args.map λx=>x.v e) H K):=rfl
theorem Qbp1 {f:Opd}{args:List Opd}:(EOp.f9 f args).eff P p e H K=(f.fine p e/\(∀x∈args,x.fine p e)/\match f.v e with
  |.c (.fn n caps)=>Qr P n ((args.map λx=>x.v e)++caps.map .c) H K
  |_=>False):=rfl
theorem Qb1q {m:Opd}:(EOp.rng m).eff P p e H K=(m.fine p e/\match m.v e with
  |.c (.mp l)=>match H l with
   |.map n es=>es.Nodup/\∀i,H i=.none->∀H',H'=H.set i (.iter (some (l,n)) es none)->K (.c (.itr i)) H'
   |_=>False
  |.c .mnil=>∀i,H i=.none->∀H',H'=H.set i (.iter none [] none)->K (.c (.itr i)) H'
  |_=>False):=by
 simp only[EOp.eff];refine congrArg (And _) ?_
 cases m.v e with
 |c x=>cases x with
  |mp l=>simp only[];cases hh:H l <;> simp only[hh,CV]
  |mnil=>simp only[CV]
  |_=>rfl
 |_=>rfl
theorem Qbv2 {a:Opd}:(EOp.rngs a).eff P p e H K=(a.fine p e/\match a.v e with
  |.c (.str s)=>∀i,H i=.none->∀H',H'=H.set i (.sit s 0)->K (.c (.itr i)) H'
  |_=>False):=by
 simp only[EOp.eff];refine congrArg (And _) ?_
 cases a.v e with
 |c x=>cases x with
  |str s=>simp only[CV]
  |_=>rfl
 |_=>rfl
theorem Qbv1 {it:Opd}:(EOp.nxts it).eff P p e H K=(it.fine p e/\match it.v e with
  |.c (.itr i)=>match H i with
   |.sit s q=>(s.length<=q->K (.tup [.c (.bool false)]) H)/\
     ∀(c:Int) (wd:Nat),q<s.length->1<=wd->((s.getD q 0).toNat<128->c=((s.getD q 0).toNat:Int)/\wd=1)->(128<=(s.getD q 0).toNat->128<=c)->
      ∀H',H'=H.set i (.sit s (q+wd))->K (.tup [.c (.bool true),Uv q,.c (.int .i32 c)]) H'
   |_=>False
  |_=>False):=by
 simp only[EOp.eff];refine congrArg (And _) ?_
 cases it.v e with
 |c x=>cases x with
  |itr i=>
   simp only[];cases hh:H i <;> simp only[CV]
  |_=>rfl
 |_=>rfl
theorem Qb1p {it:Opd}:(EOp.nxt it).eff P p e H K=(it.fine p e/\match it.v e with
  |.c (.itr i)=>match H i with
   |.iter none left _=>K (.tup [.c (.bool false)]) H
   |.iter (some (l,n)) left cur=>(∃es,H l=.map n es)/\(left=[]->K (.tup [.c (.bool false)]) H)/\
     ∀x left',x∈left->(∀y,y∈left'↔y∈left/\y≠x)->left'.Nodup->left'.length+1=left.length->
      ∀H',H'=H.set i (.iter (some (l,n)) left' (some x))->K (.tup [.c (.bool true),.c x.1,x.2]) H'
   |_=>False
  |_=>False):=by
 simp only[EOp.eff];refine congrArg (And _) ?_
 cases it.v e with
 |c x=>cases x with
  |itr i=>
   simp only[]
   cases hh:H i with
   |iter m left cur=>cases m with
    |none=>rfl
    |some y=>simp only[CV]
   |_=>rfl
  |_=>rfl
 |_=>rfl
theorem Qb1m {it:Opd}:(EOp.ent it).eff P p e H K=(it.fine p e/\match it.v e with
  |.c (.itr i)=>match H i with
   |.iter (some (l,n)) left (some x)=>(∃es,H l=.map n es)/\K (.tup [.c x.1,x.2]) H
   |_=>False
  |_=>False):=rfl
def cpyQ (H:Heap)(sz:Nat)(a b:C)(K:V->Heap->Prop):Prop:=
 aZ H b/\b.aP=sz/\match a with
 |.ah l z st n=>match H l with
  |.vec y rows=>z=sz/\y=sz/\st+n<=rows.length/\ay b<=n/\(∀r∈rowsOf H b,ak r=true)/\
    ∀H',H'=H.set l (.vec sz (rows.take st++rowsOf H b++rows.drop (st+ay b)))->K (.c (.int .i64 (ay b))) H'
  |_=>False
 |_=>False
theorem Qb1b {sz:Nat}{a b:C}:cpyT H sz a b K=cpyQ H sz a b K:=by
 unfold cpyT cpyQ;refine congrArg (And _) (congrArg (And _) ?_)
 cases a with
 |ah l z st n=>simp only[];cases hh:H l <;> simp only[hh,CV]
 |_=>rfl
theorem Qb1k {sz:Nat}{a b:Opd}:(EOp.cpy sz a b).eff P p e H K=(a.fine p e/\b.fine p e/\(a.v e).isC/\(b.v e).isC/\cpyQ H sz (a.v e).c1 (b.v e).c1 K):=by simp only[EOp.eff,Qb1b]
theorem Qbvw {sz:Nat}{parts:List Opd}:(EOp.bslm sz parts).eff P p e H K=((∀x∈parts,x.fine p e/\(x.v e).cells.length=sz)/\∀l,H l=.none->∀H',H'=H.set l (.vec sz (parts.map λx=>(x.v e).cells))->K (.c (.ah l sz 0 parts.length)) H'):=Zar
theorem Qbv0 {a:Opd}:(EOp.nilq a).eff P p e H K=(a.fine p e/\match a.v e with
  |.c (.sl _ _ rows)=>∀b:Bool,(b=true->rows=[])->K (.c (.bool b)) H
  |_=>False):=rfl
end
theorem YL {k:IntKind}{n:Int}:(C.int k n).ai=false:=rfl
theorem Qbqm {b:Bool}:(C.bool b).ai=false:=rfl
theorem YG {s:List UInt8}:(C.str s).ai=false:=rfl
theorem Qb2b {f:Bool}{sz:Nat}{r:List (List C)}:(C.sl f sz r).ai=false:=rfl
theorem Qb2a {c:List C}:(C.pp c).ai=false:=rfl
theorem Qb16 {c:C}{a i k:Nat}:(C.ep c a i k).ai=false:=rfl
theorem Qbqp:C.pnil.ai=false:=rfl
theorem YJ {l k:Nat}:(C.ptr l k).ai=false:=rfl
theorem Gn {l a b c:Nat}:(C.ah l a b c).ai=false:=rfl
theorem Qb18 {l:Nat}:(C.mp l).ai=false:=rfl
theorem Qbqo:C.mnil.ai=false:=rfl
theorem YH {n:Nat}:(C.stb n).ai=false:=rfl
theorem YI {n:Nat}:(C.slb n).ai=false:=rfl
theorem Qb15 {a:Bool}{k:List C}{r:List (List C)}:(C.cm a k r).ai=false:=rfl
theorem Qb17 {f:Nat}{c:List C}:(C.fn f c).ai=false:=rfl
theorem Qbqn:C.fnil.ai=false:=rfl
theorem YK {l:Nat}:(C.itr l).ai=false:=rfl
theorem YF:C.unk.ai=false:=rfl
theorem Qb19 {sz:Nat}{r:List (List C)}:(C.ow sz r).ai=true:=rfl
theorem Qb2g {f:Bool}{sz:Nat}{r:List (List C)}:ay (.sl f sz r)=r.length:=rfl
theorem YY {l a b c:Nat}:ay (.ah l a b c)=c:=rfl
theorem Qbp2 {f:Bool}{sz:Nat}{r:List (List C)}:(C.sl f sz r).aP=sz:=rfl
theorem Qblk {l a b c:Nat}:(C.ah l a b c).aP=a:=rfl
theorem Qbsx {f:Bool}{sz:Nat}{r:List (List C)}:rowsOf H (.sl f sz r)=r:=rfl
theorem Qbms {l a st n:Nat}:rowsOf H (.ah l a st n)=match H l with
  |.vec _ rows=>(rows.drop st).take n
  |_=>[]:=rfl
theorem Qb2v {f:Bool}{sz:Nat}{r:List (List C)}:aZ H (.sl f sz r)=True:=rfl
theorem XY {l sz st n:Nat}:aZ H (.ah l sz st n)=match H l with
  |.vec z rows=>z=sz/\st+n<=rows.length
  |_=>False:=rfl
section
variable {K:Uk}
theorem Qb03 {sz z:Nat}{rows:List (List C)}{b:C}:appQ H sz (.sl true z rows) b K=(aZ H b/\b.aP=sz/\z=sz/\(rows=[]\/rowsOf H b≠[])/\(∀r∈rows++rowsOf H b,ak r=true)/\rows.length+ay b<=LIM/\
   ∀l,H l=.none->∀H',H'=H.set l (.vec sz (rows++rowsOf H b))->K (.c (.ah l sz 0 (rows.length+ay b))) H'):=rfl
theorem Qbvn {sz l z st n:Nat}{b:C}:appQ H sz (.ah l z st n) b K=(aZ H b/\b.aP=sz/\match H l with
  |.vec y rows=>z=sz/\y=sz/\st+n<=rows.length/\(∀r∈rowsOf H b,ak r=true)/\n+ay b<=LIM/\
    ∀l',(H.set l .none) l'=.none->∀H',H'=(H.set l .none).set l' (.vec sz ((rows.drop st).take n++rowsOf H b))->
     K (.c (.ah l' sz 0 (n+ay b))) H'
  |_=>False):=rfl
end
theorem Qb3o {lo hi:Option Int}{fl:Bool}{sz:Nat}{rows:List (List C)}:sliC lo hi (.sl fl sz rows)=.sl (fl&&(hi.isNone || rows.isEmpty)) sz ((rows.take (hi.getD rows.length).toNat).drop (lo.getD 0).toNat):=rfl
theorem VM {lo hi:Option Int}{l sz st n:Nat}:sliC lo hi (.ah l sz st n)=.ah l sz (st+(lo.getD 0).toNat) ((hi.getD n).toNat-(lo.getD 0).toNat):=rfl
attribute [go_sem] Qb1k cpyQ Kt VJ HJ Qbu2 VI b_f b_t YP Qbqh Qbqi Qb11 regT Cm Cz lk YV YW YU YT gdO gdB Opd.v Opd.raw Opd.fine V.bare V.fine FOp.val FOp.obl FOp.fct Qbp0 Qbvv Qb1r Qb1j Qb1o Qb1n Qb1s Qb1l Qbvy Qbvz Qbvx Qbp1 Qb1q Qb1p Qbv2 Qbv1 Qb1m Qbv0 Qbvw Xm Qbvb
 V.c1 V.isC V.isAg V.cells DE DW fadC binC binO D7 ak EG Qb03 Qbvn updQ delQ zipE RY Qb3o VM bnds Qb2v XY Qb2g YY Qbsx Qbms Qbp2 Qblk YL Qbqm YG Qb2b Qb2a Qb16 Qbqp YJ Gn Qb18 Qbqo YH YI Qb15 Qb17 Qbqn YK YF Qb19 Dv Fo BL E8 Xl Qbp4 Qbvd Qblm Qb6d Qb7h Qb7i Qb6n
 Qb5w Qb5y Qb3p Qb4v Qb4x Qb1z Jq J8 EU List.take_succ_cons List.take_zero List.take_nil List.drop_succ_cons Jaf List.drop_nil
 List.length_cons Jao J4 J7 List.headD_cons Bool.not_false Bool.not_true Bool.and_true Bool.true_and Bool.and_false Bool.false_and and_self eq_self Bool.false_eq_true Jy Jr Jay Jax not_true_eq_false not_false_eq_true ite_true ite_false ne_eq Option.map_some Option.map_none Option.getD_some Option.getD_none Option.isNone_some Option.isNone_none List.isEmpty_nil List.isEmpty_cons Bool.or_true Bool.true_or Bool.or_false Bool.false_or optI optF Int.toNat_natCast Int.natCast_nonneg Int.add_sub_cancel List.forall_mem_cons Qbb4
end Go.AE
namespace Go.AE
abbrev fI (d : Nat) (o : FOp) : Item := .f (some d) none o
abbrev eI (d : Nat) (o : EOp) : Item := .e (some d) none o
abbrev gT (d t : Nat) (o : FOp) : Item := .f (some d) (some (t, true)) o
abbrev gF (d t : Nat) (o : FOp) : Item := .f (some d) (some (t, false)) o
abbrev kI (n : Int) : Opd := .k (.c (.int .i64 n))
abbrev mJ (d a : Nat) : Item := .f (some d) none (.mv (.t a))
abbrev fJ (d n a : Nat) : Item := .f (some d) none (.fad n (.t a))
abbrev lJ (d a : Nat) : Item := .f (some d) none (.ld 1 false (.t a))
abbrev tJ (d n a : Nat) : Item := .f (some d) none (.ld n true (.t a))
abbrev nJ (d a : Nat) : Item := .f (some d) none (.len (.t a))
abbrev kJ (d a : Nat) : Item := .f (some d) none (.nck (.t a))
abbrev oJ (d a : Nat) : Item := .f (some d) none (.not (.t a))
abbrev iJ (d n a b : Nat) : Item := .f (some d) none (.iad n (.t a) (.t b))
abbrev bJ (d : Nat) (o : BinOp) (a b : Nat) : Item := .f (some d) none (.bin 0 o (.t a) (.t b))
abbrev cJ (d : Nat) (o : BinOp) (a : Nat) (n : Int) : Item := .f (some d) none (.bin 0 o (.t a) (.k (.c (.int .i64 n))))
abbrev gTm (d g a : Nat) : Item := .f (some d) (some (g, true)) (.mv (.t a))
abbrev gFm (d g a : Nat) : Item := .f (some d) (some (g, false)) (.mv (.t a))
abbrev gTf (d g n a : Nat) : Item := .f (some d) (some (g, true)) (.fad n (.t a))
abbrev gFf (d g n a : Nat) : Item := .f (some d) (some (g, false)) (.fad n (.t a))
abbrev gTl (d g a : Nat) : Item := .f (some d) (some (g, true)) (.ld 1 false (.t a))
abbrev gFl (d g a : Nat) : Item := .f (some d) (some (g, false)) (.ld 1 false (.t a))
abbrev aJ (d f : Nat) (l : List Opd) : Item := .e (some d) none (.call f l)
abbrev sJ (k a b : Nat) : Item := .e none none (.sto k (.t a) (.t b))
abbrev fB (d : Nat) (b : Bool) : Item := .f (some d) none (.mv (.k (.c (.bool b))))
abbrev zJ (d : Nat) (n : Int) : Item := .f (some d) none (.mv (.k (.c (.int .i64 n))))
abbrev hJ (d a : Nat) : Item := .chk d none (.ld 1 false (.t a))
abbrev pT (d a b : Nat) : Item := .f (some d) none (.pick (.t a) (.k (.c (.bool true))) (.t b))
abbrev pF (d a b : Nat) : Item := .f (some d) none (.pick (.t a) (.t b) (.k (.c (.bool false))))
abbrev xJ (d k a b : Nat) : Item := .e (some d) none (.app k (.t a) (.t b))
abbrev vJ (d a : Nat) : Item := .f (some d) none (.box (.t a))
abbrev sR (l : List Item) (k : List Nat) (n : SC) : SC := .seq (.reg l k) n
abbrev cX (t i : Nat) (n : SC) : SC := .seq (.cond (.t t) .skip (.exit i)) n
abbrev bL (i : Nat) (l : SC) : SC := .block i (.loop l)
abbrev cT (t : Nat) (a b : SC) : SC := .cond (.t t) a b
theorem Qb54 : Int.toNat 0 = 0 := rfl
theorem Qb55 : Int.toNat 1 = 1 := rfl
theorem Qb3v : Int.toNat 2000 = 2000 := rfl
attribute [go_sem] sJ fB zJ hJ pT pF xJ vJ mJ fJ lJ tJ nJ kJ oJ iJ bJ cJ gTm gFm gTf gFf gTl gFl aJ fI eI gT gF kI false_implies Qb54 Qb55 Qb3v
universe u
variable {α:Sort u}
def fc (n:Nat)(k:Nat->α):α:=
 match n with
 |0=>k 0
 |m+1=>k (m+1)
def dK (n:Nat)(k:Opd->Nat->α):α:=fc n λn=>
 match n % 16 with
 |0=>k (.k (.c (.int .i64 0))) (n / 16)
 |1=>k (.k (.c (.int .i64 1))) (n / 16)
 |2=>k (.k (.c (.bool false))) (n / 16)
 |3=>k (.k (.c (.bool true))) (n / 16)
 |4=>k (.k (.c (.sl true (n / 16 % 16) []))) (n / 256)
 |5=>k (.t (n / 16 % 256)) (n / 4096)
 |6=>k (.k (.c (.int .i64 (n / 16 % 256:Nat)))) (n / 4096)
 |7=>k (.k (.c (.int .i64 (-1)))) (n / 16)
 |8=>k (.k (.c .pnil)) (n / 16)
 |9=>k (.k (.c (.int .i64 (n / 16 % 65536:Nat)))) (n / 1048576)
 |10=>k (.k (.c .fnil)) (n / 16)
 |_=>k (.k (.c .mnil)) (n / 16)
def dO (d n:Nat)(k:Opd->Nat->α):α:=fc n λn=>
 match n / 8 % 2 with
 |0=>k (.t (d-1-n % 8)) (n / 16)
 |_=>match n % 8 with
  |0=>k (.t (n / 16 % 16)) (n / 256)
  |1=>k (.t (16+n / 16 % 16)) (n / 256)
  |2=>k (.t (32+n / 16 % 16)) (n / 256)
  |3=>k (.t (48+n / 16 % 16)) (n / 256)
  |4=>k (.t (64+n / 16 % 16)) (n / 256)
  |5=>k (.t (80+n / 16 % 16)) (n / 256)
  |6=>k (.t (96+n / 16 % 16)) (n / 256)
  |_=>dK (n / 16) k
def dOs:Nat->Nat->Nat->(List Opd->Nat->α)->α
 |0,_,n,k=>k [] n
 |c+1,d,n,k=>dO d n λx n=>dOs c d n λl n=>k (x::l) n
def dP (n:Nat)(k:BinOp->α):α:=
 match n % 16 with
 |0=>k .add
 |1=>k .sub
 |2=>k .eql
 |3=>k .neq
 |4=>k .lss
 |5=>k .leq
 |6=>k .gtr
 |7=>k .geq
 |8=>k .mul
 |9=>k .quo
 |10=>k .rem
 |11=>k .and
 |12=>k .or
 |_=>k .xor
def dC:Nat->Nat->(List C->Nat->α)->α
 |0,n,k=>k [] n
 |c+1,n,k=>fc n λn=>match n % 16 with
  |0=>dC c (n / 16) λl n=>k (.int .i64 0::l) n
  |1=>dC c (n / 16) λl n=>k (.str []::l) n
  |2=>dC c (n / 16) λl n=>k (.bool false::l) n
  |3=>dC c (n / 16) λl n=>k (.pnil::l) n
  |4=>dC c (n / 16) λl n=>k (.mnil::l) n
  |5=>dC c (n / 16) λl n=>k (.fnil::l) n
  |6=>dC c (n / 16) λl n=>k (.int .u8 0::l) n
  |_=>dC c (n / 256) λl m=>k (.sl true (n / 16 % 16) []::l) m
def dPt:Nat->Nat->Nat->(List (Nat×Nat×Opd)->Nat->α)->α
 |0,_,n,k=>k [] n
 |c+1,d,n,k=>dO d (n / 256) λx m=>dPt c d m λl m=>k ((n % 16,n / 16 % 16,x)::l) m
def dF (t d n:Nat)(k:FOp->Nat->α):α:=fc n λn=>
 match t with
 |0=>dO d n λa n=>k (.mv a) n
 |1=>dO d n λa n=>k (.ld 1 false a) n
 |2=>dO d (n / 16) λa m=>k (.fad (n % 16) a) m
 |3=>dO d (n / 16) λa m=>dO d m λi m=>k (.iad (n % 16) a i) m
 |4=>dO d (n / 16) λa m=>dO d m λb m=>dP n λo=>k (.bin 0 o a b) m
 |5=>dO d n λa n=>k (.len a) n
 |6=>dO d (n / 16) λa m=>k (.ld (n % 16) true a) m
 |7=>dO d n λa n=>k (.nck a) n
 |8=>dO d n λa n=>k (.not a) n
 |9=>dO d n λa n=>k (.box a) n
 |10=>dO d n λa n=>dO d n λb n=>dO d n λc n=>k (.pick a b c) n
 |11=>dO d (n / 16) λa m=>k (.ext a (n % 16)) m
 |12=>dOs (n / 16 % 16) d (n / 256) λl m=>k (.kQ (n % 16) l) m
 |13=>dC (n % 16) (n / 16) λz m=>dPt (m % 16) d (m / 16) λl m=>k (.bld z l) m
 |14=>dOs (n / 256 % 16) d (n / 4096) λl m=>k (.mkf (n % 256) l) m
 |_=>dO d (n / 256) λa m=>dO d m λb m=>dP (n / 16) λo=>k (.bin (n % 16) o a b) m
def dE (t d n:Nat)(k:EOp->Nat->α):α:=fc n λn=>
 match t with
 |0=>dOs (n / 256 % 16) d (n / 4096) λl m=>k (.call (n % 256) l) m
 |1=>dO d (n / 16) λa m=>dO d m λb m=>k (.sto (n % 16) a b) m
 |2=>dO d (n / 16) λa m=>dO d m λb m=>k (.app (n % 16) a b) m
 |3=>dC (n % 16) (n / 16) λz m=>k (.alloc z) m
 |4=>dO d (n / 16) λa m=>dOs (n % 16) d m λl m=>k (.f9 a l) m
 |_=>dO d n λa m=>k (.boxm a) m
def gdD (n:Nat):Option (Nat×Bool):=some (n / 2,match n % 2 with
 |0=>false
 |_=>true)
def gx {β:Type}(d:β):List β->Nat->β
 |[],_=>d
 |x::_,0=>x
 |_::l,n+1=>gx d l n
def dI (is:List Item)(d n:Nat)(k:Item->Nat->Nat->α):α:=fc n λn=>
 match n % 16 with
 |13=>dE 0 d (n / 16) λo m=>k (.e (some d) none o) (d+1) m
 |14=>dE 1 d (n / 16) λo m=>k (.e none none o) d m
 |15=>match n / 16 % 16 with
  |0=>dF (n / 256 % 16) d (n / 2^20) λo m=>k (.f (some d) (gdD (n / 4096 % 256)) o) (d+1) m
  |1=>dF (n / 256 % 16) d (n / 2^12) λo m=>k (.f (some d) none o) (d+1) m
  |2=>dE (n / 256 % 16) d (n / 2^12) λo m=>k (.e (some d) none o) (d+1) m
  |3=>dE (n / 256 % 16) d (n / 2^20) λo m=>k (.e (some d) (gdD (n / 4096 % 256)) o) (d+1) m
  |4=>dF (n / 256 % 16) d (n / 2^20) λo m=>k (.chk (n / 4096 % 256) none o) d m
  |5=>dF (n / 256 % 16) d (n / 2^28) λo m=>k (.chk (n / 4096 % 256) (gdD (n / 2^20 % 256)) o) d m
  |6=>dE (n / 256 % 16) d (n / 2^20) λo m=>k (.e none (gdD (n / 4096 % 256)) o) d m
  |7=>k (gx (.e none none .mkm) is (n / 256 % 16)) d (n / 4096)
  |_=>k (gx (.e none none .mkm) is (n / 256 % 16)) (d+1) (n / 4096)
 |t=>dF t d (n / 16) λo m=>k (.f (some d) none o) (d+1) m
def dJ (is:List Item)(d n:Nat)(k:Item->Nat->Nat->α):α:=fc n λn=>
 match n % 256 with
 |159=>dI is (n / 256 % 256) (n / 65536) k
 |_=>dI is d n k
def dL (ts:List (List Item))(is:List Item):Nat->Nat->Nat->(List Item->Nat->α)->α
 |0,_,n,k=>match n % 16 with
  |0=>k [] (n / 16)
  |t=>k (gx [] ts (t-1)) (n / 16)
 |c+1,d,n,k=>dJ is d n λx d n=>dL ts is c d n λl n=>k (x::l) n
def dQ (n:Nat)(k:Nat->Nat->α):α:=fc n λn=>
 match n % 16 with
 |15=>k (n / 16 % 256) (n / 4096)
 |c=>k c (n / 16)
def dLs (ts:List (List Item))(is:List Item)(n:Nat)(k:List Item->Nat->α):α:=
 dQ n λc n=>dL ts is c (n % 256) (n / 256) k
def dN:Nat->Nat->Nat->(List Nat->Nat->α)->α
 |0,_,n,k=>k [] n
 |c+1,d,n,k=>fc n λn=>match n % 16 with
  |15=>dN c (n / 16 % 256+1) (n / 4096) λl m=>k ((n / 16 % 256)::l) m
  |x=>dN c (d+x+1) (n / 16) λl m=>k ((d+x)::l) m
def dR:Nat->Nat->List Nat
 |0,_=>[]
 |c+1,i=>i::dR c (i+1)
def dX:Nat->Nat->(List Nat->Nat->α)->α
 |0,n,k=>k [] n
 |c+1,n,k=>fc n λn=>dX c (n / 256) λl m=>k ((n % 256)::l) m
def dS (cs:List SC)(ts:List (List Item))(is:List Item):Nat->Nat->(SC->Nat->α)->α
 |0,n,k=>k .skip n
 |f+1,n,k=>fc n λn=>match n % 16 with
  |0=>dLs ts is (n / 16) λl m=>dQ m λc m=>dN c 0 m λkp m=>k (.reg l kp) m
  |1=>dLs ts is (n / 16) λl m=>dQ m λc m=>dN c 0 m λkp m=>dS cs ts is f m λb m=>k (.seq (.reg l kp) b) m
  |2=>dS cs ts is f (n / 16) λa m=>dS cs ts is f m λb m=>k (.seq a b) m
  |3=>dS cs ts is f (n / 4096) λa m=>dS cs ts is f m λb m=>k (.cond (.t (n / 16 % 256)) a b) m
  |4=>dS cs ts is f (n / 4096) λa m=>k (.block (n / 16 % 256) a) m
  |5=>dS cs ts is f (n / 16) λa m=>k (.loop a) m
  |6=>k (.exit (n / 16 % 256)) (n / 4096)
  |7=>k .ret (n / 16)
  |8=>k .skip (n / 16)
  |9=>k (gx .skip cs (n / 16 % 16)) (n / 256)
  |10=>dX (n / 4096 % 256) (n / 2^20) λo m=>dLs ts is m λl m=>dQ m λc m=>dN c 0 m λkp m=>k (.jO (n / 16 % 256) o l kp) m
  |11=>dS cs ts is f (n / 2^20) λb m=>k (.seq (.cond (.t (n / 16 % 256)) .skip (.exit (n / 4096 % 256))) b) m
  |12=>dS cs ts is f (n / 16) λa m=>k (.scope a) m
  |13=>k .gh (n / 16)
  |15=>dQ (n / 4096) λc m=>dLs ts is m λl m=>dQ m λc' m=>dN c' 0 m λkp m=>k (.jO (n / 16 % 256) (dR c 0) l kp) m
  |_=>dOs 1 0 (n / 16) λt m=>dS cs ts is f m λa m=>dS cs ts is f m λb m=>k (.cond (t.headD (.t 0)) a b) m
def Pz (a b:α):Prop:=a=b
theorem dcI {n:Nat}:((no_index (OfNat.ofNat n):Nat):Int)=OfNat.ofNat n:=rfl
abbrev dW (n:Nat)(cs:List SC)(ts:List (List Item))(is:List Item:=[]){c:SC}
  (h:Pz (dS cs ts is 40 n (λc _=>c)) c:=by
   conv=>arg 1;whnf
   dsimp only[gdD,gx,dR,List.headD_cons,Nat.reduceMod,Nat.reduceDiv,Nat.reduceAdd,Nat.reduceSub,Nat.reducePow,dcI];exact rfl):SC:=c
abbrev dZ (n:Nat)(a:SC:=.skip)(t:List Item:=[])(b:SC:=.skip){c:SC}
  (h:Pz (dS [a,b] [t] [] 40 n (λc _=>c)) c:=by
   conv=>arg 1;whnf
   dsimp only[gdD,gx,dR,List.headD_cons,Nat.reduceMod,Nat.reduceDiv,Nat.reduceAdd,Nat.reduceSub,Nat.reducePow,dcI];exact rfl):SC:=c
abbrev dY (n:Nat)(t:List Item:=[])(is:List Item:=[]){c:List Item}
  (h:Pz (dLs [t] is n (λc _=>c)) c:=by
   conv=>arg 1;whnf
   dsimp only[gdD,gx,dR,List.headD_cons,Nat.reduceMod,Nat.reduceDiv,Nat.reduceAdd,Nat.reduceSub,Nat.reducePow,dcI];exact rfl):List Item:=c
attribute [go_sem] dZ dY dW
end Go.AE
namespace Go.AE
variable {P:Program}{H:Heap}{g:G}{w:World}{e:Env}
def Obj.used:Obj->Bool
 |.none=>false
 |_=>true
def Heap.frz (H:Heap)(S:Nat->Bool):Heap:=λl=>if S l then .none else H l
def G.frz (g:G)(H:Heap)(S:Nat->Bool):G:=
 { g with
  per:=λb=>g.per b || (match g.own b with
   |some (l,_)=>S l&&(H l).used
   |none=>false)
  own:=λb=>match g.own b with
   |some (l,p)=>if S l&&(H l).used then none else some (l,p)
   |none=>none }
theorem M1 (H:Heap)(S:Nat->Bool)(g:G)(w:World):Le g w (g.frz H S) w:=
 ⟨λb h=>⟨by simp[G.frz,h],rfl⟩,λ_ _ h=>h,Jax _,λ_ _ _ h=>h,rfl,rfl,rfl⟩
theorem II {S:Nat->Bool}{m:Nat}(hm:¬(S m=true/\(H m).used=true)):El g w (g.frz H S) w m:=by
 intro b q hb;refine⟨?_,rfl⟩;have:¬(S m&&(H m).used)=true:=by simpa using hm
 simp only[G.frz,hb];rw[if_neg this]
theorem Gi (hs:Sat H g w)(S:Nat->Bool):Stp H g w (H.frz S) (g.frz H S) w:=by
 have aS:=M1 H S g w;refine⟨aS,λm hm hn=>?_,⟨λb hb=>?_,hs.names,λb x hb=>?_,λb m p hb=>?_,λm=>?_⟩⟩
 ·refine⟨by simp only[Heap.frz,hn];split <;> rfl,?_⟩;exact II (by rw[hn];simp[Obj.used])
 ·obtain⟨h1,h2⟩:=hs.fresh b hb;simp[G.frz,h1,h2]
 ·have aW:(match g.own b with
   |some (l,p)=>if S l&&(H l).used then none else some (l,p)
   |none=>none)=some x:=hb
  show (g.per b || (match g.own b with
   |some (l,_)=>S l&&(H l).used
   |none=>false))=false
  cases ho:g.own b with
  |none=>rw[ho]at aW;simp at aW
  |some y=>
   obtain⟨l,p⟩:=y;rw[ho]at aW;simp only at aW⊢;have:=hs.excl b _ ho;by_cases hx:(S l&&(H l).used)=true
   ·rw[if_pos hx]at aW;simp at aW
   ·simp[this,hx]
 ·have aW:(match g.own b with
   |some (l,p)=>if S l&&(H l).used then none else some (l,p)
   |none=>none)=some (m,p):=hb
  cases ho:g.own b with
  |none=>rw[ho]at aW;simp at aW
  |some y=>
   obtain⟨l,q⟩:=y;rw[ho]at aW;simp only at aW;by_cases hx:(S l&&(H l).used)=true
   ·rw[if_pos hx]at aW;simp at aW
   ·rw[if_neg hx]at aW;simp at aW;obtain⟨rfl,rfl⟩:=aW;exact hs.named b _ _ ho
 ·by_cases hS:S m=true
  ·simp[Heap.frz,hS,SatObj]
  ·have dT:H.frz S m=H m:=by simp[Heap.frz,hS]
   have hk:El g w (g.frz H S) w m:=II (by simp[hS]);refine SatObj.keep (H':=H.frz S) hs aS hk dT λm' v left cur hc v' es hv=>?_;by_cases oC:S m'=true
   ·simp[Heap.frz,oC]at hv
   ·have:H.frz S m'=H m':=(by simp[Heap.frz,oC]);rw[this]at hv;exact .inl ⟨hv,II (by simp[oC])⟩
inductive FrzC (H:Heap)(S:Nat->Bool):C->C->Prop
 |same (c:C) (h:c.ai=false):FrzC H S c c
 |sl (fl:Bool) (sz:Nat) (rows rows':List (List C)) (hl:rows'.length=rows.length) (hr:∀(i:Nat) (r r':List C),rows[i]? = some r->rows'[i]? = some r'->r'.length=r.length)
   (hc:∀(i:Nat) (r r':List C) (j:Nat) (c c':C),rows[i]? = some r->rows'[i]? = some r'->r[j]? = some c->r'[j]? = some c'->FrzC H S c c'):FrzC H S (.sl fl sz rows) (.sl false sz rows')
 |pp (cells cells':List C) (hl:cells'.length=cells.length) (hc:∀(j:Nat) (c c':C),cells[j]? = some c->cells'[j]? = some c'->FrzC H S c c'):FrzC H S (.pp cells) (.pp cells')
 |ah (l sz st n:Nat) (all rows rows':List (List C)) (hS:S l=true) (hH:H l=.vec sz all) (hb:st+n<=all.length) (bI:rows=(all.drop st).take n)
   (hl:rows'.length=rows.length) (hr:∀(i:Nat) (r r':List C),rows[i]? = some r->rows'[i]? = some r'->r'.length=r.length)
   (hc:∀(i:Nat) (r r':List C) (j:Nat) (c c':C),rows[i]? = some r->rows'[i]? = some r'->r[j]? = some c->r'[j]? = some c'->FrzC H S c c'):FrzC H S (.ah l sz st n) (.sl false sz rows')
 |ptr (l k:Nat) (all cells cells':List C) (hS:S l=true) (hH:H l=.st all) (mL:cells=all.drop k) (hl:cells'.length=cells.length)
   (hc:∀(j:Nat) (c c':C),cells[j]? = some c->cells'[j]? = some c'->FrzC H S c c'):FrzC H S (.ptr l k) (.pp cells')
 |ow (sz:Nat) (rows rows':List (List C)) (hl:rows'.length=rows.length) (hr:∀(i:Nat) (r r':List C),rows[i]? = some r->rows'[i]? = some r'->r'.length=r.length)
   (hc:∀(i:Nat) (r r':List C) (j:Nat) (c c':C),rows[i]? = some r->rows'[i]? = some r'->r[j]? = some c->r'[j]? = some c'->FrzC H S c c'):FrzC H S (.ow sz rows) (.sl false sz rows')
theorem C2 {α:Type}{l l':List α}(h:l'.length=l.length){i:Nat}{x:α}(hx:l'[i]? = some x):∃y,l[i]? = some y:=by
 have:i<l'.length:=(Jv.1 hx).1;exact⟨l[i]'ZB,Jw ZB⟩
theorem Hf {S:Nat->Bool}{b l:Nat}{p:List Nat}(ho:g.own b=some (l,p))(hS:S l=true)(hu:(H l).used=true):(g.frz H S).per b=true:=by
 simp[G.frz,ho,hS,hu]
theorem He (hs:Sat H g w){S:Nat->Bool}{c c':C}(h:FrzC H S c c') :
  (∀v,RepC w g c v->RepC w (g.frz H S) c' v)/\∀l p v,S l=true->(H l).used=true->RepO w g l p c v->RepC w (g.frz H S) c' v:=by
 have aS:=M1 H S g w
 induction h with
 |same c h=>
  refine⟨λv hv=>hv.mono aS,λl p v _ _ hv=>?_⟩;exact (hv.plain_of λsz rows hc=>by subst hc;simp[C.ai]at h).mono aS
 |sl fl sz rows rows' hl hr hc ih=>
  have key:∀v,RepC w g (.sl fl sz rows) v->RepC w (g.frz H S) (.sl false sz rows') v:=by
   intro v hv
   cases hv with
   |bV _ _ ad=>
    have:rows'=[]:=Jx.1 Zaj;subst this;exact .bV _ _ _
   |sl _ _ _ b off cap val h1 h2 h3 h4 h5 h6 h7=>
    rw[<-hl]at h1 h2 h3⊢;refine .sl false sz rows' b off cap val h1 ZD h3 (aS.per b h4).1 (λi r' bf=>?_) (λi r' j c' bf cn=>?_) (λi r' j c' bf cn=>?_)
    ·obtain⟨r,bE⟩:=C2 hl bf;rw[hr i r r' bE bf];exact h5 i r bE
    ·obtain⟨r,bE⟩:=C2 hl bf;obtain⟨c,dd⟩:=C2 (hr i r r' bE bf) cn;exact h6 i r j c bE dd
    ·obtain⟨r,bE⟩:=C2 hl bf;obtain⟨c,dd⟩:=C2 (hr i r r' bE bf) cn;exact (ih i r r' j c c' bE bf dd cn).1 _ (h7 i r j c bE dd)
  exact⟨key,λl p v _ _ hv=>key v (hv.plain_of λ_ _ hc=>Zbo)⟩
 |pp cells cells' hl hc ih=>
  have key:∀v,RepC w g (.pp cells) v->RepC w (g.frz H S) (.pp cells') v:=by
   intro v hv
   cases hv with
   |pp _ b off val h1 h2 h3=>
    refine .pp cells' b off val (aS.per b h1).1 (λj c' cn=>?_) (λj c' cn=>?_)
    ·obtain⟨c,dd⟩:=C2 hl cn;exact h2 j c dd
    ·obtain⟨c,dd⟩:=C2 hl cn;exact (ih j c c' dd cn).1 _ (h3 j c dd)
  exact⟨key,λl p v _ _ hv=>key v (hv.plain_of λ_ _ hc=>Zbo)⟩
 |ah l sz st n all rows rows' hS hH hb bI hl hr hc ih=>
  have key:∀v,RepC w g (.ah l sz st n) v->RepC w (g.frz H S) (.sl false sz rows') v:=by
   intro v hv;have am:rows.length=n:=by rw[bI];simp;omega
   cases hv with
   |bK _ _ _ ad=>
    have:rows'=[]:=Jx.1 ZB;subst this;exact .bV _ _ _
   |ah _ _ _ _ cap b base T m h1 h2 h3 h4=>
    have bg:=hs.objs l;rw[hH]at bg;obtain⟨b',base',T',cs,val,r1,r2,r3,r4,r5,r6,r7,r8⟩:=SatVec.of bg h1;rw[h1]at r1;simp only[Jf,Jai,true_and]at r1;obtain⟨rfl,rfl⟩:=r1;have df:=Hf (g:=g) (H:=H) r2 hS Zbp;have b7:∀(i:Nat) (r:List C),rows[i]? = some r->all[st+i]? = some r:=by
     intro i r hi;rw[bI,List.getElem?_take]at hi;split at hi
     ·rw[Jar]at hi;exact hi
     ·simp at hi
    have hn:n=rows'.length:=ZB;rw[hn]at h2⊢;refine .sl false sz rows' b (base+st * sz) cap (λi j=>val (st+i) j) ZB ZD h2 df (λi r' bf=>?_) (λi r' j c' bf cn=>?_) (λi r' j c' bf cn=>?_)
    ·obtain⟨r,bE⟩:=C2 hl bf;rw[hr i r r' bE bf];exact r6 _ r (b7 i r bE)
    ·obtain⟨r,bE⟩:=C2 hl bf;obtain⟨c,dd⟩:=C2 (hr i r r' bE bf) cn;rw[F8 r3,show base+st * sz+i * sz+j=base+(st+i) * sz+j by rw[Nat.add_mul];omega];exact r7 _ r j c (b7 i r bE) dd
    ·obtain⟨r,bE⟩:=C2 hl bf;obtain⟨c,dd⟩:=C2 (hr i r r' bE bf) cn;exact (ih i r r' j c c' bE bf dd cn).2 l _ _ hS Zbp (r8 _ r j c (b7 i r bE) dd)
  exact⟨key,λl p v _ _ hv=>key v (hv.plain_of λ_ _ hc=>Zbo)⟩
 |ptr l k all cells cells' hS hH mL hl hc ih=>
  have key:∀v,RepC w g (.ptr l k) v->RepC w (g.frz H S) (.pp cells') v:=by
   intro v hv
   cases hv with
   |ptr _ _ b sz base h1=>
    have bg:=hs.objs l;rw[hH]at bg;obtain⟨b',sz',T,cs,r1,r2,r3,r4,r5⟩:=bg;rw[h1]at r1;simp only[Jf,Jai]at r1;obtain⟨rfl,rfl,rfl⟩:=r1;have df:=Hf (g:=g) (H:=H) r2 hS Zbp;have b7:∀(j:Nat) (c:C),cells[j]? = some c->all[k+j]? = some c:=by
     intro j c hj;rw[mL,Jar]at hj;exact hj
    have lw:∀(j:Nat) (c:C),all[j]? = some c->cs[j]? = some (cs.getD j undef):=by
     intro j c hj;have af:j<cs.size:=(by rw[r4];exact (Jv.1 hj).1);rw[Js af,Jg,Js af];rfl
    refine .pp cells' b (0+k) (λj=>cs.getD (k+j) undef) df (λj c' cn=>?_) (λj c' cn=>?_)
    ·obtain⟨c,dd⟩:=C2 hl cn;rw[F8 r3,show 0+k+j=k+j by omega];exact lw _ c (b7 j c dd)
    ·obtain⟨c,dd⟩:=C2 hl cn;exact (ih j c c' dd cn).2 l _ _ hS Zbp (r5 _ c _ (b7 j c dd) (lw _ c (b7 j c dd)))
  exact⟨key,λl p v _ _ hv=>key v (hv.plain_of λ_ _ hc=>Zbo)⟩
 |ow sz rows rows' hl hr hc ih=>
  refine⟨λv hv=>(by cases hv),λl p v hS hu hv=>?_⟩
  cases hv with
  |plain _ _ _ h=>cases h
  |ownil _ _ ad=>
   have:rows'=[]:=Jx.1 Zaj;subst this;exact .bV _ _ _
  |ow _ _ _ b off cap T cs val h1 h2 h3 h4 h5 h6 h7 h8=>
   have df:=Hf (g:=g) (H:=H) h3 hS hu;rw[<-hl]at h1 h2⊢;refine .sl false sz rows' b off cap val h1 ZD h2 df (λi r' bf=>?_) (λi r' j c' bf cn=>?_) (λi r' j c' bf cn=>?_)
   ·obtain⟨r,bE⟩:=C2 hl bf;rw[hr i r r' bE bf];exact h6 i r bE
   ·obtain⟨r,bE⟩:=C2 hl bf;obtain⟨c,dd⟩:=C2 (hr i r r' bE bf) cn;rw[F8 h4];exact h7 i r j c bE dd
   ·obtain⟨r,bE⟩:=C2 hl bf;obtain⟨c,dd⟩:=C2 (hr i r r' bE bf) cn;exact (ih i r r' j c c' bE bf dd cn).2 l _ _ hS hu (h8 i r j c bE dd)
inductive FrzV (H:Heap)(S:Nat->Bool):V->V->Prop
 |c (a b:C) (h:FrzC H S a b):FrzV H S (.c a) (.c b)
 |ag (cs cs':List C) (hl:cs'.length=cs.length) (h:∀(j:Nat) (c c':C),cs[j]? = some c->cs'[j]? = some c'->FrzC H S c c'):FrzV H S (.ag cs) (.ag cs')
 |tup (xs xs':List V) (hl:xs'.length=xs.length) (h:∀(j:Nat) (x x':V),xs[j]? = some x->xs'[j]? = some x'->FrzV H S x x'):FrzV H S (.tup xs) (.tup xs')
 |unk (x:V):FrzV H S x .unk
theorem FX (hs:Sat H g w){S:Nat->Bool}{x x':V}(h:FrzV H S x x'):∀v,RepV w g x v->RepV w (g.frz H S) x' v:=by
 induction h with
 |c a b h=>
  intro v hv;exact .c _ _ ((He hs h).1 v hv.aO)
 |ag cs cs' hl h=>
  intro v hv
  cases hv with
  |ag _ vs h1 h2=>
   refine .ag cs' vs ZB λj c' u cn hu=>?_;obtain⟨c,hc⟩:=C2 hl cn;exact (He hs (h j c c' hc cn)).1 u (h2 j c u hc hu)
 |tup xs xs' hl h ih=>
  intro v hv
  cases hv with
  |tup _ vs h1 h2=>
   refine .tup xs' vs ZB λj x' u gB hu=>?_;obtain⟨x,hx⟩:=C2 hl gB;exact ih j x x' hx gB u (h2 j x u hx hu)
 |unk x=>exact λv _=>.unk v
abbrev frzK (K:V->Heap->Prop):V->Heap->Prop
 |.pn v,H'=>∃S,K (.pn v) (H'.frz S)
 |x,H'=>∃S x',FrzV H' S x x'/\K x' (H'.frz S)
theorem Qbv9 {K:V->Heap->Prop}{x:V}{v:Value}(h:frzK K x H)(hr:RepV w g x v):∃S x',FrzV H S x x'/\K x' (H.frz S):=by
 cases hr <;> exact h
theorem Qbpj {f:Nat}{args:List V}{K:V->Heap->Prop}(h:Qr P f args H (frzK K)):Qr P f args H K:=by
 refine⟨h.1,λg w vs hs hl hv=>?_⟩;refine Calls.mono (h.2 g w vs hs hl hv) ?_;rintro e w' (⟨v,x,H',g',he,hx,aN,hr⟩|⟨v,H',g',he,hx,aN⟩)
 ·obtain⟨S,x',hf,hk⟩:=Qbv9 hx hr;exact .inl ⟨v,x',H'.frz S,g'.frz H' S,he,hk,aN.trans (Gi aN.sat S),FX aN.sat hf v hr⟩
 ·obtain⟨S,hk⟩:∃S,K (.pn v) (H'.frz S):=hx;exact .inr ⟨v,H'.frz S,g'.frz H' S,he,hk,aN.trans (Gi aN.sat S)⟩
theorem Qbk5 {f:Nat}{args:List V}{K K':V->Heap->Prop}(h:Qr P f args H K)(hk:∀x H',K x H'->K' x H'):Qr P f args H K':=by
 refine⟨h.1,λg w vs hs hl hv=>?_⟩;refine Calls.mono (h.2 g w vs hs hl hv) ?_;rintro e w' (⟨v,x,H',g',he,hx,aN,hr⟩|⟨v,H',g',he,hx,aN⟩)
 ·exact .inl ⟨v,x,H',g',he,hk x H' hx,aN,hr⟩
 ·exact .inr ⟨v,H',g',he,hk _ H' hx,aN⟩
theorem Qbqf {e e':Env}(S:Nat->Bool)(h:∀t,FrzV H S (lk t e) (lk t e')):Fu e H e' (H.frz S):=by
 intro g w tmps hs hr;exact⟨g.frz H S,Gi hs S,λt=>FX hs (h t) _ (hr t)⟩
def FrzK (H:Heap)(S:Nat->Bool)(c c':C):Prop:=c'=c\/(c.ai=false/\FrzC H S c c')
inductive FrzO (H:Heap)(S:Nat->Bool):Obj->Obj->Prop
 |same (o:Obj):FrzO H S o o
 |st (cells cells':List C) (hl:cells'.length=cells.length) (h:∀(j:Nat) (c c':C),cells[j]? = some c->cells'[j]? = some c'->FrzK H S c c'):FrzO H S (.st cells) (.st cells')
 |vec (sz:Nat) (rows rows':List (List C)) (hl:rows'.length=rows.length) (hr:∀(i:Nat) (r r':List C),rows[i]? = some r->rows'[i]? = some r'->r'.length=r.length)
   (h:∀(i:Nat) (r r':List C) (j:Nat) (c c':C),rows[i]? = some r->rows'[i]? = some r'->r[j]? = some c->r'[j]? = some c'->FrzK H S c c'):FrzO H S (.vec sz rows) (.vec sz rows')
def FrzH (H:Heap)(S:Nat->Bool)(H':Heap):Prop:=∀m,(S m=true/\H' m=.none)\/(S m=false/\FrzO H S (H m) (H' m))
theorem Ep (H:Heap)(S:Nat->Bool):FrzH H S (H.frz S):=λm=>by
 cases h:S m with
 |true=>exact .inl ⟨rfl,by simp[Heap.frz,h]⟩
 |false=>exact .inr ⟨rfl,by simp[Heap.frz,h];exact .same _⟩
theorem FrzH.set {S:Nat->Bool}{H':Heap}(h:FrzH H S H'){l:Nat}{o:Obj}(hl:S l=false)(ho:FrzO H S (H l) o):FrzH H S (H'.set l o):=λm=>by
 by_cases hm:m=l
 ·subst hm;rw[Heap.aF];exact .inr ⟨hl,ho⟩
 ·rw[Heap.aj _ _ hm];exact h m
theorem KH (hs:Sat H g w){S:Nat->Bool}{H':Heap}(h:FrzH H S H'):Stp H g w H' (g.frz H S) w:=by
 have h0:=Gi hs S;have aS:=h0.le;have iz:∀m,S m=false->El g w (g.frz H S) w m:=λm hm=>II (by simp[hm]);have vE:∀(l:Nat) (p:List Nat) (c c':C) (v:Value),S l=false->FrzK H S c c'->RepO w g l p c v->RepO w (g.frz H S) l p c' v:=by
  intro l p c c' v hl hk hr;rcases hk with rfl|⟨h1,h2⟩
  ·exact hr.move aS λq b hb=>⟨(iz l hl b _ hb).1,rfl⟩
  ·exact .plain _ _ _ _ ((He hs h2).1 v (hr.plain_of λsz rows hc=>by subst hc;simp[C.ai]at h1))
 refine⟨aS,λm hm hn=>?_,⟨h0.sat.fresh,h0.sat.names,h0.sat.excl,h0.sat.named,λm=>?_⟩⟩
 ·refine⟨?_,II (by rw[hn];simp[Obj.used])⟩;rcases h m with ⟨_,h1⟩|⟨_,h1⟩
  ·exact h1
  ·rw[hn]at h1;generalize H' m=o at h1;cases h1;rfl
 ·rcases h m with ⟨_,h1⟩|⟨hS,h1⟩
  ·rw[h1];exact trivial
  ·have ho:=hs.objs m;generalize hA:H m=A at h1 ho;generalize hB:H' m=B at h1
   cases h1 with
   |same=>
    have:=SatObj.keep (H':=H') hs aS (iz m hS) (hB.trans hA.symm) λm' v left cur hc v' es hv=>?_
    ·rw[hB]at this;exact this
    ·rcases h m' with ⟨_,h2⟩|⟨oC,h2⟩
     ·rw[h2]at hv;simp at hv
     ·rw[hv]at h2;generalize hA':H m'=A' at h2;cases h2;exact .inl ⟨rfl,iz m' oC⟩
   |st cells cells' hl hc=>
    obtain⟨b,sz,T,cs,r1,r2,r3,r4,r5⟩:=ho;refine⟨b,sz,T,cs,r1,(iz m hS b _ r2).1,r3,by rw[hl];exact r4,λk c' v cn hv=>?_⟩;obtain⟨c,dd⟩:=C2 hl cn;exact vE _ _ c c' v hS (hc k c c' dd cn) (r5 k c v dd hv)
   |vec sz rows rows' hl hr hc=>
    rcases ho with ⟨r1,r2⟩|⟨b,base,T,cs,val,r1,r2,r3,r4,r5,r6,r7,r8⟩
    ·refine .inl ⟨?_,r2⟩;subst r1;exact Jx.1 hl
    ·refine .inr ⟨b,base,T,cs,val,r1,(iz m hS b _ r2).1,r3,by rw[hl];exact r4,by rw[hl];exact r5,λi r' bf=>?_,λi r' j c' bf cn=>?_,λi r' j c' bf cn=>?_⟩
     ·obtain⟨r,bE⟩:=C2 hl bf;rw[hr i r r' bE bf];exact r6 i r bE
     ·obtain⟨r,bE⟩:=C2 hl bf;obtain⟨c,dd⟩:=C2 (hr i r r' bE bf) cn;exact r7 i r j c bE dd
     ·obtain⟨r,bE⟩:=C2 hl bf;obtain⟨c,dd⟩:=C2 (hr i r r' bE bf) cn;exact vE _ _ c c' _ hS (hc i r r' j c c' bE bf dd cn) (r8 i r j c bE dd)
abbrev finK (K:V->Heap->Prop):V->Heap->Prop
 |.pn v,H'=>K (.pn v) H'
 |x,H'=>∃S x' H2,FrzV H' S x x'/\FrzH H' S H2/\K x' H2
theorem Qb4u {K:Uk}{x:C}:finK K (.c x) H=∃S x' H2,FrzV H S (.c x) x'/\FrzH H S H2/\K x' H2:=rfl
theorem Qb1u {K:Uk}{x:List C}:finK K (.ag x) H=∃S x' H2,FrzV H S (.ag x) x'/\FrzH H S H2/\K x' H2:=rfl
theorem Qbv4 {K:Uk}{x:List V}:finK K (.tup x) H=∃S x' H2,FrzV H S (.tup x) x'/\FrzH H S H2/\K x' H2:=rfl
theorem Qb1v {K:V->Heap->Prop}{v:Value}:finK K (.pn v) H=K (.pn v) H:=rfl
attribute [go_sem] Qb4u Qb1u Qbv4 Qb1v
theorem Qbv5 {K:V->Heap->Prop}{x:V}{v:Value}(h:finK K x H)(hr:RepV w g x v):∃S x' H2,FrzV H S x x'/\FrzH H S H2/\K x' H2:=by
 cases hr <;> exact h
theorem DS {f:Nat}{args:List V}{K:V->Heap->Prop}(h:Qr P f args H (finK K)):Qr P f args H K:=by
 refine⟨h.1,λg w vs hs hl hv=>?_⟩;refine Calls.mono (h.2 g w vs hs hl hv) ?_;rintro e w' (⟨v,x,H',g',he,hx,aN,hr⟩|⟨v,H',g',he,hx,aN⟩)
 ·obtain⟨S,x',H2,hf,hh,hk⟩:=Qbv5 hx hr;exact .inl ⟨v,x',H2,g'.frz H' S,he,hk,aN.trans (KH aN.sat hh),FX aN.sat hf v hr⟩
 ·exact .inr ⟨v,H',g',he,hx,aN⟩
theorem E7 {e e':Env}(S:Nat->Bool){H2:Heap}(h:∀t,FrzV H S (lk t e) (lk t e'))(hh:FrzH H S H2):Fu e H e' H2:=by
 intro g w tmps hs hr;exact⟨g.frz H S,KH hs hh,λt=>FX hs (h t) _ (hr t)⟩
def un (H:Heap)(m:Nat):Bool:=!(H m).used
theorem GW {m:Nat}(h:H m≠.none):un H m=false:=by
 unfold un;cases hm:H m <;> first|rfl|exact absurd hm h
theorem DG {m:Nat}(h:H m=.none):un H m=true:=by simp[un,h,Obj.used]
theorem GN {H':Heap}{m:Nat}(h:H m≠.none):H'.frz (un H) m=H' m:=by simp[Heap.frz,GW h]
def C.plain:C->Bool
 |.int _ _|.bool _|.str _|.sl _ _ _|.pp _|.pnil|.mnil|.slb _|.stb _|.cm _ _ _|.fnil|.unk=>true
 |_=>false
theorem Qg {S:Nat->Bool}{c:C}(h:c.plain=true):FrzC H S c c:=.same c (by cases c <;> simp_all[C.plain,C.ai])
theorem HF {S:Nat->Bool}{l sz n:Nat}{rows:List (List C)}(hS:S l=true)(hH:H l=.vec sz rows)(hn:n=rows.length)(hr:∀r∈rows,∀c∈r,c.ai=false):FrzC H S (.ah l sz 0 n) (.sl false sz rows):=by
 subst hn;refine .ah l sz 0 rows.length rows rows rows hS hH ZB ZD rfl (λi r r' h1 h2=>by rw[h1]at h2;simp at h2;rw[h2]) (λi r r' j c c' h1 h2 h3 h4=>?_);rw[h1]at h2;simp at h2;subst h2;rw[h3]at h4;simp at h4;subst h4;exact .same _ (hr r (Ja h1) c (Ja h3))
theorem FI {S:Nat->Bool}{fl:Bool}{sz:Nat}{rows:List (List C)}(hr:∀r∈rows,∀c∈r,c.ai=false):FrzC H S (.sl fl sz rows) (.sl false sz rows):=by
 refine .sl fl sz rows rows rfl (λi r r' h1 h2=>by rw[h1]at h2;simp at h2;rw[h2]) (λi r r' j c c' h1 h2 h3 h4=>?_);rw[h1]at h2;simp at h2;subst h2;rw[h3]at h4;simp at h4;subst h4;exact .same _ (hr r (Ja h1) c (Ja h3))
inductive FrzL (H:Heap)(S:Nat->Bool):List C->List C->Prop
 |nil:FrzL H S [] []
 |cons {c c':C} {l l':List C} (h:FrzC H S c c') (t:FrzL H S l l'):FrzL H S (c::l) (c'::l')
theorem FrzL.spec {S:Nat->Bool}{l l':List C}(h:FrzL H S l l'):l'.length=l.length/\∀(j:Nat) (c c':C),l[j]? = some c->l'[j]? = some c'->FrzC H S c c':=by
 induction h with
 |nil=>exact⟨rfl,λj c c' h=>ZI⟩
 |cons h t ih=>
  refine⟨Zbq,λj c c' h1 h2=>?_⟩
  cases j with
  |zero=>simp at h1 h2;subst h1;subst h2;exact h
  |succ j=>simp at h1 h2;exact ih.2 j c c' h1 h2
theorem FrzL.ag {S:Nat->Bool}{l l':List C}(h:FrzL H S l l'):FrzV H S (.ag l) (.ag l'):=.ag _ _ h.spec.1 h.spec.2
inductive FrzKL (H:Heap)(S:Nat->Bool):List C->List C->Prop
 |nil:FrzKL H S [] []
 |same {c:C} {l l':List C} (t:FrzKL H S l l'):FrzKL H S (c::l) (c::l')
 |cons {c c':C} {l l':List C} (h:c.ai=false) (h':FrzC H S c c') (t:FrzKL H S l l'):FrzKL H S (c::l) (c'::l')
theorem FrzKL.st {S:Nat->Bool}{l l':List C}(h:FrzKL H S l l'):FrzO H S (.st l) (.st l'):=by
 have:l'.length=l.length/\∀(j:Nat) (c c':C),l[j]? = some c->l'[j]? = some c'->FrzK H S c c':=by
  induction h with
  |nil=>exact⟨rfl,λj c c' h=>ZI⟩
  |same t ih=>
   refine⟨Zbq,λj c c' h1 h2=>?_⟩
   cases j with
   |zero=>simp at h1 h2;subst h1;subst h2;exact .inl rfl
   |succ j=>simp at h1 h2;exact ih.2 j c c' h1 h2
  |cons h h' t ih=>
   refine⟨Zbq,λj c c' h1 h2=>?_⟩
   cases j with
   |zero=>simp at h1 h2;subst h1;subst h2;exact .inr ⟨h,h'⟩
   |succ j=>simp at h1 h2;exact ih.2 j c c' h1 h2
 exact .st _ _ this.1 this.2
end Go.AE
namespace Go.AE
variable {P:Program}{H0 H H':Heap}{E L:Ul}
structure Kn (H0 H:Heap)(E L:Ul):Prop where
 get:∀p∈E++L,H p.1=p.2/\p.2≠.none
 ext:∀p∈E,H0 p.1≠.none
 loc:∀p∈L,H0 p.1=.none
 dE:(E.map Prod.fst).Nodup
 dL:(L.map Prod.fst).Nodup
 chg:∀m,H0 m≠.none->m∉E.map Prod.fst->H m=H0 m
def Upd (H H':Heap)(U:List (Nat×Obj)):Prop:=(∀p∈U,H' p.1=p.2)/\∀m,H m≠.none->m∉U.map Prod.fst->H' m=H m
theorem Kn.an (H:Heap):Kn H H [] []:=⟨ZD,ZD,ZD,ZD,ZD,λ_ _ _=>rfl⟩
theorem Kn.start1 {l:Nat}{o:Obj}(h:H l=o)(ho:o≠.none):Kn H H [(l,o)] []:=
 ⟨by simp[h,ho],by simp[h,ho],ZD,ZD,ZD,λ_ _ _=>rfl⟩
theorem Kn.start2 {l m:Nat}{o q:Obj}(h:H l=o)(ho:o≠.none)(h2:H m=q)(hq:q≠.none)(hn:l≠m):Kn H H [(l,o),(m,q)] []:=
 ⟨by simp[h,ho,h2,hq],by simp[h,ho,h2,hq],ZD,ZaQ,ZD,λ_ _ _=>rfl⟩
theorem Kn.e (hk:Kn H0 H E L)(i:Nat){l:Nat}{o:Obj}(h:E[i]? = some (l,o)):H l=o:=
 (hk.get (l,o) (Jc _ (Ja h))).1
theorem Kn.l (hk:Kn H0 H E L)(i:Nat){l:Nat}{o:Obj}(h:L[i]? = some (l,o)):H l=o:=
 (hk.get (l,o) (Jd _ (Ja h))).1
theorem Kn.free (hk:Kn H0 H E L)(i:Nat){l:Nat}{o:Obj}(h:L[i]? = some (l,o)):H0 l=.none:=hk.loc (l,o) (Ja h)
theorem Kn.un (hk:Kn H0 H E L)(i:Nat){l:Nat}{o:Obj}(h:L[i]? = some (l,o)):un H0 l=true:=DG (hk.free i h)
theorem Kn.usedE (hk:Kn H0 H E L)(i:Nat){l:Nat}{o:Obj}(h:E[i]? = some (l,o)):H0 l≠.none:=hk.ext (l,o) (Ja h)
theorem Kn.ne (hk:Kn H0 H E L)(i j:Nat){l m:Nat}{o q:Obj}(h:E[i]? = some (l,o))(h2:L[j]? = some (m,q)):l≠m:=λhh=>by
 subst hh;exact hk.usedE i h (hk.free j h2)
theorem Cc {L:Ul}{p:Nat×Obj}(h:p∈L):p.1∈L.map Prod.fst:=List.mem_map_of_mem h
theorem DH {L:Ul}(hd:(L.map Prod.fst).Nodup){i j:Nat}{p q:Nat×Obj}(hi:L[i]? = some p)(hj:L[j]? = some q)(h:p.1=q.1):i=j:=by
 have h1:(L.map Prod.fst)[i]? = some p.1:=by simp[hi]
 have h2:(L.map Prod.fst)[j]? = some q.1:=by simp[hj]
 have af:i<(L.map Prod.fst).length:=(Jv.1 h1).1;exact (List.getElem?_inj af hd).1 (by rw[h1,h2,h])
theorem Kn.neL (hk:Kn H0 H E L)(i j:Nat){l m:Nat}{o q:Obj}(h:L[i]? = some (l,o))(h2:L[j]? = some (m,q))(gL:i≠j):l≠m:=λhh=>
 gL (DH hk.dL h h2 hh)
theorem Kn.newFree (hk:Kn H0 H E L){x:Nat}(hx:H x=.none):H0 x=.none/\x∉E.map Prod.fst/\x∉L.map Prod.fst:=by
 have bD:∀p∈E++L,p.1≠x:=λp hp hh=>by
  obtain⟨h1,h2⟩:=hk.get p hp;rw[hh,hx]at h1;exact h2 h1.symm
 have hE:x∉E.map Prod.fst:=λh=>by
  obtain⟨p,hp,hh⟩:=Jh.1 h;exact bD p (Jc _ hp) hh
 refine⟨?_,hE,λh=>?_⟩
 ·cases h0:H0 x with
  |none=>rfl
  |_=>have:=hk.chg x (by rw[h0];simp) hE;rw[hx,h0]at this;simp at this
 ·obtain⟨p,hp,hh⟩:=Jh.1 h;exact bD p (Jd _ hp) hh
theorem Kn.alloc (hk:Kn H0 H E L){x:Nat}{o:Obj}(hx:H x=.none)(ho:o≠.none):Kn H0 (H.set x o) E (L++[(x,o)]):=by
 obtain⟨h1,h2,h3⟩:=hk.newFree hx;refine⟨λp hp=>?_,hk.ext,λp hp=>?_,hk.dE,?_,λm hm hn=>?_⟩
 ·rw[<-Jl]at hp;rcases Jb.1 hp with hp|hp
  ·have:p.1≠x:=λhh=>by
    rcases Jb.1 hp with hp|hp
    ·exact h2 (hh▸Cc hp)
    ·exact h3 (hh▸Cc hp)
   rw[Heap.aj _ _ this];exact hk.get p hp
  ·simp at hp;subst hp;exact⟨Heap.aF _ _ _,ho⟩
 ·rcases Jb.1 hp with hp|hp
  ·exact hk.loc p hp
  ·simp at hp;subst hp;exact h1
 ·rw[Jn];refine Jk.2 ⟨hk.dL,ZD,λa ha b hb=>?_⟩;simp at hb;subst hb;exact λhh=>h3 (hh▸ha)
 ·have:m≠x:=λhh=>by subst hh;exact hm h1
  rw[Heap.aj _ _ this];exact hk.chg m hm hn
theorem Fe {L:Ul}{i:Nat}{x:Nat}{o o':Obj}(h:L[i]? = some (x,o)):(L.set i (x,o')).map Prod.fst=L.map Prod.fst:=by
 rw[J9];refine List.ext_getElem? λj=>?_;rw[J6];split
 ·rename_i gL
  subst gL;have af:=(Jv.1 h).1;rw[if_pos (by simpa using af)];simp[h]
 ·rfl
theorem DJ {α:Type}{L:List α}{i:Nat}{x p:α}(h:p∈L.set i x):p=x\/∃j,j≠i/\L[j]? = some p:=by
 obtain⟨j,hj⟩:=List.getElem?_of_mem h;rw[J6]at hj;split at hj
 ·split at hj
  ·simp at hj;exact .inl hj.symm
  ·simp at hj
 ·rename_i hn;exact .inr ⟨j,λh=>hn h.symm,hj⟩
theorem Kn.setL (hk:Kn H0 H E L)(i:Nat){x:Nat}{o o':Obj}(h:L[i]? = some (x,o))(ho:o'≠.none):Kn H0 (H.set x o') E (L.set i (x,o')):=by
 have hf:=hk.free i h;refine⟨λp hp=>?_,hk.ext,λp hp=>?_,hk.dE,by rw[Fe h];exact hk.dL,λm hm hn=>?_⟩
 ·rcases Jb.1 hp with hp|hp
  ·have:p.1≠x:=λhh=>hk.ext p hp (hh▸hf);rw[Heap.aj _ _ this];exact hk.get p (Jc _ hp)
  ·rcases DJ hp with rfl|⟨j,hj,hp⟩
   ·exact⟨Heap.aF _ _ _,ho⟩
   ·have:p.1≠x:=λhh=>hj (DH hk.dL hp h hh);rw[Heap.aj _ _ this];exact hk.get p (Jd _ (Ja hp))
 ·rcases DJ hp with rfl|⟨j,hj,hp⟩
  ·exact hf
  ·exact hk.loc p (Ja hp)
 ·have:m≠x:=λhh=>by subst hh;exact hm hf
  rw[Heap.aj _ _ this];exact hk.chg m hm hn
theorem Kn.setE (hk:Kn H0 H E L)(i:Nat){x:Nat}{o o':Obj}(h:E[i]? = some (x,o))(ho:o'≠.none):Kn H0 (H.set x o') (E.set i (x,o')) L:=by
 have hf:=hk.usedE i h;refine⟨λp hp=>?_,λp hp=>?_,hk.loc,by rw[Fe h];exact hk.dE,hk.dL,λm hm hn=>?_⟩
 ·rcases Jb.1 hp with hp|hp
  ·rcases DJ hp with rfl|⟨j,hj,hp⟩
   ·exact⟨Heap.aF _ _ _,ho⟩
   ·have:p.1≠x:=λhh=>hj (DH hk.dE hp h hh);rw[Heap.aj _ _ this];exact hk.get p (Jc _ (Ja hp))
  ·have:p.1≠x:=λhh=>hf (hh▸hk.loc p hp);rw[Heap.aj _ _ this];exact hk.get p (Jd _ hp)
 ·rcases DJ hp with rfl|⟨j,hj,hp⟩
  ·exact hf
  ·exact hk.ext p (Ja hp)
 ·rw[Fe h]at hn;have:m≠x:=λhh=>by subst hh;exact hn (Cc (p:=(m,o)) (Ja h))
  rw[Heap.aj _ _ this];exact hk.chg m hm hn
theorem Kn.app (hk:Kn H0 H E L)(i:Nat){y y':Nat}{o o':Obj}(h:L[i]? = some (y,o))(hy:(H.set y .none) y'=.none)(ho:o'≠.none) :
  Kn H0 ((H.set y .none).set y' o') E (L.set i (y',o')):=by
 have hf:=hk.free i h;have pO:H0 y'=.none/\y'∉E.map Prod.fst/\∀(j:Nat) (p:Nat×Obj),j≠i->L[j]? = some p->p.1≠y':=by
  by_cases Aq:y'=y
  ·subst Aq;refine⟨hf,λhh=>?_,λj p hj hp hh=>hj (DH hk.dL hp h hh)⟩;obtain⟨p,hp,hh⟩:=Jh.1 hh;exact hk.ext p hp (hh▸hf)
  ·rw[Heap.aj _ _ Aq]at hy;obtain⟨h1,h2,h3⟩:=hk.newFree hy;exact⟨h1,h2,λj p hj hp hh=>h3 (hh▸Cc (Ja hp))⟩
 obtain⟨h1,h2,h3⟩:=pO;refine⟨λp hp=>?_,hk.ext,λp hp=>?_,hk.dE,?_,λm hm hn=>?_⟩
 ·rcases Jb.1 hp with hp|hp
  ·have a1:p.1≠y:=λhh=>hk.ext p hp (hh▸hf);have a2:p.1≠y':=λhh=>hk.ext p hp (hh▸h1);rw[Heap.aj _ _ a2,Heap.aj _ _ a1];exact hk.get p (Jc _ hp)
  ·rcases DJ hp with rfl|⟨j,hj,hp⟩
   ·exact⟨Heap.aF _ _ _,ho⟩
   ·have a1:p.1≠y:=λhh=>hj (DH hk.dL hp h hh);rw[Heap.aj _ _ (h3 j p hj hp),Heap.aj _ _ a1];exact hk.get p (Jd _ (Ja hp))
 ·rcases DJ hp with rfl|⟨j,hj,hp⟩
  ·exact h1
  ·exact hk.loc p (Ja hp)
 ·rw[J9];refine Jag.2 λa b ha hb eD=>?_;rw[List.length_set,J2]at ha hb;have gl:∀(j:Nat) (hj:j<L.length),j≠i->L[j].1≠y':=λj hj vK=>h3 j L[j] vK (Jw hj);have hd:=Jag.1 hk.dL a b ZaG Zaa eD;simp only[Jab,List.getElem_map]at hd⊢;by_cases e1:i=a
  ·subst e1;rw[if_pos rfl,if_neg ZB];exact λhh=>gl b hb ZB hh.symm
  ·rw[if_neg e1];by_cases e2:i=b
   ·subst e2;rw[if_pos rfl];exact gl a ha ZB
   ·rw[if_neg e2];exact hd
 ·have a1:m≠y:=λhh=>by subst hh;exact hm hf
  have a2:m≠y':=λhh=>by subst hh;exact hm h1
  rw[Heap.aj _ _ a2,Heap.aj _ _ a1];exact hk.chg m hm hn
theorem Kn.callg (hk:Kn H0 H E L){U E2 L2:Ul}(hu:Upd H H' U)(hE:E2.map Prod.fst=E.map Prod.fst)(hL:L2.map Prod.fst=L.map Prod.fst)
  (h:∀p∈E2++L2,p.2≠.none/\(p∈U\/(p∈E++L/\p.1∉U.map Prod.fst))) (hU:∀u∈U,u.1∈E.map Prod.fst\/u.1∈L.map Prod.fst):Kn H0 H' E2 L2:=by
 have dH:∀{A B:Ul} {p:Nat×Obj},B.map Prod.fst=A.map Prod.fst->p∈B->∃q∈A,q.1=p.1:=λny hp=>by
  have:=Cc hp;rw[ny]at this;obtain⟨q,h1,h2⟩:=Jh.1 this;exact⟨q,h1,h2⟩
 refine⟨λp hp=>?_,λp hp=>?_,λp hp=>?_,by rw[hE];exact hk.dE,by rw[hL];exact hk.dL,λm hm hn=>?_⟩
 ·obtain⟨h1,h2⟩:=h p hp;refine⟨?_,h1⟩;rcases h2 with h2|⟨h2,h3⟩
  ·exact hu.1 p h2
  ·obtain⟨a1,a2⟩:=hk.get p h2;rw[hu.2 p.1 (by rw[a1];exact a2) h3,a1]
 ·obtain⟨q,hq,hh⟩:=dH hE hp;rw[<-hh];exact hk.ext q hq
 ·obtain⟨q,hq,hh⟩:=dH hL hp;rw[<-hh];exact hk.loc q hq
 ·rw[hE]at hn;have h0:=hk.chg m hm hn;rw[hu.2 m (by rw[h0];exact hm) (λhh=>?_),h0];obtain⟨u,A2,eJ⟩:=Jh.1 hh;rcases hU u A2 with a|a
  ·exact hn (eJ▸a)
  ·obtain⟨q,hq,hh⟩:=Jh.1 a;exact hm (by rw[<-eJ,<-hh];exact hk.loc q hq)
theorem Kn.aw (hk:Kn H0 H E L)(hu:Upd H H' []):Kn H0 H' E L:=hk.callg hu rfl rfl (λp hp=>⟨(hk.get p hp).2,.inr ⟨hp,ZD⟩⟩) ZD
theorem Kn.au (hk:Kn H0 H E L)(i:Nat){l:Nat}{o o':Obj}(h:E[i]? = some (l,o))(hu:Upd H H' [(l,o')])(ho:o'≠.none):Kn H0 H' (E.set i (l,o')) L:=by
 refine hk.callg hu (Fe h) rfl (λp hp=>?_) (λu hu=>by simp at hu;subst hu;exact .inl (Cc (p:=(l,o)) (Ja h)));rcases Jb.1 hp with hp|hp
 ·rcases DJ hp with rfl|⟨j,hj,hp⟩
  ·exact⟨ho,.inl ZD⟩
  ·have hm:=Jc L (Ja hp);exact⟨(hk.get p hm).2,.inr ⟨hm,by simp;exact λhh=>hj (DH hk.dE hp h hh)⟩⟩
 ·have hm:=Jd E hp;exact⟨(hk.get p hm).2,.inr ⟨hm,by simp;exact λhh=>hk.usedE i h (hh▸hk.loc p hp)⟩⟩
theorem Kn.callL (hk:Kn H0 H E L)(i:Nat){l:Nat}{o o':Obj}(h:L[i]? = some (l,o))(hu:Upd H H' [(l,o')])(ho:o'≠.none):Kn H0 H' E (L.set i (l,o')):=by
 refine hk.callg hu rfl (Fe h) (λp hp=>?_) (λu hu=>by simp at hu;subst hu;exact .inr (Cc (p:=(l,o)) (Ja h)));rcases Jb.1 hp with hp|hp
 ·have hm:=Jc L hp;exact⟨(hk.get p hm).2,.inr ⟨hm,by simp;exact λhh=>hk.ext p hp (hh▸hk.free i h)⟩⟩
 ·rcases DJ hp with rfl|⟨j,hj,hp⟩
  ·exact⟨ho,.inl ZD⟩
  ·have hm:=Jd E (Ja hp);exact⟨(hk.get p hm).2,.inr ⟨hm,by simp;exact λhh=>hj (DH hk.dL hp h hh)⟩⟩
theorem Kn.callEE (hk:Kn H0 H E L)(i j:Nat){l m:Nat}{o o' q q':Obj}(h:E[i]? = some (l,o))(h2:E[j]? = some (m,q))(gL:i≠j)(hu:Upd H H' [(l,o'),(m,q')])(ho:o'≠.none)(hq:q'≠.none) :
  Kn H0 H' ((E.set i (l,o')).set j (m,q')) L:=by
 have sK:(E.set i (l,o'))[j]? = some (m,q):=by rw[J6];rw[if_neg gL];exact h2
 refine hk.callg hu ((Fe sK).trans (Fe h)) rfl (λp hp=>?_) (λu hu=>?_)
 ·rcases Jb.1 hp with hp|hp
  ·rcases DJ hp with rfl|⟨b,hb,hp⟩
   ·exact⟨hq,.inl ZD⟩
   ·rcases DJ (Ja hp)with rfl|⟨c,hc,cB⟩
    ·exact⟨ho,.inl ZD⟩
    ·have hm:=Jc L (Ja cB);rw[J6]at hp;split at hp
     ·rename_i vM
      split at hp
      ·simp at hp;subst hp;exact⟨ho,.inl ZD⟩
      ·simp at hp
     ·rename_i vM
      refine⟨(hk.get p hm).2,.inr ⟨hm,?_⟩⟩;simp only[Jq,J8,Ji,Jac,or_false,not_or];exact⟨λhh=>vM (DH hk.dE hp h hh).symm,λhh=>hb (DH hk.dE hp h2 hh)⟩
  ·have hm:=Jd E hp;refine⟨(hk.get p hm).2,.inr ⟨hm,?_⟩⟩;simp only[Jq,J8,Ji,Jac,or_false,not_or];exact⟨λhh=>hk.usedE i h (hh▸hk.loc p hp),λhh=>hk.usedE j h2 (hh▸hk.loc p hp)⟩
 ·simp at hu;rcases hu with rfl|rfl
  ·exact .inl (Cc (p:=(l,o)) (Ja h))
  ·exact .inl (Cc (p:=(m,q)) (Ja h2))
theorem Kn.fin (hk:Kn H0 H E L):Upd H0 (H.frz (Go.AE.un H0)) E:=by
 refine⟨λp hp=>?_,λm hm hn=>?_⟩
 ·rw[GN (hk.ext p hp)];exact (hk.get p (Jc _ hp)).1
 ·rw[GN hm];exact hk.chg m hm hn
abbrev unK (H:Heap)(K:V->Heap->Prop):V->Heap->Prop
 |.pn v,H'=>K (.pn v) (H'.frz (un H))
 |x,H'=>∃x',FrzV H' (un H) x x'/\K x' (H'.frz (un H))
theorem Qb7j {K:Uk}{H0:Heap}{x:C}:unK H0 K (.c x) H=∃x',FrzV H (un H0) (.c x) x'/\K x' (H.frz (un H0)):=rfl
theorem Qb57 {K:Uk}{H0:Heap}{x:List C}:unK H0 K (.ag x) H=∃x',FrzV H (un H0) (.ag x) x'/\K x' (H.frz (un H0)):=rfl
theorem Qb3y {K:Uk}{H0:Heap}{x:List V}:unK H0 K (.tup x) H=∃x',FrzV H (un H0) (.tup x) x'/\K x' (H.frz (un H0)):=rfl
theorem Qb3z {K:Uk}{H0:Heap}:unK H0 K .unk H=∃x',FrzV H (un H0) .unk x'/\K x' (H.frz (un H0)):=rfl
theorem Qb58 {K:V->Heap->Prop}{H0:Heap}{v:Value}:unK H0 K (.pn v) H=K (.pn v) (H.frz (un H0)):=rfl
attribute [go_sem] Qb7j Qb57 Qb3y Qb3z Qb58
theorem Qy {f:Nat}{args:List V}{K:Uk}(h:Qr P f args H (unK H K)):Qr P f args H K:=
 Qbpj (Qbk5 h λx H' hx=>by
  cases x with
  |pn v=>exact⟨un H,hx⟩
  |_=>
   obtain⟨x',h1,h2⟩:=hx;exact⟨un H,x',h1,h2⟩)
theorem Kn.al (hk:Kn H0 H E L){x:Nat}{o:Obj}(hx:H x=.none)(h1:H'=H.set x o)(ho:o≠.none:=by nofun):Kn H0 H' E (L++[(x,o)]):=h1▸hk.alloc hx ho
theorem Kn.aB (hk:Kn H0 H E L)(i:Nat){x:Nat}{o o':Obj}(h:L[i]? = some (x,o))(h1:H'=H.set x o')(ho:o'≠.none:=by nofun):Kn H0 H' E (L.set i (x,o')):=h1▸hk.setL i h ho
theorem Kn.stE (hk:Kn H0 H E L)(i:Nat){x:Nat}{o o':Obj}(h:E[i]? = some (x,o))(h1:H'=H.set x o')(ho:o'≠.none:=by nofun):Kn H0 H' (E.set i (x,o')) L:=h1▸hk.setE i h ho
theorem Kn.ap (hk:Kn H0 H E L)(i:Nat){y y':Nat}{o o':Obj}(h:L[i]? = some (y,o))(hy:(H.set y .none) y'=.none)(h1:H'=(H.set y .none).set y' o')(ho:o'≠.none:=by nofun):Kn H0 H' E (L.set i (y',o')):=h1▸hk.app i h hy ho
end Go.AE
namespace Go.AE.Y
theorem Qs {x:Int}(h1:-(2^63)<=x:=by omega)(h2:x<2^63:=by omega):inR .i64 x:=by
 unfold inR;have a1:IntKind.min .i64=-(2^63):=ZO
 have a2:IntKind.max .i64=2^63-1:=ZO
 rw[a1,a2];omega
theorem LJ (b:UInt8):inR .i64 (b.toNat:Int):=Qs ZB (by have:=b.toNat_lt;omega)
def C7 (bs:List UInt8):List (List C):=bs.map λb=>[.int .u8 b.toNat]
theorem EE (bs:List UInt8):(C7 bs).length=bs.length:=by simp[C7]
theorem Q7h (bs:List UInt8)(i:Nat)(h:i<bs.length):(C7 bs).getD i []=[.int .u8 (bs.getD i 0).toNat]:=by
 simp[C7,Je,h]
theorem Qb36 {a b:Int}(ha:0<=a)(hb:0<=b)(Bq:a<2^62)(aW:b<2^62):0<=DY .xor .i64 a b:=by
 obtain⟨m,rfl⟩:=Jah ha;obtain⟨n,rfl⟩:=Jah hb;have hm:m<2^62:=ZB
 have hn:n<2^62:=ZB
 have hx:m ^^^ n<2^62:=Nat.xor_lt_two_pow hm hn;have h1:(BitVec.ofInt (IntKind.bits .i64) (m:Int) ^^^ BitVec.ofInt (IntKind.bits .i64) (n:Int)).toNat=m ^^^ n:=by
  have hb:IntKind.bits .i64=64:=rfl;rw[hb,BitVec.toNat_xor];have e1:(BitVec.ofInt 64 (m:Int)).toNat=m:=ZG
  have e2:(BitVec.ofInt 64 (n:Int)).toNat=n:=ZG
  rw[e1,e2]
 simp only[DY];rw[h1];simp only[IntKind.wrap];have hb:IntKind.bits .i64=64:=rfl;have hm:((m ^^^ n:Nat):Int) % 2 ^ 64=(m ^^^ n:Nat):=Int.emod_eq_of_lt ZB ZB;rw[hb,hm];rw[if_neg]
 ·omega
 ·simp only[Jj,decide_eq_true_eq,not_and];intro _;omega
structure Rdr where
 l:Nat
 fl:Bool
 bs:List UInt8
def Rdr.o (R:Rdr)(k:Nat):Obj:=.st [.sl R.fl 1 (C7 R.bs),.int .i64 k]
theorem Rdr.ao (R:Rdr)(k:Nat):R.o k≠.none:=by simp[Rdr.o]
def Qb (ns:List Int):List (List C):=ns.map λn=>[.int .i64 n]
theorem Qc (ns:List Int):(Qb ns).length=ns.length:=Zaq
theorem Qk (ns:List Int)(i:Nat)(h:i<ns.length):(Qb ns).getD i []=[Ui (ns.getD i 0)]:=by
 simp[Qb,Je,h]
theorem D8 (a b:List Int):Qb (a++b)=Qb a++Qb b:=Zaq
theorem Qq (ns:List Int):∀r∈Qb ns,ak r=true:=by
 intro r hr;simp[Qb]at hr;obtain⟨n,_,rfl⟩:=hr;rfl
def Cn (ss:List (List UInt8)):List (List C):=ss.map λs=>[.str s]
theorem CR (ss:List (List UInt8)):(Cn ss).length=ss.length:=by simp[Cn]
theorem IW (ss:List (List UInt8))(i:Nat)(h:i<ss.length):(Cn ss).getD i []=[.str (ss.getD i [])]:=by
 simp[Cn,Je,h]
theorem Qbo9:Cn []=[]:=rfl
theorem Qbit (a:List (List UInt8))(n:List UInt8):Cn a++[[.str n]]=Cn (a++[n]):=by simp[Cn]
theorem Sr (ns:List (List UInt8)):∀r∈Cn ns,ak r=true:=by
 intro r hr;simp[Cn]at hr;obtain⟨n,_,rfl⟩:=hr;rfl
theorem noOw_mem {rows:List (List C)}(h:∀r∈rows,ak r=true):∀r∈rows,∀c∈r,c.ai=false:=λr hr c hc=>by
 have:=h r hr;simp only[ak,Jaa]at this;simpa using this c hc
theorem XZ {a b:List (List C)}(ha:∀r∈a,ak r=true)(hb:∀r∈b,ak r=true):∀r∈a++b,ak r=true:=λr hr=>by
 rcases Jb.1 hr with h|h
 ·exact ha r h
 ·exact hb r h
inductive Ex where
 |mk (op n:Int) (name:List UInt8) (kids:List Ex)
def Ex.op:Ex->Int|.mk op _ _ _=>op
def Ex.n:Ex->Int|.mk _ n _ _=>n
def Ex.name:Ex->List UInt8|.mk _ _ s _=>s
def Ex.kids:Ex->List Ex|.mk _ _ _ k=>k
mutual
def Ex.cells:Ex->List C
 |.mk op n name kids=>[.int .i64 op,.int .i64 n,.str name,.sl false 4 (BW kids)]
def BW:List Ex->List (List C)
 |[]=>[]
 |x::r=>x.cells::BW r
end
theorem Ex.aG (x:Ex):x.cells=[Ui x.op,Ui x.n,.str x.name,.sl false 4 (BW x.kids)]:=by
 cases x;simp[Ex.cells,Ex.op,Ex.n,Ex.name,Ex.kids]
theorem Tr (l:List Ex):BW l=l.map Ex.cells:=by
 induction l with
 |nil=>simp[BW]
 |cons x r ih=>simp[BW,ih]
theorem Da (l:List Ex):(BW l).length=l.length:=by simp[Tr]
theorem GD (l:List Ex)(i:Nat)(h:i<l.length):(BW l).getD i []=(l[i]'h).cells:=by
 simp[Tr,Je,h]
theorem Qbll (a:List Ex)(x:Ex):BW a++[x.cells]=BW (a++[x]):=by simp[Tr]
theorem Ex.ak (x:Ex):Go.AE.ak x.cells=true:=Za8
theorem IU (l:List Ex):∀r∈BW l,Go.AE.ak r=true:=by
 intro r hr;rw[Tr]at hr;obtain⟨x,_,rfl⟩:=Jh.1 hr;exact x.ak
theorem Ex.az (x:Ex):x.cells.length=4:=Za8
mutual
def Ex.size:Ex->Nat
 |.mk _ _ _ kids=>1+BZ kids
def BZ:List Ex->Nat
 |[]=>0
 |x::r=>x.size+BZ r
end
mutual
def Ex.ok:Ex->Prop
 |.mk op _ _ kids=>(op=10->kids.length=2)/\Cu kids
def Cu:List Ex->Prop
 |[]=>True
 |x::r=>x.ok/\Cu r
end
theorem Ia {l:List Ex}(h:Cu l):∀x∈l,x.ok:=by
 induction l with
 |nil=>simp
 |cons y r ih=>
  simp only[Cu]at h;intro x hx;rcases Ji.1 hx with rfl|hx
  ·exact h.1
  ·exact ih h.2 x hx
theorem Qbp3 {a b:List Ex}(ha:Cu a)(hb:Cu b):Cu (a++b):=by
 induction a with
 |nil=>exact hb
 |cons x r ih=>simp only[Cu]at ha;exact⟨ha.1,ih ha.2⟩
theorem Tz (a b:List Ex):BZ (a++b)=BZ a+BZ b:=by
 induction a with
 |nil=>simp[BZ]
 |cons x r ih=>simp[BZ,ih];omega
theorem Ex.size_pos (x:Ex):1<=x.size:=by cases x;simp[Ex.size]
theorem I3 {l:List Ex}{x:Ex}(h:x∈l):x.size<=BZ l:=by
 induction l with
 |nil=>simp at h
 |cons y r ih=>
  simp only[BZ];rcases Ji.1 h with rfl|h
  ·omega
  ·have:=ih h;omega
theorem Ex.size_kids (x:Ex):x.size=1+BZ x.kids:=by cases x;simp[Ex.size,Ex.kids]
theorem Ex.ok_kids {x:Ex}(h:x.ok):Cu x.kids:=by cases x;simp only[Ex.ok]at h;exact h.2
theorem Ex.ok_and {x:Ex}(h:x.ok)(h1:x.op=10):x.kids.length=2:=by cases x;simp only[Ex.ok]at h;exact h.1 h1
theorem Ex.frz {H:Heap}{S:Nat->Bool}{fl:Bool}(x:Ex):FrzV H S (.ag [Ui x.op,Ui x.n,.str x.name,.sl fl 4 (BW x.kids)]) (.ag x.cells):=by
 rw[x.aG];exact (FrzL.cons (Qg rfl) (FrzL.cons (Qg rfl) (FrzL.cons (Qg rfl) (FrzL.cons (FI (noOw_mem (IU _))) FrzL.nil)))).ag
variable {H:Heap}{S:Nat->Bool}
inductive FrzR (H:Heap)(S:Nat->Bool):List (List C)->List (List C)->Prop
 |nil:FrzR H S [] []
 |cons {r r':List C} {l l':List (List C)} (h:FrzL H S r r') (t:FrzR H S l l'):FrzR H S (r::l) (r'::l')
theorem FrzR.spec {l l':List (List C)}(h:FrzR H S l l'):l'.length=l.length/\∀(i:Nat) (r r':List C),l[i]? = some r->l'[i]? = some r'->FrzL H S r r':=by
 induction h with
 |nil=>exact⟨rfl,λj c c' h=>ZI⟩
 |cons h t ih=>
  refine⟨Zbq,λj c c' h1 h2=>?_⟩
  cases j with
  |zero=>simp at h1 h2;subst h1;subst h2;exact h
  |succ j=>simp at h1 h2;exact ih.2 j c c' h1 h2
theorem FrzR.sl {fl:Bool}{sz:Nat}{l l':List (List C)}(h:FrzR H S l l'):FrzC H S (.sl fl sz l) (.sl false sz l'):=
 .sl fl sz l l' h.spec.1 (λi r r' h1 h2=>(h.spec.2 i r r' h1 h2).spec.1) λi r r' j c c' h1 h2 h3 h4=>(h.spec.2 i r r' h1 h2).spec.2 j c c' h3 h4
theorem FrzR.ah {l sz n:Nat}{rows rows':List (List C)}(hS:S l=true)(hH:H l=.vec sz rows)(hn:n=rows.length)(h:FrzR H S rows rows'):FrzC H S (.ah l sz 0 n) (.sl false sz rows'):=by
 subst hn;exact .ah l sz 0 rows.length rows rows rows' hS hH ZB ZD h.spec.1 (λi r r' h1 h2=>(h.spec.2 i r r' h1 h2).spec.1) λi r r' j c c' h1 h2 h3 h4=>(h.spec.2 i r r' h1 h2).spec.2 j c c' h3 h4
end Go.AE.Y
namespace Go.AE
open Go.AE.Y
variable {H:Heap}{S:Nat->Bool}
theorem FrzL.same {l:List C}(h:ak l=true):FrzL H S l l:=by
 induction l with
 |nil=>exact .nil
 |cons c r ih=>
  simp only[ak,J4,Jj,J3]at h ih;exact .cons (.same _ h.1) (ih (by simpa using h.2))
end Go.AE
namespace Go.AE.Y
variable {H:Heap}{S:Nat->Bool}
theorem FrzR.same {l:List (List C)}(h:∀r∈l,ak r=true):FrzR H S l l:=by
 induction l with
 |nil=>exact .nil
 |cons c r ih=>exact .cons (.same (h _ Ju)) (ih λx hx=>h x (Jt _ hx))
theorem FrzR.app {a a' b b':List (List C)}(h:FrzR H S a a')(k:FrzR H S b b'):FrzR H S (a++b) (a'++b'):=by
 induction h with
 |nil=>exact k
 |cons h t ih=>exact .cons h ih
end Go.AE.Y
namespace Go.AE
open Go.AE.Y
variable {H:Heap}{S:Nat->Bool}
theorem Upd.set2 {H H':Heap}{a b:Nat}{oa ob o:Obj}(h:Upd H H' [(a,oa),(b,ob)])(hn:a≠b):Upd H (H'.set b o) [(a,oa),(b,o)]:=by
 refine⟨λp hp=>?_,λm hm hx=>?_⟩
 ·simp at hp;rcases hp with rfl|rfl
  ·show (H'.set b o) a=oa;rw[Heap.aj _ _ hn];exact h.1 (a,oa) ZD
  ·exact Heap.aF _ _ _
 ·have:m≠b:=by simp at hx;exact hx.2
  rw[Heap.aj _ _ this];exact h.2 m hm ZaX
end Go.AE
namespace Go.AE.Y
variable {H:Heap}{S:Nat->Bool}
inductive St where
 |mk (op:Int) (name:List UInt8) (args:List Ex) (body els:List St)
def St.op:St->Int|.mk op _ _ _ _=>op
def St.name:St->List UInt8|.mk _ s _ _ _=>s
def St.args:St->List Ex|.mk _ _ a _ _=>a
def St.body:St->List St|.mk _ _ _ b _=>b
def St.els:St->List St|.mk _ _ _ _ e=>e
mutual
def St.cells:St->List C
 |.mk op name args body els=>[.int .i64 op,.str name,.sl false 4 (BW args),.sl false 5 (BO body),.sl false 5 (BO els)]
def BO:List St->List (List C)
 |[]=>[]
 |x::r=>x.cells::BO r
end
theorem St.aG (x:St):x.cells=[Ui x.op,.str x.name,.sl false 4 (BW x.args),.sl false 5 (BO x.body),.sl false 5 (BO x.els)]:=by
 cases x;simp[St.cells,St.op,St.name,St.args,St.body,St.els]
theorem Tg (l:List St):BO l=l.map St.cells:=by
 induction l with
 |nil=>simp[BO]
 |cons x r ih=>simp[BO,ih]
theorem Di (l:List St):(BO l).length=l.length:=by simp[Tg]
theorem GB (l:List St)(i:Nat)(h:i<l.length):(BO l).getD i []=(l[i]'h).cells:=by
 simp[Tg,Je,h]
theorem HM (a b:List St):BO a++BO b=BO (a++b):=by simp[Tg]
theorem St.ak (x:St):Go.AE.ak x.cells=true:=Za8
theorem Iy (l:List St):∀r∈BO l,Go.AE.ak r=true:=by
 intro r hr;rw[Tg]at hr;obtain⟨x,_,rfl⟩:=Jh.1 hr;exact x.ak
theorem St.az (x:St):x.cells.length=5:=Za8
mutual
def St.size:St->Nat
 |.mk _ _ args body els=>1+BZ args+Q9 body+Q9 els
def Q9:List St->Nat
 |[]=>0
 |x::r=>x.size+Q9 r
end
mutual
def St.ok:St->Prop
 |.mk _ _ args body els=>0<args.length/\Cu args/\Cj body/\Cj els
def Cj:List St->Prop
 |[]=>True
 |x::r=>x.ok/\Cj r
end
theorem Qbu5 {l:List St}(h:Cj l):∀x∈l,x.ok:=by
 induction l with
 |nil=>simp
 |cons y r ih=>
  simp only[Cj]at h;intro x hx;rcases Ji.1 hx with rfl|hx
  ·exact h.1
  ·exact ih h.2 x hx
theorem HL {a b:List St}(ha:Cj a)(hb:Cj b):Cj (a++b):=by
 induction a with
 |nil=>exact hb
 |cons x r ih=>simp only[Cj]at ha;exact⟨ha.1,ih ha.2⟩
theorem IV (a b:List St):Q9 (a++b)=Q9 a+Q9 b:=by
 induction a with
 |nil=>simp[Q9]
 |cons x r ih=>simp[Q9,ih];omega
theorem St.size_eq (x:St):x.size=1+BZ x.args+Q9 x.body+Q9 x.els:=by cases x;simp[St.size,St.args,St.body,St.els]
theorem St.ok_eq (x:St):x.ok=(0<x.args.length/\Cu x.args/\Cj x.body/\Cj x.els):=by cases x;simp[St.ok,St.args,St.body,St.els]
theorem Sq {l:List St}{x:St}(h:x∈l):x.size<=Q9 l:=by
 induction l with
 |nil=>simp at h
 |cons y r ih=>
  simp only[Q9];rcases Ji.1 h with rfl|h
  ·omega
  ·have:=ih h;omega
structure Fn where
 name:List UInt8
 params:List (List UInt8)
 body:List St
def Fn.cells (f:Fn):List C:=[.str f.name,.sl false 1 (Cn f.params),.sl false 5 (BO f.body)]
def Cb (l:List Fn):List (List C):=l.map Fn.cells
theorem D0 (l:List Fn):(Cb l).length=l.length:=by simp[Cb]
theorem I0 (l:List Fn)(i:Nat)(h:i<l.length):(Cb l).getD i []=(l[i]'h).cells:=by
 simp[Cb,Je,h]
theorem MT (a:List Fn)(x:Fn):Cb a++[x.cells]=Cb (a++[x]):=by simp[Cb]
theorem Fn.ak (x:Fn):Go.AE.ak x.cells=true:=rfl
theorem Fn.az (x:Fn):x.cells.length=3:=rfl
theorem MU (l:List Fn):∀r∈Cb l,Go.AE.ak r=true:=by
 intro r hr;obtain⟨x,_,rfl⟩:=Jh.1 hr;exact x.ak
structure GS where
 fns:List Fn
 ffl:C×Ul
 vars:List (List UInt8)
 vfl:Bool
 next:Int
 left:Int
def GS.o (s:GS)(R:Rdr):Obj:=.st [.ptr R.l 0,s.ffl.1,.sl s.vfl 1 (Cn s.vars),.int .i64 s.next,.int .i64 s.left]
theorem GS.ao (s:GS)(R:Rdr):s.o R≠.none:=by simp[GS.o]
structure GS.ok (s:GS)(k:Nat):Prop where
 n0:-1<=s.next
 n1:s.next<=k+10
 l0:-(4 * (k:Int)+10)<=s.left
 l1:s.left<=100
 v:s.vars.length<=k+10
 f:∀f∈s.fns,f.params.length<=3
 fn:s.fns.length<=3
theorem GS.ok.mono {s:GS}{k k':Nat}(h:s.ok k)(hk:k<=k'):s.ok k':=
 ⟨h.n0,by have:=h.n1;omega,by have:=h.l0;omega,h.l1,by have:=h.v;omega,h.f,h.fn⟩
end Go.AE.Y
namespace Go.AE
variable {H0 H H':Heap}{E L B:Ul}
theorem Upd.drop2 {H H':Heap}{a b:Nat}{oa ob:Obj}(h:Upd H H' [(a,oa),(b,ob)])(hb:H b=ob):Upd H H' [(a,oa)]:=by
 refine⟨λp hp=>h.1 p (by simp at hp;subst hp;simp),λm hm hx=>?_⟩;by_cases iI:m=b
 ·subst iI;rw[hb];exact h.1 (m,ob) ZD
 ·exact h.2 m hm (by simp at hx⊢;exact⟨hx,iI⟩)
theorem Upd.drop1 {H H':Heap}{a:Nat}{oa:Obj}(h:Upd H H' [(a,oa)])(ha:H a=oa):Upd H H' []:=by
 refine⟨ZD,λm hm hx=>?_⟩;by_cases iI:m=a
 ·subst iI;rw[ha];exact h.1 (m,oa) ZD
 ·exact h.2 m hm (by simpa using iI)
theorem Kn.perm {L':Ul}(h:Kn H0 H E L)(hp:L.Perm L'):Kn H0 H E L':=
 ⟨λp cB=>h.get p (by
   rcases Jb.1 cB with a|a
   ·exact Jc _ a
   ·exact Jd _ (hp.mem_iff.2 a)),h.ext,λp cB=>h.loc p (hp.mem_iff.2 cB),h.dE,(hp.map Prod.fst).nodup_iff.1 h.dL,h.chg⟩
def Gr (Lg:List (Nat×Obj))(sz:Nat)(rows:List (List C))(c:C):Prop:=
 (c=.sl true sz []/\rows=[]/\Lg=[])\/∃y,c=.ah y sz 0 rows.length/\Lg=[(y,.vec sz rows)]
theorem Gr.nil (sz:Nat):Gr [] sz [] (.sl true sz []):=.inl ⟨rfl,rfl,rfl⟩
theorem Gr.mk (y sz:Nat)(rows:List (List C)){n:Nat}(hn:n=rows.length):Gr [(y,.vec sz rows)] sz rows (.ah y sz 0 n):=.inr ⟨y,by rw[hn],rfl⟩
variable {sz:Nat}{rows:List (List C)}{c:C}{Lg:Ul}
theorem Gr.ai (h:Gr Lg sz rows c):c.ai=false:=by rcases h with ⟨rfl,_⟩|⟨y,rfl,_⟩ <;> rfl
theorem Gr.aP (h:Gr Lg sz rows c):c.aP=sz:=by rcases h with ⟨rfl,_⟩|⟨y,rfl,_⟩ <;> rfl
theorem Gr.ay (h:Gr Lg sz rows c):ay c=rows.length:=by
 rcases h with ⟨rfl,rfl,_⟩|⟨y,rfl,_⟩ <;> rfl
theorem Gr.get (h:Gr Lg sz rows c)(kn:Kn H0 H E (B++Lg)):aZ H c/\rowsOf H c=rows:=by
 rcases h with ⟨rfl,rfl,_⟩|⟨y,rfl,rfl⟩
 ·exact⟨trivial,rfl⟩
 ·have hy:H y=.vec sz rows:=(kn.get (y,.vec sz rows) ZD).1;refine⟨?_,?_⟩
  ·simp[aZ,hy]
  ·simp[rowsOf,hy]
theorem Gr.aZ (h:Gr Lg sz rows c)(kn:Kn H0 H E (B++Lg)):Go.AE.aZ H c:=(h.get kn).1
theorem Gr.rowsOf (h:Gr Lg sz rows c)(kn:Kn H0 H E (B++Lg)):Go.AE.rowsOf H c=rows:=(h.get kn).2
theorem Gr.frz (h:Gr Lg sz rows c)(kn:Kn H0 H E (B++Lg))(hr:∀r∈rows,ak r=true):FrzC H (un H0) c (.sl false sz rows):=by
 rcases h with ⟨rfl,rfl,_⟩|⟨y,rfl,rfl⟩
 ·exact Y.FrzR.nil.sl
 ·exact (Y.FrzR.same hr).ah (DG (kn.loc (y,.vec sz rows) ZD)) (kn.get (y,.vec sz rows) ZD).1 rfl
theorem Gr.frzR {rows':List (List C)}(h:Gr Lg sz rows c)(kn:Kn H0 H E (B++Lg))(hr:Y.FrzR H (un H0) rows rows'):FrzC H (un H0) c (.sl false sz rows'):=by
 rcases h with ⟨rfl,rfl,_⟩|⟨y,rfl,rfl⟩
 ·cases hr;exact Y.FrzR.nil.sl
 ·exact hr.ah (DG (kn.loc (y,.vec sz rows) ZD)) (kn.get (y,.vec sz rows) ZD).1 rfl
structure Slc (H:Heap)(sz:Nat)(rws:List (List C))(b:C):Prop where
 ok:aZ H b
 sz:b.aP=sz
 rows:rowsOf H b=rws
 len:Go.AE.ay b=rws.length
theorem Slc.mk' (H:Heap)(fl:Bool)(sz:Nat)(rows:List (List C)):Slc H sz rows (.sl fl sz rows):=⟨trivial,rfl,rfl,rfl⟩
theorem Kn.grow {K:Uk}{new:List (List C)}{b:C}(kn:Kn H0 H E (B++Lg))(hc:Gr Lg sz rows c)(hb:Slc H sz new b)
  (h1:∀r∈new,ak r=true) (h2:rows.length+new.length<=LIM)
  (h:∀y' H',Kn H0 H' E (B++[(y',.vec sz (rows++new))])->K (.c (.ah y' sz 0 (rows.length+new.length))) H'):appQ H sz c b K:=by
 refine⟨hb.ok,hb.sz,?_⟩;rcases hc with ⟨rfl,rfl,rfl⟩|⟨y,rfl,rfl⟩
 ·simp only[hb.rows,hb.len,Jr,Jao,Jau];refine⟨trivial,.inl trivial,h1,Zae,λl hl H' dT=>?_⟩;rw[Jan]at kn;have:=h l H' (by simpa using kn.al hl dT);simpa using this
 ·have hy:H y=.vec sz rows:=(kn.get (y,.vec sz rows) ZD).1;simp only[hy,hb.rows,hb.len,Jaf,List.take_length];refine⟨trivial,trivial,ZB,h1,h2,λl' dm H' dT=>?_⟩;refine h l' H' ?_;have:=kn.ap B.length (y:=y) (o:=.vec sz rows) ZD dm dT;simpa using this
end Go.AE
namespace Go.AE.Y
variable {H H':Heap}{R:Rdr}{gl:Nat}{s s':GS}{L:Ul}{o q:Obj}
def FnsOk (H:Heap)(R:Rdr)(gl:Nat)(s:GS):Prop:=Gr s.ffl.2 3 (Cb s.fns) s.ffl.1/\∀p∈s.ffl.2,H p.1=p.2/\p.1≠R.l/\p.1≠gl
theorem FnsOk.keep (h:FnsOk H R gl s)(kn:Kn H H' [(R.l,o),(gl,q)] L)(h1:s'.fns=s.fns)(h2:s'.ffl=s.ffl):FnsOk H' R gl s':=by
 refine⟨by rw[h1,h2];exact h.1,λp hp=>?_⟩;rw[h2]at hp;obtain⟨a1,a2,a3⟩:=h.2 p hp;refine⟨?_,a2,a3⟩;have hn:p.2≠.none:=by
  rcases h.1 with ⟨_,_,hx⟩|⟨y,_,hx⟩
  ·rw[hx]at hp;simp at hp
  ·rw[hx]at hp;simp at hp;subst hp;simp
 rw[kn.chg p.1 (by rw[a1];exact hn) (by simp[a2,a3]),a1]
theorem FnsOk.rd (h:FnsOk H R gl s):aZ H s.ffl.1=True/\rowsOf H s.ffl.1=Cb s.fns:=by
 rcases h.1 with ⟨h1,h2,h3⟩|⟨y,h1,h3⟩
 ·rw[h1,h2];exact⟨rfl,rfl⟩
 ·have hy:H y=.vec 3 (Cb s.fns):=(h.2 (y,.vec 3 (Cb s.fns)) (by rw[h3];simp)).1;rw[h1];exact⟨by simp[aZ,hy],by simp[rowsOf,hy]⟩
theorem FnsOk.ok (h:FnsOk H R gl s)(kn:Kn H H' [(R.l,o),(gl,q)] L):aZ H' s.ffl.1=True:=(h.keep kn rfl rfl).rd.1
theorem FnsOk.rows (h:FnsOk H R gl s)(kn:Kn H H' [(R.l,o),(gl,q)] L):rowsOf H' s.ffl.1=Cb s.fns:=(h.keep kn rfl rfl).rd.2
theorem FnsOk.len (h:FnsOk H R gl s):ay s.ffl.1=s.fns.length:=by rw[h.1.ay,D0]
theorem FnsOk.esz (h:FnsOk H R gl s):s.ffl.1.aP=3:=h.1.aP
theorem FnsOk.ow (h:FnsOk H R gl s):s.ffl.1.ai=false:=h.1.ai
end Go.AE.Y
namespace Go.AE
variable {H0 H H':Heap}{E L B E0 L0 Lg:Ul}
def New (H H':Heap)(N:List (Nat×Obj)):Prop:=∀p∈N,H p.1=.none/\H' p.1=p.2
theorem Kn.add1 (kn0:Kn H0 H E0 L0)(kn:Kn H0 H' E L)(hE:E.map Prod.fst=E0.map Prod.fst)(hL:L.map Prod.fst=L0.map Prod.fst){x:Nat}{o:Obj}(hx:H x=.none)(gB:H' x=o)(ho:o≠.none):Kn H0 H' E (L++[(x,o)]):=by
 obtain⟨h1,h2,h3⟩:=kn0.newFree hx;refine⟨λp hp=>?_,kn.ext,λp hp=>?_,kn.dE,?_,kn.chg⟩
 ·rw[<-Jl]at hp;rcases Jb.1 hp with hp|hp
  ·exact kn.get p hp
  ·simp at hp;subst hp;exact⟨gB,ho⟩
 ·rcases Jb.1 hp with hp|hp
  ·exact kn.loc p hp
  ·simp at hp;subst hp;exact h1
 ·rw[Jn];refine Jk.2 ⟨kn.dL,ZD,λa ha b hb=>?_⟩;simp at hb;subst hb;rw[hL]at ha;exact λhh=>h3 (hh▸ha)
theorem Kn.addGr {sz:Nat}{rows:List (List C)}{c:C}(kn0:Kn H0 H E0 L0)(kn:Kn H0 H' E L)(hE:E.map Prod.fst=E0.map Prod.fst)(hL:L.map Prod.fst=L0.map Prod.fst)(hg:Gr Lg sz rows c)(hn:New H H' Lg):Kn H0 H' E (L++Lg):=by
 rcases hg with ⟨_,_,rfl⟩|⟨y,_,rfl⟩
 ·simpa using kn
 ·obtain⟨h1,h2⟩:=hn (y,.vec sz rows) ZD;exact kn0.add1 kn hE hL h1 h2 ZD
def unx (H:Heap)(Lg:List (Nat×Obj))(m:Nat):Bool:=un H m&&!(Lg.map Prod.fst).contains m
theorem KD {m:Nat}(h:H m≠.none):unx H Lg m=false:=by simp[unx,GW h]
theorem Qb31 {p:Nat×Obj}(h:p∈Lg):unx H Lg p.1=false:=by
 have:p.1∈Lg.map Prod.fst:=Cc h;simp only[unx,Bool.and_eq_false_iff,Bool.not_eq_false'];exact .inr (List.contains_iff_mem.2 this)
theorem Kn.finx (hk:Kn H0 H E (B++Lg)):Upd H0 (H.frz (Go.AE.unx H0 Lg)) E/\New H0 (H.frz (Go.AE.unx H0 Lg)) Lg:=by
 refine⟨⟨λp hp=>?_,λm hm hn=>?_⟩,λp hp=>⟨hk.loc p (Jd _ hp),?_⟩⟩
 ·have:H.frz (Go.AE.unx H0 Lg) p.1=H p.1:=by simp[Heap.frz,KD (hk.ext p hp)]
  rw[this];exact (hk.get p (Jc _ hp)).1
 ·have:H.frz (Go.AE.unx H0 Lg) m=H m:=by simp[Heap.frz,KD hm]
  rw[this];exact hk.chg m hm hn
 ·have:H.frz (Go.AE.unx H0 Lg) p.1=H p.1:=by simp only[Heap.frz];rw[Qb31 hp];rfl
  rw[this];exact (hk.get p (Jd _ (Jd _ hp))).1
end Go.AE
namespace Go.AE.Y
theorem Ct {b:Bool}(h:(!b)=false):b=true:=ZL
theorem Dd {b:Bool}(h:(!b)=true):b=false:=ZL
theorem Ex.ne_nil (x:Ex):(x.cells=[])=False:=by rw[x.aG];simp
theorem Ex.cD (x:Ex):x.cells.take 4=x.cells:=Jz (by rw[x.az];omega)
theorem Ex.bv (x:Ex):(x.cells.all λc=>!c.ai)=true:=x.ak
theorem St.take5 (x:St):x.cells.take 5=x.cells:=Jz (by rw[x.az];omega)
theorem St.bv (x:St):(x.cells.all λc=>!c.ai)=true:=x.ak
theorem Fn.take3 (x:Fn):x.cells.take 3=x.cells:=Jz (by rw[x.az];omega)
theorem Fn.bv (x:Fn):(x.cells.all λc=>!c.ai)=true:=x.ak
end Go.AE.Y
namespace Go.AE
variable {H0 H H':Heap}{E L B A:Ul}{P:Program}
theorem c_gh {b:SC}{Q:X->Env->Heap->Prop}{e e':Env}(h:Fu e H e' H')(hb:BI P b Q e' H'):BI P (.seq .gh b) Q e H:=⟨e',H',h,hb⟩
theorem Kn.drop (kn:Kn H0 H E (A++B)):Kn H0 H E A:=
 ⟨λp hp=>kn.get p (by
   rcases Jb.1 hp with h|h
   ·exact Jc _ h
   ·exact Jd _ (Jc _ h)),kn.ext,λp hp=>kn.loc p (Jc _ hp),kn.dE,by
   have:=kn.dL;rw[Jn]at this;exact (Jk.1 this).1,kn.chg⟩
theorem Kn.freeze {z gl:Nat}{o og og':Obj}(kn:Kn H0 H E (B++[(z,o)]))(i:Nat)(hB:B[i]? = some (gl,og))(hO:FrzO H (λm=>m == z) og og')(hn:og'≠.none) :
  FrzH H (λm=>m == z) ((H.frz λm=>m == z).set gl og')/\Kn H0 ((H.frz λm=>m == z).set gl og') E (B.set i (gl,og')):=by
 have eW:H0 z=.none:=kn.loc (z,o) ZD;have dh:=kn.dL;rw[Jn]at dh;have bd:∀p∈B,p.1≠z:=λp hp hh=>(Jk.1 dh).2.2 _ (Cc hp) z ZD hh;have qM:∀p∈E,p.1≠z:=λp hp hh=>kn.ext p hp (hh▸eW);have dM:=bd _ (Ja hB);have hH:H gl=og:=(kn.get (gl,og) (Jd _ (Jc _ (Ja hB)))).1;refine⟨(Ep _ _).set (by simpa using dM) (by rw[hH];exact hO),?_⟩;have kn1:Kn H0 (H.frz λm=>m == z) E B:=by
  refine⟨λp hp=>?_,kn.ext,λp hp=>kn.loc p (Jc _ hp),kn.dE,(Jk.1 dh).1,λm hm hx=>?_⟩
  ·have:p.1≠z:=by
    rcases Jb.1 hp with h|h
    ·exact qM p h
    ·exact bd p h
   have h2:(H.frz λm=>m == z) p.1=H p.1:=by simp[Heap.frz,this]
   rw[h2];refine kn.get p ?_;rcases Jb.1 hp with h|h
   ·exact Jc _ h
   ·exact Jd _ (Jc _ h)
  ·have:m≠z:=λh=>hm (h▸eW);have h2:(H.frz λm=>m == z) m=H m:=by simp[Heap.frz,this]
   rw[h2];exact kn.chg m hm hx
 exact kn1.setL i hB hn
theorem Kn.callEL (hk:Kn H0 H E L)(i j:Nat){l m:Nat}{o o' q q':Obj}(h:E[i]? = some (l,o))(h2:L[j]? = some (m,q))(hu:Upd H H' [(l,o'),(m,q')])(ho:o'≠.none)(hq:q'≠.none) :
  Kn H0 H' (E.set i (l,o')) (L.set j (m,q')):=by
 refine hk.callg hu (Fe h) (Fe h2) (λp hp=>?_) (λu hu=>?_)
 ·rcases Jb.1 hp with hp|hp
  ·rcases DJ hp with rfl|⟨b,hb,hp⟩
   ·exact⟨ho,.inl ZD⟩
   ·have hm:=Jc L (Ja hp);refine⟨(hk.get p hm).2,.inr ⟨hm,?_⟩⟩;simp only[Jq,J8,Ji,Jac,or_false,not_or];exact⟨λhh=>hb (DH hk.dE hp h hh),λhh=>hk.ext p (Ja hp) (hh▸hk.free j h2)⟩
  ·rcases DJ hp with rfl|⟨b,hb,hp⟩
   ·exact⟨hq,.inl ZD⟩
   ·have hm:=Jd E (Ja hp);refine⟨(hk.get p hm).2,.inr ⟨hm,?_⟩⟩;simp only[Jq,J8,Ji,Jac,or_false,not_or];exact⟨λhh=>hk.usedE i h (hh▸hk.loc p (Ja hp)),λhh=>hb (DH hk.dL hp h2 hh)⟩
 ·simp at hu;rcases hu with rfl|rfl
  ·exact .inl (Cc (p:=(l,o)) (Ja h))
  ·exact .inr (Cc (p:=(m,q)) (Ja h2))
end Go.AE
namespace Go.AE.Y
structure Blk where
 ic:C
 aX:List (List C)
 lg:Ul
 jump:Int
 on:Int
 nfl:Bool
 next:List Int
def Blk.row (b:Blk):List C:=[.sl true 2 [],b.ic,.int .i64 b.jump,.int .i64 b.on,.sl b.nfl 1 (Qb b.next)]
structure LS where
 fns:List Fn
 pfl:Bool
 params:Int
 ae:Int
 bc:C
 lb:Ul
 blocks:List Blk
 at_:Nat
 vc:C
 lv:Ul
 vars:List (List C)
 next:Int
def LS.o (s:LS):Obj:=.st [.sl s.pfl 3 (Cb s.fns),.int .i64 s.params,.int .i64 s.ae,s.bc,.int .i64 s.at_,s.vc,.int .i64 s.next,.sl true 1 []]
def LS.L (s:LS)(w:Nat):List (Nat×Obj):=[(w,s.o)]++(s.lb++(s.lv++s.blocks.flatMap Blk.lg))
def InsRow (r:List C):Prop:=∃(op to n:Int) (fl:Bool) (args:List Int),r=[.int .i64 op,.int .i64 to,.sl fl 1 (Qb args),.int .i64 n]
def VarRow (r:List C):Prop:=∃(s:List UInt8) (a b:Int),r=[.str s,.int .i64 a,.int .i64 b]
def VGr (lv:List (Nat×Obj))(vars:List (List C))(c:C):Prop:=
 (c=.sl true 3 []/\vars=[]/\lv=[])\/∃y all n,c=.ah y 3 0 n/\n<=all.length/\vars=all.take n/\lv=[(y,.vec 3 all)]
structure LInv (F H:Heap)(w:Nat)(s:LS):Prop where
 kn:Kn F H [] (s.L w)
 gb:Gr s.lb 5 (s.blocks.map Blk.row) s.bc
 gv:VGr s.lv s.vars s.vc
 gi:∀b∈s.blocks,Gr b.lg 4 b.aX b.ic
 ri:∀b∈s.blocks,∀r∈b.aX,InsRow r
 rv:∀r∈s.vars,VarRow r
structure LS.ok (s:LS)(N:Nat):Prop where
 r0:0<=s.ae
 r1:s.ae<=N
 n0:0<=s.next
 n1:s.next<=N
 b1:s.blocks.length<=N
 i1:∀b∈s.blocks,b.aX.length<=N
 v1:s.vars.length<=N
theorem LS.ok.mono {s:LS}{N M:Nat}(h:s.ok N)(hm:N<=M):s.ok M:=
 ⟨h.r0,by have:=h.r1;omega,h.n0,by have:=h.n1;omega,by have:=h.b1;omega,λb hb=>by have:=h.i1 b hb;omega,by have:=h.v1;omega⟩
theorem InsRow.ak {r:List C}(h:InsRow r):Go.AE.ak r=true:=by obtain⟨_,_,_,_,_,rfl⟩:=h;rfl
theorem VarRow.ak {r:List C}(h:VarRow r):Go.AE.ak r=true:=by obtain⟨_,_,_,rfl⟩:=h;rfl
theorem VGr.ai {lv:Ul}{vars:List (List C)}{c:C}(h:VGr lv vars c):c.ai=false:=by
 rcases h with ⟨rfl,_⟩|⟨_,_,_,rfl,_⟩ <;> rfl
theorem VGr.aP {lv:Ul}{vars:List (List C)}{c:C}(h:VGr lv vars c):c.aP=3:=by
 rcases h with ⟨rfl,_⟩|⟨_,_,_,rfl,_⟩ <;> rfl
theorem VGr.ay {lv:Ul}{vars:List (List C)}{c:C}(h:VGr lv vars c):Go.AE.ay c=vars.length:=by
 rcases h with ⟨rfl,rfl,_⟩|⟨_,_,_,rfl,h,rfl,_⟩
 ·rfl
 ·simp[Go.AE.ay];omega
variable {F H H':Heap}{w:Nat}{s:LS}
theorem LInv.hw (h:LInv F H w s):H w=s.o:=h.kn.l 0 rfl
theorem LInv.vget (h:LInv F H w s):aZ H s.vc=True/\rowsOf H s.vc=s.vars:=by
 rcases h.gv with ⟨h1,h2,_⟩|⟨y,all,n,h1,h2,h3,h4⟩
 ·rw[h1,h2];exact⟨rfl,rfl⟩
 ·have hy:H y=.vec 3 all:=(h.kn.get (y,.vec 3 all) (by simp[LS.L,h4])).1;rw[h1];refine⟨eq_true ?_,?_⟩
  ·simp only[Go.AE.aZ,hy];exact⟨trivial,ZB⟩
  ·simp only[Go.AE.rowsOf,hy,Jaf,h3]
theorem LInv.bvec (h:LInv F H w s)(hb:0<s.blocks.length):∃y,s.bc=.ah y 5 0 s.blocks.length/\s.lb=[(y,.vec 5 (s.blocks.map Blk.row))]/\H y=.vec 5 (s.blocks.map Blk.row):=by
 rcases h.gb with ⟨_,h2,_⟩|⟨y,h1,h2⟩
 ·simp at h2;rw[h2]at hb;simp at hb
 ·refine⟨y,by rw[h1];simp,h2,?_⟩;exact (h.kn.get (y,.vec 5 (s.blocks.map Blk.row)) (by simp[LS.L,h2])).1
theorem LInv.setw {s':LS}(h:LInv F H w s)(h1:H'=H.set w s'.o)(a1:s'.lb=s.lb)(a2:s'.lv=s.lv)(a3:s'.blocks=s.blocks)(a4:s'.bc=s.bc)(a5:VGr s.lv s'.vars s'.vc)(a6:∀r∈s'.vars,VarRow r):LInv F H' w s':=by
 refine⟨?_,by rw[a1,a3,a4];exact h.gb,by rw[a2];exact a5,by rw[a3];exact h.gi,by rw[a3];exact h.ri,a6⟩;have:=h.kn.aB 0 (x:=w) (o:=s.o) rfl h1 (by simp[LS.o]);simp only[LS.L,a1,a2,a3];exact this
theorem Y3 {α:Type}{A X Y:List α}:(A++(X++Y)).Perm ((A++Y)++X):=by
 rw[Jl];exact .append_left _ Jp
theorem LInv.addBlk {K:Uk}{fl:Bool}{b:Blk}(h:LInv F H w s)(hl:s.blocks.length+1<=LIM)(b1:b.lg=[])(b2:b.ic=.sl true 4 [])(b3:b.aX=[])
  (hK:∀(y:Nat) (H1:Heap),H1 w=s.o->(∀H2,H2=H1.set w (LS.o { s with bc:=.ah y 5 0 (s.blocks.length+1) })->
   LInv F H2 w { s with bc:=.ah y 5 0 (s.blocks.length+1),lb:=[(y,.vec 5 ((s.blocks++[b]).map Blk.row))],blocks:=s.blocks++[b] })->K (.c (.ah y 5 0 (s.blocks.length+1))) H1) :
  appQ H 5 s.bc (.sl fl 5 [b.row]) K:=by
 have kn:=h.kn;have kn:Kn F H [] (([(w,s.o)]++(s.lv++s.blocks.flatMap Blk.lg))++s.lb):=kn.perm Y3;refine kn.grow h.gb (.mk' _ _ _ _) (by
  intro r hr;simp only[J5]at hr;subst hr;simp only[Blk.row,b2];rfl) Zaj λy H1 kn=>?_
 have e1:(s.blocks.map Blk.row).length+[b.row].length=s.blocks.length+1:=ZD
 rw[e1];refine hK y H1 (kn.l 0 rfl) λH2 h2=>⟨?_,?_,h.gv,?_,?_,h.rv⟩
 ·have:=kn.aB 0 (x:=w) (o:=s.o) rfl h2 (by simp[LS.o]);simp only[LS.L,Jaq,List.flatMap_cons,List.flatMap_nil,b1,Jan,Jn,Jq,J8];simp only[Jy,Jr,Jas]at this⊢;refine this.perm (.cons _ ?_);exact Jp
 ·exact .mk _ _ _ ZD
 ·intro b' aW;rcases Jb.1 aW with aW|aW
  ·exact h.gi b' aW
  ·simp at aW;subst aW;rw[b1,b2,b3];exact .nil 4
 ·intro b' aW;rcases Jb.1 aW with aW|aW
  ·exact h.ri b' aW
  ·simp at aW;subst aW;rw[b3];simp
theorem Fc {α β:Type}(f:α->List β)(l:List α)(i:Nat)(hi:i<l.length):(l.flatMap f).Perm (f l[i]++(l.eraseIdx i).flatMap f):=by
 have h1:(l[i]::l.eraseIdx i).Perm l:=by
  rw[List.eraseIdx_eq_take_drop_succ];refine List.perm_middle.symm.trans ?_;rw[<-List.drop_eq_getElem_cons hi,List.take_append_drop]
 have h2:=h1.symm.flatMap_right f;simpa using h2
theorem Fj {α β:Type}(f:α->List β)(l:List α)(i:Nat)(x:α)(hi:i<l.length):((l.set i x).flatMap f).Perm (f x++(l.eraseIdx i).flatMap f):=by
 have:=Fc f (l.set i x) i Zaf;simpa[List.eraseIdx_set_eq]using this
theorem Pj (l:List Blk)(i:Nat)(b:Blk):(l.map Blk.row).set i b.row=(l.set i b).map Blk.row:=by rw[J9]
theorem I2 {l:List Blk}{i:Nat}{b x:Blk}(h:x∈l.set i b):x=b\/x∈l:=by
 rcases DJ h with h|⟨j,_,h⟩
 ·exact .inl h
 ·exact .inr (Ja h)
theorem LInv.setBlk {b':Blk}{y i:Nat}(h:LInv F H w s)(hi:i<s.blocks.length)(dB:s.bc=.ah y 5 0 s.blocks.length)(pk:s.lb=[(y,.vec 5 (s.blocks.map Blk.row))])
  (h1:H'=H.set y (.vec 5 ((s.blocks.set i b').map Blk.row))) (a1:b'.lg=s.blocks[i].lg) (a2:b'.ic=s.blocks[i].ic) (a3:b'.aX=s.blocks[i].aX) :
  LInv F H' w { s with lb:=[(y,.vec 5 ((s.blocks.set i b').map Blk.row))],blocks:=s.blocks.set i b' }:=by
 have hm:=Jal hi;refine⟨?_,?_,h.gv,λb hb=>?_,λb hb=>?_,h.rv⟩
 ·have kn:=h.kn;simp only[LS.L,pk]at kn;have kn:=kn.aB 1 (x:=y) rfl h1;refine kn.perm ?_;simp only[LS.L,Jy,Jr,Jas,List.set_cons_succ];refine .cons _ (.cons _ (.append_left _ ?_));refine (Fc Blk.lg s.blocks i hi).trans ?_;rw[<-a1];exact (Fj Blk.lg s.blocks i b' hi).symm
 ·simp only[dB];exact .mk _ _ _ ZD
 ·rcases I2 hb with rfl|hb
  ·rw[a1,a2,a3];exact h.gi _ hm
  ·exact h.gi b hb
 ·rcases I2 hb with rfl|hb
  ·rw[a3];exact h.ri _ hm
  ·exact h.ri b hb
theorem LInv.addIns {K:Uk}{y i:Nat}{fl:Bool}{r:List C}(h:LInv F H w s)(hi:i<s.blocks.length)(dB:s.bc=.ah y 5 0 s.blocks.length)(pk:s.lb=[(y,.vec 5 (s.blocks.map Blk.row))])
  (hr:InsRow r) (hl:s.blocks[i].aX.length+1<=LIM)
  (hK:∀(z:Nat) (H1:Heap),H1 w=s.o->H1 y=.vec 5 (s.blocks.map Blk.row)->
   (∀H2,H2=H1.set y (.vec 5 ((s.blocks.map Blk.row).set i (Blk.row { s.blocks[i]with ic:=.ah z 4 0 (s.blocks[i].aX.length+1) })))->
    ∃b':Blk,b'.aX.length=s.blocks[i].aX.length+1/\LInv F H2 w { s with lb:=[(y,.vec 5 ((s.blocks.set i b').map Blk.row))],blocks:=s.blocks.set i b' })->K (.c (.ah z 4 0 (s.blocks[i].aX.length+1))) H1) :
  appQ H 4 s.blocks[i].ic (.sl fl 4 [r]) K:=by
 have hm:=Jal hi;have kn:=h.kn;simp only[LS.L]at kn;have kn:Kn F H [] (([(w,s.o)]++(s.lb++(s.lv++(s.blocks.eraseIdx i).flatMap Blk.lg)))++s.blocks[i].lg):=kn.perm (by
  have h1:(s.blocks.flatMap Blk.lg).Perm ((s.blocks.eraseIdx i).flatMap Blk.lg++s.blocks[i].lg):=(Fc Blk.lg s.blocks i hi).trans Jp;refine ((h1.append_left _).append_left _ |>.append_left _).trans ?_;simp only[Jl];exact .refl _)
 refine kn.grow (h.gi _ hm) (.mk' _ _ _ _) (by intro r' bf;simp only[J5]at bf;subst bf;exact hr.ak) Zaj λz H1 kn=>?_;have e1:s.blocks[i].aX.length+[r].length=s.blocks[i].aX.length+1:=ZD
 rw[e1];simp only[pk]at kn;refine hK z H1 (kn.l 0 rfl) (kn.l 1 rfl) λH2 h2=>?_;refine⟨{ s.blocks[i]with ic:=.ah z 4 0 (s.blocks[i].aX.length+1),aX:=s.blocks[i].aX++[r],lg:=[(z,.vec 4 (s.blocks[i].aX++[r]))] },ZD,?_⟩;have aC:Blk.row { s.blocks[i]with ic:=.ah z 4 0 (s.blocks[i].aX.length+1) }=Blk.row { s.blocks[i]with ic:=.ah z 4 0 (s.blocks[i].aX.length+1),aX:=s.blocks[i].aX++[r],lg:=[(z,.vec 4 (s.blocks[i].aX++[r]))] }:=rfl;rw[aC,Pj]at h2;refine⟨?_,?_,h.gv,λb hb=>?_,λb hb=>?_,h.rv⟩
 ·have kn:=kn.aB 1 (x:=y) rfl h2;refine kn.perm ?_;simp only[LS.L];have h1:=(Fj Blk.lg s.blocks i { s.blocks[i]with ic:=.ah z 4 0 (s.blocks[i].aX.length+1),aX:=s.blocks[i].aX++[r],lg:=[(z,.vec 4 (s.blocks[i].aX++[r]))] } hi).symm;have h3:=(Jp.trans h1).append_left ([(w,s.o)]++([(y,Obj.vec 5 ((s.blocks.set i { s.blocks[i]with ic:=.ah z 4 0 (s.blocks[i].aX.length+1),aX:=s.blocks[i].aX++[r],lg:=[(z,.vec 4 (s.blocks[i].aX++[r]))] }).map Blk.row))]++s.lv));refine List.Perm.trans ?_ (h3.trans ?_)
  ·simp only[List.set,Jy,Jr,Jl];exact .refl _
  ·simp only[Jy,Jr];exact .refl _
 ·simp only[dB];exact .mk _ _ _ ZD
 ·rcases I2 hb with rfl|hb
  ·exact .mk _ _ _ ZD
  ·exact h.gi b hb
 ·rcases I2 hb with rfl|hb
  ·intro r' bf;rcases Jb.1 bf with bf|bf
   ·exact h.ri _ hm r' bf
   ·simp at bf;subst bf;exact hr
  ·exact h.ri b hb
theorem LInv.addVar {K:Uk}{fl:Bool}{r:List C}(h:LInv F H w s)(hr:VarRow r)(hl:s.vars.length+1<=LIM)
  (hK:∀(y:Nat) (H1:Heap),H1 w=s.o->(∀H2,H2=H1.set w (LS.o { s with vc:=.ah y 3 0 (s.vars.length+1) })->
   LInv F H2 w { s with vc:=.ah y 3 0 (s.vars.length+1),lv:=[(y,.vec 3 (s.vars++[r]))],vars:=s.vars++[r] })->K (.c (.ah y 3 0 (s.vars.length+1))) H1) :
  appQ H 3 s.vc (.sl fl 3 [r]) K:=by
 have xd:∀r'∈s.vars++[r],VarRow r':=λr' bf=>by
  rcases Jb.1 bf with h1|h1
  ·exact h.rv r' h1
  ·simp at h1;subst h1;exact hr
 have kn:=h.kn;have kn:Kn F H [] (([(w,s.o)]++(s.lb++s.blocks.flatMap Blk.lg))++s.lv):=kn.perm (by
  simp only[LS.L];refine List.Perm.trans (.append_left _ (.append_left _ Jp)) ?_;simp only[Jl];exact .refl _)
 have fin:∀(y:Nat) (H1:Heap),Kn F H1 [] (([(w,s.o)]++(s.lb++s.blocks.flatMap Blk.lg))++[(y,.vec 3 (s.vars++[r]))])->K (.c (.ah y 3 0 (s.vars.length+1))) H1:=by
  intro y H1 kn;refine hK y H1 (kn.l 0 rfl) λH2 h2=>⟨?_,h.gb,.inr ⟨y,s.vars++[r],s.vars.length+1,rfl,ZD,by rw[Jz ZD],rfl⟩,h.gi,h.ri,xd⟩;have kn:=kn.aB 0 (x:=w) (o:=s.o) rfl h2 (by simp[LS.o]);refine kn.perm ?_;simp only[LS.L,List.set,Jy,Jr,Jl];refine .cons _ (.append_left _ ?_);exact Jp
 refine⟨trivial,rfl,?_⟩;rcases h.gv with ⟨h1,h2,h3⟩|⟨y,all,n,h1,h2,h3,h4⟩
 ·rw[h1];rw[h3,Jan]at kn;simp only[rowsOf,Go.AE.ay,Jr,Jao,Jau,Jap];refine⟨trivial,.inl trivial,by intro r' bf;simp only[J5]at bf;subst bf;exact hr.ak,by simp only[LIM];omega,λl hl H' dT=>?_⟩;have:=fin l H' (by rw[h2];simpa using kn.al hl dT);rw[h2]at this;exact this
 ·rw[h4]at kn;have hy:H y=.vec 3 all:=(kn.get (y,.vec 3 all) ZD).1;have hn:s.vars.length=n:=by rw[h3];simp;omega
  rw[h1];simp only[hy,rowsOf,Go.AE.ay,Jaf,Jap];refine⟨trivial,trivial,ZB,by intro r' bf;simp only[J5]at bf;subst bf;exact hr.ak,ZB,λl' dm H' dT=>?_⟩;rw[<-hn]at dT⊢;rw[hn,<-h3]at dT;refine fin l' H' ?_;have:=kn.ap ([(w,s.o)]++(s.lb++s.blocks.flatMap Blk.lg)).length (y:=y) (o:=.vec 3 all) ZD dm dT;simpa using this
end Go.AE.Y
namespace Go.AE.Y
structure InsD where
 op:Int
 to:Int
 args:List Int
 n:Int
def InsD.cells (x:InsD):List C:=[.int .i64 x.op,.int .i64 x.to,.sl false 1 (Qb x.args),.int .i64 x.n]
structure PhiD where
 to:Int
 args:List Int
def PhiD.cells (x:PhiD):List C:=[.int .i64 x.to,.sl false 1 (Qb x.args)]
def BJ (l:List InsD):List (List C):=l.map InsD.cells
def Q6 (l:List PhiD):List (List C):=l.map PhiD.cells
structure BlkD where
 ab:List PhiD
 ins:List InsD
 jump:Int
 on:Int
 next:List Int
def BlkD.cells (x:BlkD):List C:=[.sl false 2 (Q6 x.ab),.sl false 4 (BJ x.ins),.int .i64 x.jump,.int .i64 x.on,.sl false 1 (Qb x.next)]
def Qo (l:List BlkD):List (List C):=l.map BlkD.cells
structure CodeD where
 params:Int
 ae:Int
 blocks:List BlkD
def CodeD.cells (x:CodeD):List C:=[.int .i64 x.params,.int .i64 x.ae,.sl false 5 (Qo x.blocks)]
def Qm (l:List CodeD):List (List C):=l.map CodeD.cells
theorem Cv (l:List InsD):(BJ l).length=l.length:=by simp[BJ]
theorem Q0 (l:List PhiD):(Q6 l).length=l.length:=by simp[Q6]
theorem Qn (l:List BlkD):(Qo l).length=l.length:=by simp[Qo]
theorem Q8 (l:List CodeD):(Qm l).length=l.length:=Zbl
theorem E6 (l:List InsD)(i:Nat)(h:i<l.length):(BJ l).getD i []=(l[i]'h).cells:=by simp[BJ,Je,h]
theorem Dh (l:List PhiD)(i:Nat)(h:i<l.length):(Q6 l).getD i []=(l[i]'h).cells:=by simp[Q6,Je,h]
theorem Cy (l:List BlkD)(i:Nat)(h:i<l.length):(Qo l).getD i []=(l[i]'h).cells:=by simp[Qo,Je,h]
theorem Do (l:List CodeD)(i:Nat)(h:i<l.length):(Qm l).getD i []=(l[i]'h).cells:=by simp[Qm,Je,h]
theorem IP (l:List InsD):∀r∈BJ l,ak r=true:=by intro r hr;obtain⟨x,_,rfl⟩:=Jh.1 hr;rfl
theorem Su (l:List PhiD):∀r∈Q6 l,ak r=true:=by intro r hr;obtain⟨x,_,rfl⟩:=Jh.1 hr;rfl
theorem T2 (l:List BlkD):∀r∈Qo l,ak r=true:=by intro r hr;obtain⟨x,_,rfl⟩:=Jh.1 hr;rfl
theorem Ey (l:List CodeD):∀r∈Qm l,ak r=true:=by intro r hr;obtain⟨x,_,rfl⟩:=Jh.1 hr;rfl
theorem Qa0z (a:List CodeD)(x:CodeD):Qm a++[x.cells]=Qm (a++[x]):=Zbl
theorem Qbln (a:List InsD)(x:InsD):BJ a++[x.cells]=BJ (a++[x]):=by simp[BJ]
variable {H:Heap}{S:Nat->Bool}
theorem Gr.frzM {Lg:Ul}{sz:Nat}{rows rows':List (List C)}{c:C}(h:Gr Lg sz rows c)(hm:∀p∈Lg,H p.1=p.2/\S p.1=true)(hr:FrzR H S rows rows'):FrzC H S c (.sl false sz rows'):=by
 rcases h with ⟨rfl,rfl,rfl⟩|⟨y,rfl,rfl⟩
 ·cases hr;exact FrzR.nil.sl
 ·obtain⟨h1,h2⟩:=hm (y,.vec sz rows) ZD;exact hr.ah h2 h1 rfl
theorem InsRow.frz {r:List C}(h:InsRow r):∃d:InsD,FrzL H S r d.cells:=by
 obtain⟨op,to,n,fl,args,rfl⟩:=h;exact⟨⟨op,to,args,n⟩,.cons (Qg rfl) (.cons (Qg rfl) (.cons (FrzR.same (Qq _)).sl (.cons (Qg rfl) .nil)))⟩
def CodeD.fits (c:CodeD):Prop:=∀b∈c.blocks,b.ins.length<=2^38/\b.ab.length<=2^38
theorem OR:∀(l:List (List C)),(∀r∈l,InsRow r)->∃ds:List InsD,FrzR H S l (BJ ds)
 |[],_=>⟨[],.nil⟩
 |r::l,h=>by
  obtain⟨d,hd⟩:=(h r Ju).frz (H:=H) (S:=S);obtain⟨ds,gc⟩:=OR l λr' bf=>h r' (Jt _ bf);exact⟨d::ds,.cons hd gc⟩
theorem LM:∀(l:List Blk),(∀b∈l,Gr b.lg 4 b.aX b.ic/\(∀r∈b.aX,InsRow r)/\(∀p∈b.lg,H p.1=p.2/\S p.1=true)/\b.aX.length<=2^38)->
  ∃bs:List BlkD,FrzR H S (l.map Blk.row) (Qo bs)/\bs.length=l.length/\∀b∈bs,b.ins.length<=2^38/\b.ab.length<=2^38
 |[],_=>⟨[],.nil,rfl,ZD⟩
 |b::l,h=>by
  obtain⟨g1,g2,g3,g4⟩:=h b Ju;obtain⟨bs,h1,h2,h3⟩:=LM l λr' bf=>h r' (Jt _ bf);obtain⟨ds,gc⟩:=OR (H:=H) (S:=S) b.aX g2;have nu:=gc.spec.1;rw[Cv]at nu;refine⟨⟨[],ds,b.jump,b.on,b.next⟩::bs,.cons ?_ h1,by simp[h2],λb' aW=>?_⟩
  ·exact .cons FrzR.nil.sl (.cons (Gr.frzM g1 g3 gc) (.cons (Qg rfl) (.cons (Qg rfl) (.cons (FrzR.same (Qq _)).sl .nil))))
  ·rcases Ji.1 aW with rfl|aW
   ·exact⟨by show ds.length<=_;omega,ZD⟩
   ·exact h3 b' aW
end Go.AE.Y
namespace Go.AE
variable {H0 H H' F:Heap}{E L B A:Ul}
theorem Kn.toFrame {y:Nat}{o:Obj}(kn:Kn F H [] (L++[(y,o)])):Kn (F.set y o) H [] L:=by
 have dh:=kn.dL;rw[Jn]at dh;have bd:∀p∈L,p.1≠y:=λp hp hh=>(Jk.1 dh).2.2 _ (Cc hp) y ZD hh;refine⟨λp hp=>kn.get p (by simp only[Jr]at hp⊢;exact Jc _ hp),ZD,λp hp=>?_,ZD,(Jk.1 dh).1,λm hm _=>?_⟩
 ·rw[Heap.aj _ _ (bd p hp)];exact kn.loc p (Jc _ hp)
 ·by_cases h:m=y
  ·subst h;rw[Heap.aF];exact (kn.get (m,o) ZD).1
  ·rw[Heap.aj _ _ h]at hm⊢;exact kn.chg m hm ZD
theorem Kn.ofFrame {y:Nat}{o:Obj}(kn:Kn (F.set y o) H [] L)(hF:F y=.none)(ho:o≠.none):Kn F H [] (L++[(y,o)]):=by
 have hy:H y=o:=by have:=kn.chg y (by rw[Heap.aF];exact ho) ZD;rw[this,Heap.aF]
 have bd:∀p∈L,p.1≠y:=λp hp hh=>by have:=kn.loc p hp;rw[hh,Heap.aF]at this;exact ho this
 refine⟨λp hp=>?_,ZD,λp hp=>?_,ZD,?_,λm hm _=>?_⟩
 ·simp only[Jr]at hp;rcases Jb.1 hp with hp|hp
  ·exact kn.get p (by simpa using hp)
  ·simp at hp;subst hp;exact⟨hy,ho⟩
 ·rcases Jb.1 hp with hp|hp
  ·have:=kn.loc p hp;rw[Heap.aj _ _ (bd p hp)]at this;exact this
  ·simp at hp;subst hp;exact hF
 ·rw[Jn];refine Jk.2 ⟨kn.dL,ZD,λa ha b hb=>?_⟩;simp at hb;subst hb;obtain⟨p,hp,rfl⟩:=Jh.1 ha;exact bd p hp
 ·have AJ:m≠y:=λh=>by subst h;exact hm hF
  have:=kn.chg m (by rw[Heap.aj _ _ AJ];exact hm) ZD;rw[this,Heap.aj _ _ AJ]
theorem Kn.frz1 {z:Nat}{o:Obj}(kn:Kn H0 H E (B++[(z,o)])):Kn H0 (H.frz λm=>m == z) E B:=by
 have eW:H0 z=.none:=kn.loc (z,o) ZD;have dh:=kn.dL;rw[Jn]at dh;have bd:∀p∈B,p.1≠z:=λp hp hh=>(Jk.1 dh).2.2 _ (Cc hp) z ZD hh;have qM:∀p∈E,p.1≠z:=λp hp hh=>kn.ext p hp (hh▸eW);refine⟨λp hp=>?_,kn.ext,λp hp=>kn.loc p (Jc _ hp),kn.dE,(Jk.1 dh).1,λm hm hx=>?_⟩
 ·have:p.1≠z:=by
   rcases Jb.1 hp with h|h
   ·exact qM p h
   ·exact bd p h
  have h2:(H.frz λm=>m == z) p.1=H p.1:=by simp[Heap.frz,this]
  rw[h2];refine kn.get p ?_;rcases Jb.1 hp with h|h
  ·exact Jc _ h
  ·exact Jd _ (Jc _ h)
 ·have:m≠z:=λh=>hm (h▸eW);have h2:(H.frz λm=>m == z) m=H m:=by simp[Heap.frz,this]
  rw[h2];exact kn.chg m hm hx
theorem Gr.freeze {Lg:Ul}{sz:Nat}{rows:List (List C)}{c:C}(h:Gr Lg sz rows c)(kn:Kn H0 H E (B++Lg))(hr:∀r∈rows,ak r=true) :
  ∃S H2,FrzC H S c (.sl false sz rows)/\FrzH H S H2/\Kn H0 H2 E B:=by
 rcases h with ⟨rfl,rfl,rfl⟩|⟨y,rfl,rfl⟩
 ·refine⟨λ_=>false,H,Y.FrzR.nil.sl,λm=>.inr ⟨rfl,.same _⟩,ZM⟩
 ·exact⟨λm=>m == y,_,(Y.FrzR.same hr).ah ZD (kn.get (y,.vec sz rows) ZD).1 rfl,Ep _ _,kn.frz1⟩
end Go.AE
namespace Go.AE.Y
variable {F H H':Heap}{w:Nat}{s:LS}{Lg:Ul}{sz:Nat}{rows:List (List C)}{c:C}
theorem LInv.re {H2:Heap}(h:LInv F H w s)(kn:Kn F H2 [] (s.L w)):LInv F H2 w s:=⟨kn,h.gb,h.gv,h.gi,h.ri,h.rv⟩
theorem LInv.beside (h:LInv F H w s)(kn:Kn F H [] (s.L w++Lg))(hg:Gr Lg sz rows c) :
  ∃F',LInv F' H w s/\∀(s':LS) (H':Heap),LInv F' H' w s'->LInv F H' w s'/\Kn F H' [] (s'.L w++Lg):=by
 rcases hg with ⟨_,_,rfl⟩|⟨y,_,rfl⟩
 ·exact⟨F,h,λs' H' h'=>⟨h',by simpa using h'.kn⟩⟩
 ·refine⟨F.set y (.vec sz rows),⟨kn.toFrame,h.gb,h.gv,h.gi,h.ri,h.rv⟩,λs' H' h'=>?_⟩;have k2:=h'.kn.ofFrame (kn.loc (y,.vec sz rows) ZD) ZD;exact⟨⟨k2.drop,h'.gb,h'.gv,h'.gi,h'.ri,h'.rv⟩,k2⟩
end Go.AE.Y
namespace Go.AE
variable {H0 H H':Heap}{E L N B:Ul}
theorem Kn.comp0 (kn:Kn H0 H E L)(k2:Kn H H' [] N):Kn H0 H' E (L++N):=by
 have bd:∀p∈E++L,H p.1≠.none:=λp hp=>by obtain⟨a,b⟩:=kn.get p hp;rw[a];exact b
 refine⟨λp hp=>?_,kn.ext,λp hp=>?_,kn.dE,?_,λm hm hx=>?_⟩
 ·rw[<-Jl]at hp;rcases Jb.1 hp with hp|hp
  ·obtain⟨a,b⟩:=kn.get p hp;exact⟨by rw[k2.chg p.1 (bd p hp) ZD,a],b⟩
  ·exact k2.get p (by simpa using hp)
 ·rcases Jb.1 hp with hp|hp
  ·exact kn.loc p hp
  ·exact (kn.newFree (k2.loc p hp)).1
 ·rw[Jn];refine Jk.2 ⟨kn.dL,k2.dL,λa ha b hb eD=>?_⟩;obtain⟨p,hp,rfl⟩:=Jh.1 ha;obtain⟨q,hq,rfl⟩:=Jh.1 hb;exact bd p (Jd _ hp) (by rw[eD];exact k2.loc q hq)
 ·have:=kn.chg m hm hx;rw[k2.chg m (by rw[this];exact hm) ZD,this]
theorem Kn.compE (kn:Kn H0 H E L)(i:Nat){l:Nat}{o o':Obj}(h:E[i]? = some (l,o))(k2:Kn H H' [(l,o')] N):Kn H0 H' (E.set i (l,o')) (L++N):=by
 have bd:∀p∈E++L,H p.1≠.none:=λp hp=>by obtain⟨a,b⟩:=kn.get p hp;rw[a];exact b
 have hl:H' l=o'/\o'≠.none:=k2.get (l,o') ZD;have hu:Upd H H' [(l,o')]:=⟨λp hp=>by simp at hp;subst hp;exact hl.1,λm hm hx=>k2.chg m hm hx⟩;have k3:=kn.au i h hu hl.2;refine⟨λp hp=>?_,k3.ext,λp hp=>?_,k3.dE,?_,k3.chg⟩
 ·rw[<-Jl]at hp;rcases Jb.1 hp with hp|hp
  ·exact k3.get p hp
  ·exact k2.get p (Jd _ hp)
 ·rcases Jb.1 hp with hp|hp
  ·exact kn.loc p hp
  ·exact (kn.newFree (k2.loc p hp)).1
 ·rw[Jn];refine Jk.2 ⟨kn.dL,k2.dL,λa ha b hb eD=>?_⟩;obtain⟨p,hp,rfl⟩:=Jh.1 ha;obtain⟨q,hq,rfl⟩:=Jh.1 hb;exact bd p (Jd _ hp) (by rw[eD];exact k2.loc q hq)
theorem Kn.finK (hk:Kn H0 H E (B++N)):Kn H0 (H.frz (Go.AE.unx H0 N)) E N:=by
 obtain⟨h1,h2⟩:=hk.finx;have hd:=hk.dL;rw[Jn]at hd;refine⟨λp hp=>?_,hk.ext,λp hp=>hk.loc p (Jd _ hp),hk.dE,(Jk.1 hd).2.1,h1.2⟩;rcases Jb.1 hp with hp|hp
 ·exact⟨h1.1 p hp,(hk.get p (Jc _ hp)).2⟩
 ·exact⟨(h2 p hp).2,(hk.get p (Jd _ (Jd _ hp))).2⟩
end Go.AE
namespace Go.AE.Y
structure OInts where
 ns:List Int
 y:Nat
def OInts.c (x:OInts):C:=.ah x.y 1 0 x.ns.length
def OInts.lg (x:OInts):List (Nat×Obj):=[(x.y,.vec 1 (Qb x.ns))]
structure OPhi where
 to:Int
 ns:List Int
 ac:C
 lg:Ul
def OPhi.row (x:OPhi):List C:=[.int .i64 x.to,x.ac]
def OPhi.ok (x:OPhi):Prop:=(∃y,x.ac=.ah y 1 0 x.ns.length/\x.lg=[(y,.vec 1 (Qb x.ns))])\/(∃fl,x.ac=.sl fl 1 (Qb x.ns)/\x.lg=[])
def OPhi.own (x:OPhi):Prop:=∃y,x.ac=.ah y 1 0 x.ns.length/\x.lg=[(y,.vec 1 (Qb x.ns))]
structure OIns where
 op:Int
 to:Int
 a:OInts
 n:Int
def OIns.row (x:OIns):List C:=[.int .i64 x.op,.int .i64 x.to,x.a.c,.int .i64 x.n]
def OIns.lg (x:OIns):List (Nat×Obj):=x.a.lg
structure OBlk where
 ab:List OPhi
 pc:C
 pl:Ul
 ins:List OIns
 ic:C
 il:Ul
 jump:Int
 on:Int
 nx:OInts
def OBlk.row (x:OBlk):List C:=[x.pc,x.ic,.int .i64 x.jump,.int .i64 x.on,x.nx.c]
def OBlk.lg (x:OBlk):List (Nat×Obj):=x.nx.lg++(x.ab.flatMap OPhi.lg++(x.pl++(x.ins.flatMap OIns.lg++x.il)))
structure OBlk.ok (x:OBlk):Prop where
 p:Gr x.pl 2 (x.ab.map OPhi.row) x.pc
 i:Gr x.il 4 (x.ins.map OIns.row) x.ic
 a:∀p∈x.ab,p.ok
structure OCode where
 params:Int
 ae:Int
 blocks:List OBlk
 bc:C
 bl:Ul
def OCode.row (x:OCode):List C:=[.int .i64 x.params,.int .i64 x.ae,x.bc]
def OCode.lg (x:OCode):List (Nat×Obj):=x.blocks.flatMap OBlk.lg++x.bl
structure OCode.ok (x:OCode):Prop where
 b:Gr x.bl 5 (x.blocks.map OBlk.row) x.bc
 bs:∀b∈x.blocks,b.ok
def OPhi.d (x:OPhi):PhiD:=⟨x.to,x.ns⟩
def OIns.d (x:OIns):InsD:=⟨x.op,x.to,x.a.ns,x.n⟩
def OBlk.d (x:OBlk):BlkD:=⟨x.ab.map OPhi.d,x.ins.map OIns.d,x.jump,x.on,x.nx.ns⟩
def OCode.d (x:OCode):CodeD:=⟨x.params,x.ae,x.blocks.map OBlk.d⟩
theorem OPhi.ak (x:OPhi)(h:x.ok):Go.AE.ak x.row=true:=by
 rcases h with ⟨y,h,_⟩|⟨fl,h,_⟩ <;> simp only[Go.AE.ak,OPhi.row,h] <;> rfl
theorem OIns.ak (x:OIns):Go.AE.ak x.row=true:=rfl
theorem OBlk.ak (x:OBlk)(h:x.ok):Go.AE.ak x.row=true:=by
 simp only[Go.AE.ak,OBlk.row,OInts.c,J4,J7,h.p.ai,h.i.ai];rfl
theorem OCode.ak (x:OCode)(h:x.ok):Go.AE.ak x.row=true:=by
 simp only[Go.AE.ak,OCode.row,J4,J7,h.b.ai];rfl
variable {H:Heap}{S:Nat->Bool}
def Held (H:Heap)(S:Nat->Bool)(l:List (Nat×Obj)):Prop:=∀p∈l,H p.1=p.2/\S p.1=true
theorem Held.l {a b:Ul}(h:Held H S (a++b)):Held H S a:=λp hp=>h p (Jc _ hp)
theorem Held.r {a b:Ul}(h:Held H S (a++b)):Held H S b:=λp hp=>h p (Jd _ hp)
theorem Held.m {α:Type}{f:α->Ul}{l:List α}(h:Held H S (l.flatMap f)){x:α}(hx:x∈l):Held H S (f x):=λp hp=>h p (List.mem_flatMap.2 ⟨x,hx,hp⟩)
theorem OInts.frz (x:OInts)(h:Held H S x.lg):FrzC H S x.c (.sl false 1 (Qb x.ns)):=by
 obtain⟨h1,h2⟩:=h (x.y,.vec 1 (Qb x.ns)) (by simp[OInts.lg]);exact (FrzR.same (Qq _)).ah h2 h1 Zaq
theorem OPhi.frz (x:OPhi)(ax:x.ok)(h:Held H S x.lg):FrzL H S x.row (PhiD.mk x.to x.ns).cells:=by
 refine .cons (Qg rfl) (.cons ?_ .nil);rcases ax with ⟨y,h1,h2⟩|⟨fl,h1,h2⟩
 ·obtain⟨h3,h4⟩:=h (y,.vec 1 (Qb x.ns)) Zab;rw[h1];exact (FrzR.same (Qq _)).ah h4 h3 Zaq
 ·rw[h1];exact (FrzR.same (Qq _)).sl
theorem OIns.frz (x:OIns)(h:Held H S x.lg):FrzL H S x.row (InsD.mk x.op x.to x.a.ns x.n).cells:=.cons (Qg rfl) (.cons (Qg rfl) (.cons (x.a.frz h) (.cons (Qg rfl) .nil)))
theorem Hk {α β:Type}{f:α->List C}{g:β->List C}:∀(l:List α),(∀x∈l,∃y,FrzL H S (f x) (g y))->∃l':List β,FrzR H S (l.map f) (l'.map g)/\l'.length=l.length
 |[],_=>⟨[],.nil,rfl⟩
 |x::l,h=>by
  obtain⟨y,hy⟩:=h x Ju;obtain⟨l',dm,hn⟩:=Hk l λz hz=>h z (Jt _ hz);exact⟨y::l',.cons hy dm,ZaQ⟩
theorem Sa {α β:Type}{P:β->Prop}{f:α->List C}{g:β->List C}:∀(l:List α),(∀x∈l,∃y,FrzL H S (f x) (g y)/\P y)->∃l':List β,FrzR H S (l.map f) (l'.map g)/\l'.length=l.length/\∀y∈l',P y
 |[],_=>⟨[],.nil,rfl,ZD⟩
 |x::l,h=>by
  obtain⟨y,hy,hp⟩:=h x Ju;obtain⟨l',dm,hn,ft⟩:=Sa l λz hz=>h z (Jt _ hz);refine⟨y::l',.cons hy dm,ZaQ,λz hz=>?_⟩;rcases Ji.1 hz with rfl|hz
  ·exact hp
  ·exact ft z hz
theorem OBlk.frz (x:OBlk)(ax:x.ok)(h:Held H S x.lg):∃d:BlkD,FrzL H S x.row d.cells/\d.next=x.nx.ns/\d.ins.length=x.ins.length/\d.ab.length=x.ab.length:=by
 obtain⟨ps,ft,tH⟩:=Hk (H:=H) (S:=S) (f:=OPhi.row) (g:=PhiD.cells) x.ab λp hp=>⟨_,p.frz (ax.a p hp) (h.r.l.m hp)⟩;obtain⟨is,nt,dH⟩:=Hk (H:=H) (S:=S) (f:=OIns.row) (g:=InsD.cells) x.ins λp hp=>⟨_,p.frz (h.r.r.r.l.m hp)⟩;exact⟨⟨ps,is,x.jump,x.on,x.nx.ns⟩,.cons (Gr.frzM ax.p h.r.r.l ft) (.cons (Gr.frzM ax.i h.r.r.r.r nt) (.cons (Qg rfl) (.cons (Qg rfl) (.cons (x.nx.frz h.l) .nil)))),rfl,dH,tH⟩
end Go.AE.Y
namespace Go.AE.Y
theorem Ee {α:Type}{A L1 L2:List α}:(A++L1++L2).Perm (A++L2++L1):=by
 rw[Jl,Jl];exact .append_left _ Jp
structure BlkD.sm (b:BlkD):Prop where
 n:b.next.length<=2
 i:b.ins.length<=1000
 p:b.ab.length<=1000
 ia:∀x∈b.ins,x.args.length<=1000
 pa:∀x∈b.ab,x.args.length<=1000
structure CodeD.sm (c:CodeD):Prop where
 b0:0<c.blocks.length
 b:c.blocks.length<=160
 bs:∀b∈c.blocks,b.sm
 p0:0<=c.params
 p1:c.params<=1000
structure OBlk.sm (b:OBlk)(N:Nat):Prop where
 n:b.nx.ns.length<=2
 i:b.ins.length<=1000
 p:b.ab.length<=N
 ia:∀x∈b.ins,x.a.ns.length<=N
 pa:∀x∈b.ab,x.ns.length<=N
structure OCode.sm (c:OCode)(N:Nat):Prop where
 b0:0<c.blocks.length
 b:c.blocks.length<=160
 bs:∀b∈c.blocks,b.sm N
 p0:0<=c.params
 p1:c.params<=1000
theorem OBlk.sm.mono {b:OBlk}{N M:Nat}(h:b.sm N)(hm:N<=M):b.sm M:=⟨h.n,h.i,by have:=h.p;omega,λx hx=>by have:=h.ia x hx;omega,λx hx=>by have:=h.pa x hx;omega⟩
theorem OCode.sm.mono {c:OCode}{N M:Nat}(h:c.sm N)(hm:N<=M):c.sm M:=⟨h.b0,h.b,λb hb=>(h.bs b hb).mono hm,h.p0,h.p1⟩
structure BlkD.sg (b:BlkD):Prop where
 n:b.next.length<=1000000
 i:b.ins.length<=1000000
 p:b.ab.length<=1000000
 ia:∀x∈b.ins,x.args.length<=1000000
 pa:∀x∈b.ab,x.args.length<=1000000
structure CodeD.sg (c:CodeD):Prop where
 b:c.blocks.length<=1000000
 bs:∀b∈c.blocks,b.sg
theorem BlkD.sm.sg {b:BlkD}(h:b.sm):b.sg:=⟨by have:=h.n;omega,by have:=h.i;omega,by have:=h.p;omega,λx hx=>by have:=h.ia x hx;omega,λx hx=>by have:=h.pa x hx;omega⟩
theorem CodeD.sm.sg {c:CodeD}(h:c.sm):c.sg:=⟨by have:=h.b;omega,λb hb=>(h.bs b hb).sg⟩
structure CodeD.gd (c:CodeD):Prop where
 b0:0<c.blocks.length
 b1:c.blocks.length<=160
 n:∀b∈c.blocks,b.next.length<=2
 f:c.fits
 s:c.sg
theorem CodeD.sm.fits {c:CodeD}(h:c.sm):c.fits:=λb hb=>⟨by have:=(h.bs b hb).i;omega,by have:=(h.bs b hb).p;omega⟩
theorem CodeD.sm.gd {c:CodeD}(h:c.sm):c.gd:=⟨h.b0,h.b,λb hb=>(h.bs b hb).n,h.fits,h.sg⟩
theorem BlkD.sm.o {o:OBlk}(h:o.d.sm):o.sm 1000:=
 ⟨h.n,by have:=h.i;simp only[OBlk.d,J2]at this;exact this,by have:=h.p;simp only[OBlk.d,J2]at this;exact this,λx hx=>h.ia x.d (Jh.2 ⟨x,hx,rfl⟩),λx hx=>h.pa x.d (Jh.2 ⟨x,hx,rfl⟩)⟩
theorem CodeD.sm.o {o:OCode}(h:o.d.sm):o.sm 1000:=
 ⟨by have:=h.b0;simp only[OCode.d,J2]at this;exact this,by have:=h.b;simp only[OCode.d,J2]at this;exact this,λb hb=>(h.bs b.d (Jh.2 ⟨b,hb,rfl⟩)).o,h.p0,h.p1⟩
variable {H:Heap}{S:Nat->Bool}
theorem FW {α β:Type}{f:α->List C}{g:β->List C}{d:α->β}:∀(l:List α),(∀x∈l,FrzL H S (f x) (g (d x)))->FrzR H S (l.map f) ((l.map d).map g)
 |[],_=>.nil
 |x::l,h=>.cons (h x Ju) (FW l λz hz=>h z (Jt _ hz))
theorem OBlk.frzD (x:OBlk)(ax:x.ok)(h:Held H S x.lg):FrzL H S x.row x.d.cells:=by
 have ft:=FW (H:=H) (S:=S) (f:=OPhi.row) (g:=PhiD.cells) (d:=OPhi.d) x.ab λp hp=>p.frz (ax.a p hp) (h.r.l.m hp);have nt:=FW (H:=H) (S:=S) (f:=OIns.row) (g:=InsD.cells) (d:=OIns.d) x.ins λp hp=>p.frz (h.r.r.r.l.m hp);exact .cons (Gr.frzM ax.p h.r.r.l ft) (.cons (Gr.frzM ax.i h.r.r.r.r nt) (.cons (Qg rfl) (.cons (Qg rfl) (.cons (x.nx.frz h.l) .nil))))
theorem OCode.frz (x:OCode){N:Nat}(hN:N<=100000)(ax:x.ok)(hs:x.sm N)(h:Held H S x.lg):∃d:CodeD,FrzL H S x.row d.cells/\d.gd:=by
 have kL:=FW (H:=H) (S:=S) (f:=OBlk.row) (g:=BlkD.cells) (d:=OBlk.d) x.blocks λb hb=>b.frzD (ax.bs b hb) (h.l.m hb);have eV:=hs.b0;have ba:=hs.b;have hd:∀d∈x.blocks.map OBlk.d,d.next.length<=2/\d.ins.length<=1000/\d.ab.length<=N/\(∀i∈d.ins,i.args.length<=N)/\∀i∈d.ab,i.args.length<=N:=λd hd=>by
  obtain⟨b,hb,rfl⟩:=Jh.1 hd;have fS:=hs.bs b hb;refine⟨fS.n,by simpa[OBlk.d]using fS.i,by simpa[OBlk.d]using fS.p,λi hi=>?_,λi hi=>?_⟩
  ·obtain⟨y,hy,rfl⟩:=Jh.1 hi;exact fS.ia y hy
  ·obtain⟨y,hy,rfl⟩:=Jh.1 hi;exact fS.pa y hy
 refine⟨⟨x.params,x.ae,x.blocks.map OBlk.d⟩,.cons (Qg rfl) (.cons (Qg rfl) (.cons (Gr.frzM ax.b h.r kL) .nil)),by simpa using eV,by simpa using ba,λb hb=>(hd b hb).1,λb hb=>?_,by simp only[J2];omega,λb hb=>?_⟩
 ·obtain⟨h1,h2,h3,h4,h5⟩:=hd b hb;omega
 ·obtain⟨h1,h2,h3,h4,h5⟩:=hd b hb;exact⟨ZB,ZB,ZB,λi hi=>by have:=h4 i hi;omega,λi hi=>by have:=h5 i hi;omega⟩
theorem OCodes.frz {N:Nat}(hN:N<=100000){us:List OCode}{cc:C}{cl:Ul}(hg:Gr cl 3 (us.map OCode.row) cc)(hu:∀u∈us,u.ok/\u.sm N)(h:Held H S (us.flatMap OCode.lg++cl)) :
  ∃cs:List CodeD,FrzC H S cc (.sl false 3 (Qm cs))/\cs.length=us.length/\∀c∈cs,c.gd:=by
 obtain⟨cs,h1,h2,h3⟩:=Sa (H:=H) (S:=S) (P:=CodeD.gd) (f:=OCode.row) (g:=CodeD.cells) us λu eJ=>u.frz hN (hu u eJ).1 (hu u eJ).2 (h.l.m eJ);exact⟨cs,Gr.frzM hg h.r h1,h2,h3⟩
end Go.AE.Y
namespace Go.AE
variable {P:Program}
theorem Ck {a b:SC}{Q:X->Env->Heap->Prop}{e:Env}{H:Heap}(T:Env->Heap->Prop)(h1:∀Q':X->Env->Heap->Prop,(∀e H,T e H->Q' .nrm e H)->(∀e H,Q .ret e H->Q' .ret e H)->(∀i e H,Q (.exit i) e H->Q' (.exit i) e H)->BI P a Q' e H)
  (h2:∀e H,T e H->BI P b Q e H):BI P (.seq a b) Q e H:=h1 (X.sq P b Q) h2 (λ_ _ h=>h) (λ_ _ _ h=>h)
end Go.AE
namespace Go.AE.Y
structure UPhi where
 to:Int
 ns:List Int
 ac:C
 al:Ul
def UPhi.row (x:UPhi):List C:=[.int .i64 x.to,x.ac]
structure UBlk where
 ab:List UPhi
 pc:C
 pl:Ul
 ins:List InsD
 ic:C
 il:Ul
 jump:Int
 on:Int
 nfl:Bool
 next:List Int
def UBlk.row (x:UBlk):List C:=[x.pc,x.ic,.int .i64 x.jump,.int .i64 x.on,.sl x.nfl 1 (Qb x.next)]
def UBlk.lg (x:UBlk):List (Nat×Obj):=x.il++(x.ab.flatMap UPhi.al++x.pl)
structure UBlk.ok (x:UBlk):Prop where
 p:Gr x.pl 2 (x.ab.map UPhi.row) x.pc
 i:Gr x.il 4 (BJ x.ins) x.ic
 a:∀p∈x.ab,Gr p.al 1 (Qb p.ns) p.ac
structure UBlk.sm (b:UBlk)(N:Nat):Prop where
 n:b.next.length<=2
 i:b.ins.length<=1000
 p:b.ab.length<=N
 ia:∀x∈b.ins,x.args.length<=1000
 pa:∀x∈b.ab,x.ns.length<=1000
structure UCode where
 params:Int
 ae:Int
 blocks:List UBlk
 bc:C
 bl:Ul
def UCode.row (x:UCode):List C:=[.int .i64 x.params,.int .i64 x.ae,x.bc]
def UCode.lg (x:UCode):List (Nat×Obj):=x.blocks.flatMap UBlk.lg++x.bl
structure UCode.ok (x:UCode):Prop where
 b:Gr x.bl 5 (x.blocks.map UBlk.row) x.bc
 bs:∀b∈x.blocks,b.ok
 p0:0<=x.params
 p1:x.params<=3
structure UCode.sm (c:UCode)(N:Nat):Prop where
 b0:0<c.blocks.length
 b:c.blocks.length<=160
 bs:∀b∈c.blocks,b.sm N
theorem UPhi.ak (x:UPhi)(h:Gr x.al 1 (Qb x.ns) x.ac):Go.AE.ak x.row=true:=by
 simp only[Go.AE.ak,UPhi.row,J4,J7,h.ai];rfl
theorem UBlk.ak (x:UBlk)(h:x.ok):Go.AE.ak x.row=true:=by
 simp only[Go.AE.ak,UBlk.row,J4,J7,h.p.ai,h.i.ai];rfl
theorem UCode.ak (x:UCode)(h:x.ok):Go.AE.ak x.row=true:=by
 simp only[Go.AE.ak,UCode.row,J4,J7,h.b.ai];rfl
theorem UBlk.len5 (x:UBlk):x.row.length=5:=rfl
theorem UCode.len3 (x:UCode):x.row.length=3:=rfl
theorem UBlk.sm.mono {b:UBlk}{N M:Nat}(h:b.sm N)(hm:N<=M):b.sm M:=⟨h.n,h.i,by have:=h.p;omega,h.ia,h.pa⟩
theorem UCode.sm.mono {c:UCode}{N M:Nat}(h:c.sm N)(hm:N<=M):c.sm M:=⟨h.b0,h.b,λb hb=>(h.bs b hb).mono hm⟩
variable {H:Heap}{S:Nat->Bool}
theorem UBlk.frz (x:UBlk){N:Nat}(hN:N<=1000)(ax:x.ok)(hs:x.sm N)(h:Held H S x.lg):∃d:BlkD,FrzL H S x.row d.cells/\d.sm:=by
 obtain⟨ps,ft,tH,hpp⟩:=Sa (H:=H) (S:=S) (P:=λp:PhiD=>p.args.length<=1000) (f:=UPhi.row) (g:=PhiD.cells) x.ab λp hp=>
  ⟨⟨p.to,p.ns⟩,.cons (Qg rfl) (.cons (Gr.frzM (ax.a p hp) (h.r.l.m hp) (FrzR.same (Qq _))) .nil),hs.pa p hp⟩
 have h1:=hs.n;have h2:=hs.i;have h3:=hs.p;exact⟨⟨ps,x.ins,x.jump,x.on,x.next⟩,.cons (Gr.frzM ax.p h.r.r ft) (.cons (Gr.frzM ax.i h.l (FrzR.same (IP _))) (.cons (Qg rfl) (.cons (Qg rfl) (.cons (FrzR.same (Qq _)).sl .nil)))),
  h1,h2,by show ps.length<=_;omega,hs.ia,hpp⟩
theorem UCode.frz (x:UCode){N:Nat}(hN:N<=1000)(ax:x.ok)(hs:x.sm N)(h:Held H S x.lg):∃d:CodeD,FrzL H S x.row d.cells/\d.sm:=by
 obtain⟨bs,kL,cR,z8⟩:=Sa (H:=H) (S:=S) (P:=BlkD.sm) (f:=UBlk.row) (g:=BlkD.cells) x.blocks λb hb=>b.frz hN (ax.bs b hb) (hs.bs b hb) (h.l.m hb);have eV:=hs.b0;have ba:=hs.b;exact⟨⟨x.params,x.ae,bs⟩,.cons (Qg rfl) (.cons (Qg rfl) (.cons (Gr.frzM ax.b h.r kL) .nil)),by show 0<bs.length;omega,by show bs.length<=_;omega,z8,ax.p0,by have:=ax.p1;show x.params<=_;omega⟩
theorem UCodes.frz {us:List UCode}{N:Nat}(hN:N<=1000){cc:C}{cl:Ul}(hg:Gr cl 3 (us.map UCode.row) cc)(hu:∀u∈us,u.ok/\u.sm N)(h:Held H S (us.flatMap UCode.lg++cl)) :
  ∃cs:List CodeD,FrzC H S cc (.sl false 3 (Qm cs))/\cs.length=us.length/\∀c∈cs,c.sm:=by
 obtain⟨cs,h1,h2,h3⟩:=Sa (H:=H) (S:=S) (P:=CodeD.sm) (f:=UCode.row) (g:=CodeD.cells) us λu eJ=>u.frz hN (hu u eJ).1 (hu u eJ).2 (h.l.m eJ);exact⟨cs,Gr.frzM hg h.r h1,h2,h3⟩
end Go.AE.Y
namespace Go.AE.Y
theorem Qj {α:Type}{l1 l2:List α}(h:∀f:List α->Nat,(∀a b,f (a++b)=f a+f b)->f []=0->(∀x l,f (x::l)=f [x]+f l)->(∀a b:List α,a.Perm b->f a=f b)->f l1=f l2):l1.Perm l2:=by
 classical
 exact List.perm_iff_count.2 λa=>h (List.count a) (λ_ _=>List.count_append) rfl (λx l=>by rw[Jaw,Jaw];simp;omega) (λ_ _ hp=>hp.count_eq a)
def UBlk.core (x:UBlk):List (Nat×Obj):=x.il++x.ab.flatMap UPhi.al
def Dt (us:List UCode)(ci bi:Nat)(hc:ci<us.length):List (Nat×Obj):=(us[ci].blocks.eraseIdx bi).flatMap UBlk.lg++(us.eraseIdx ci).flatMap UCode.lg
theorem Xg (us:List UCode)(ci bi:Nat)(hc:ci<us.length)(hb:bi<us[ci].blocks.length) :
  (us.flatMap UCode.lg).Perm (us[ci].bl++(us[ci].blocks[bi].pl++(us[ci].blocks[bi].core++Dt us ci bi hc))):=by
 refine Qj λf hf h0 bH hp=>?_;rw[hp _ _ (Fc UCode.lg us ci hc)];simp only[hf,UCode.lg,Dt];rw[hp _ _ (Fc UBlk.lg us[ci].blocks bi hb)];simp only[Ui,hf,UBlk.lg,UBlk.core];omega
def UCode.put (u:UCode)(bi:Nat)(b:UBlk)(bl:List (Nat×Obj)):UCode:={ u with blocks:=u.blocks.set bi b,bl:=bl }
theorem Qb33 (us:List UCode)(ci bi:Nat)(hc:ci<us.length)(hb:bi<us[ci].blocks.length)(b:UBlk)(bl:Ul) :
  ((us.set ci (us[ci].put bi b bl)).flatMap UCode.lg).Perm (bl++(b.pl++(b.core++Dt us ci bi hc))):=by
 refine Qj λf hf h0 bH hp=>?_;rw[hp _ _ (Fj UCode.lg us ci _ hc)];simp only[hf,UCode.lg,Dt,UCode.put];rw[hp _ _ (Fj UBlk.lg us[ci].blocks bi _ hb)];simp only[Ui,hf,UBlk.lg,UBlk.core];omega
theorem UBlk.core_snoc (b:UBlk)(p:UPhi)(pc:C)(pl:Ul):UBlk.core { b with ab:=b.ab++[p],pc:=pc,pl:=pl }=b.core++p.al:=by
 simp[UBlk.core,Jaq]
theorem UCode.put_row (u:UCode)(bi:Nat)(b:UBlk)(bl:Ul):(u.put bi b bl).row=u.row:=rfl
theorem Qb34 (us:List UCode)(ci:Nat)(hc:ci<us.length)(u:UCode)(h:u.row=us[ci].row):(us.set ci u).map UCode.row=us.map UCode.row:=by
 rw[J9,h];refine Jak ZD λi h1 h2=>?_;rw[Jab];split
 ·rename_i h;subst h;simp
 ·rfl
theorem UCode.put_ok {u:UCode}{bi:Nat}{b:UBlk}{y:Nat}(h:u.ok)(hb:b.ok)(bu:u.bl=[(y,.vec 5 (u.blocks.map UBlk.row))]):(u.put bi b [(y,.vec 5 ((u.blocks.set bi b).map UBlk.row))]).ok:=by
 refine⟨?_,λb' aW=>?_,h.p0,h.p1⟩
 ·rcases h.b with ⟨h1,h2,h3⟩|⟨y',h1,h2⟩
  ·rw[bu]at h3;simp at h3
  ·rw[bu]at h2;have:y=y':=Zae
   subst this;exact .inr ⟨y,by show u.bc=_;rw[h1];simp[UCode.put],rfl⟩
 ·rcases Jo aW with aW|rfl
  ·exact h.bs _ aW
  ·exact hb
theorem UCode.put_sm {u:UCode}{bi N:Nat}{b:UBlk}{bl:Ul}(h:u.sm N)(hb:b.sm (N+1)):(u.put bi b bl).sm (N+1):=by
 refine⟨by show 0<(u.blocks.set bi b).length;simpa using h.b0,by show (u.blocks.set bi b).length<=_;simpa using h.b,λb' aW=>?_⟩;rcases Jo aW with aW|rfl
 ·exact (h.bs _ aW).mono ZB
 ·exact hb
theorem UCode.bvec {u:UCode}(h:u.ok)(h0:0<u.blocks.length):∃y,u.bc=.ah y 5 0 u.blocks.length/\u.bl=[(y,.vec 5 (u.blocks.map UBlk.row))]:=by
 rcases h.b with ⟨h1,h2,h3⟩|⟨y,h1,h2⟩
 ·have:=Jae.1 h2;rw[this]at h0;simp at h0
 ·exact⟨y,by rw[h1];simp,h2⟩
def CM (us:List OCode)(ci bi:Nat)(hc:ci<us.length):List (Nat×Obj):=(us[ci].blocks.eraseIdx bi).flatMap OBlk.lg++(us.eraseIdx ci).flatMap OCode.lg
theorem Y6 (us:List OCode)(ci bi:Nat)(hc:ci<us.length)(hb:bi<us[ci].blocks.length) :
  (us.flatMap OCode.lg).Perm (us[ci].bl++(us[ci].blocks[bi].lg++CM us ci bi hc)):=by
 refine Qj λf hf h0 bH hp=>?_;rw[hp _ _ (Fc OCode.lg us ci hc)];simp only[hf,OCode.lg,CM];rw[hp _ _ (Fc OBlk.lg us[ci].blocks bi hb)];simp only[Ui,hf];omega
def OCode.put (u:OCode)(bi:Nat)(b:OBlk)(bl:List (Nat×Obj)):OCode:={ u with blocks:=u.blocks.set bi b,bl:=bl }
theorem Qb2x (us:List OCode)(ci bi:Nat)(hc:ci<us.length)(hb:bi<us[ci].blocks.length)(b:OBlk)(bl:Ul) :
  ((us.set ci (us[ci].put bi b bl)).flatMap OCode.lg).Perm (bl++(b.lg++CM us ci bi hc)):=by
 refine Qj λf hf h0 bH hp=>?_;rw[hp _ _ (Fj OCode.lg us ci _ hc)];simp only[hf,OCode.lg,CM,OCode.put];rw[hp _ _ (Fj OBlk.lg us[ci].blocks bi _ hb)];simp only[Ui,hf];omega
theorem Qb2y (us:List OCode)(ci:Nat)(hc:ci<us.length)(u:OCode)(h:u.row=us[ci].row):(us.set ci u).map OCode.row=us.map OCode.row:=by
 rw[J9,h];refine Jak ZD λi h1 h2=>?_;rw[Jab];split
 ·rename_i h;subst h;simp
 ·rfl
theorem OCode.put_ok {u:OCode}{bi:Nat}{b:OBlk}{y:Nat}(h:u.ok)(hb:b.ok)(bu:u.bl=[(y,.vec 5 (u.blocks.map OBlk.row))]):(u.put bi b [(y,.vec 5 ((u.blocks.set bi b).map OBlk.row))]).ok:=by
 refine⟨?_,λb' aW=>?_⟩
 ·rcases h.b with ⟨h1,h2,h3⟩|⟨y',h1,h2⟩
  ·rw[bu]at h3;simp at h3
  ·rw[bu]at h2;have:y=y':=Zae
   subst this;exact .inr ⟨y,by show u.bc=_;rw[h1];simp[OCode.put],rfl⟩
 ·rcases Jo aW with aW|rfl
  ·exact h.bs _ aW
  ·exact hb
theorem OCode.put_sm {u:OCode}{bi:Nat}{b:OBlk}{bl:Ul}{N:Nat}(h:u.sm N)(hb:b.sm (N+1)):(u.put bi b bl).sm (N+1):=by
 refine⟨by show 0<(u.blocks.set bi b).length;simpa using h.b0,by show (u.blocks.set bi b).length<=_;simpa using h.b,λb' aW=>?_,h.p0,h.p1⟩;rcases Jo aW with aW|rfl
 ·exact (h.bs _ aW).mono ZB
 ·exact hb
theorem OCode.bvec {u:OCode}(h:u.ok)(h0:0<u.blocks.length):∃y,u.bc=.ah y 5 0 u.blocks.length/\u.bl=[(y,.vec 5 (u.blocks.map OBlk.row))]:=by
 rcases h.b with ⟨h1,h2,h3⟩|⟨y,h1,h2⟩
 ·have:=Jae.1 h2;rw[this]at h0;simp at h0
 ·exact⟨y,by rw[h1];simp,h2⟩
theorem OBlk.ivec {u:OBlk}(h:u.ok)(h0:0<u.ins.length):∃y,u.ic=.ah y 4 0 u.ins.length/\u.il=[(y,.vec 4 (u.ins.map OIns.row))]:=by
 rcases h.i with ⟨h1,h2,h3⟩|⟨y,h1,h2⟩
 ·have:=Jae.1 h2;rw[this]at h0;simp at h0
 ·exact⟨y,by rw[h1];simp,h2⟩
variable {H0 H H2:Heap}{E X cl:Ul}
theorem Qbk8 {us:List OCode}{ci bi yb:Nat}{u:OCode}{b:OBlk}(kn:Kn H0 H E (X++us.flatMap OCode.lg++cl))(hc:ci<us.length)(hu:us[ci]=u)(hb:bi<u.blocks.length)(hub:u.blocks[bi]=b)
  (bu:u.bl=[(yb,.vec 5 (u.blocks.map OBlk.row))]):Kn H0 H E ([(yb,.vec 5 (u.blocks.map OBlk.row))]++(b.lg++(CM us ci bi hc++(X++cl)))):=by
 subst hu;subst hub;refine kn.perm (Qj λf hf h0 bH hp=>?_);have h1:=hp _ _ (Y6 us ci bi hc hb);rw[bu]at h1;simp only[Ui,hf]at h1⊢;omega
theorem Qbpo {us:List OCode}{ci bi yb:Nat}{u:OCode}{b':OBlk}{cc:C}(hc:ci<us.length)(hu:us[ci]=u)(hb:bi<u.blocks.length)
  (bu:u.bl=[(yb,.vec 5 (u.blocks.map OBlk.row))]) {N:Nat} (ax:∀u∈us,u.ok/\u.sm N) (qI:b'.ok) (wZ:b'.sm (N+1)) (hg:Gr cl 3 (us.map OCode.row) cc)
  (kn:Kn H0 H E ([(yb,.vec 5 ((u.blocks.set bi b').map OBlk.row))]++(b'.lg++(CM us ci bi hc++(X++cl))))) :
  ∃us':List OCode,us'.length=us.length/\Gr cl 3 (us'.map OCode.row) cc/\(∀u∈us',u.ok/\u.sm (N+1))/\Kn H0 H E (X++us'.flatMap OCode.lg++cl):=by
 obtain⟨h1,h2⟩:=ax _ (Jal hc);rw[hu]at h1 h2;refine⟨us.set ci (u.put bi b' [(yb,.vec 5 ((u.blocks.set bi b').map OBlk.row))]),ZD,?_,λv hv=>?_,kn.perm (Qj λf hf h0 bH hp=>?_)⟩
 ·rw[Qb2y us ci hc _ (by rw[hu];rfl)];exact hg
 ·rcases Jo hv with hv|rfl
  ·exact⟨(ax v hv).1,(ax v hv).2.mono ZB⟩
  ·exact⟨OCode.put_ok h1 qI bu,OCode.put_sm h2 wZ⟩
 ·subst hu;have h1:=hp _ _ (Qb2x us ci bi hc hb b' [(yb,.vec 5 ((us[ci].blocks.set bi b').map OBlk.row))]);simp only[Ui,hf]at h1⊢;omega
theorem FY {l:List OBlk}{bi:Nat}{b:OBlk}(hb:bi<l.length)(h:b.row=(l[bi]).row):(l.set bi b).map OBlk.row=l.map OBlk.row:=by
 rw[J9,h];refine Jak ZD λi h1 h2=>?_;rw[Jab];split
 ·rename_i h;subst h;simp
 ·rfl
variable {b b':OBlk}{R:Ul}{p:Nat×Obj}
theorem HD {yi:Nat}(kn:Kn H0 H E ([p]++(b.lg++R)))(cM:b.il=[(yi,.vec 4 (b.ins.map OIns.row))]) :
  Kn H0 H E ([(yi,.vec 4 (b.ins.map OIns.row))]++([p]++(b.nx.lg++(b.ab.flatMap OPhi.lg++(b.pl++(b.ins.flatMap OIns.lg++R)))))):=by
 refine kn.perm (Qj λf hf h0 bH hp=>?_);simp only[Ui,OBlk.lg,cM,hf];omega
theorem K3 {yi:Nat}{is:List OIns}(kn:Kn H0 H E ([(yi,.vec 4 (is.map OIns.row))]++([p]++(b.nx.lg++(b.ab.flatMap OPhi.lg++(b.pl++(b.ins.flatMap OIns.lg++R)))))))
  (hl:(is.flatMap OIns.lg).Perm (b.ins.flatMap OIns.lg)):Kn H0 H E ([p]++(OBlk.lg { b with ins:=is,il:=[(yi,.vec 4 (is.map OIns.row))] }++R)):=by
 refine kn.perm (Qj λf hf h0 bH hp=>?_);have:=hp _ _ hl;simp only[Ui,OBlk.lg,hf];omega
theorem Q71 {l:List OIns}{i:Nat}{x':OIns}(hi:i<l.length)(h:x'.lg=(l[i]).lg):((l.set i x').flatMap OIns.lg).Perm (l.flatMap OIns.lg):=by
 refine (Fj OIns.lg l i x' hi).trans ?_;rw[h];exact (Fc OIns.lg l i hi).symm
theorem OBlk.ins_ok {yi:Nat}{i:Nat}{x':OIns}(h:b.ok)(iN:b.ic=.ah yi 4 0 b.ins.length):OBlk.ok { b with ins:=b.ins.set i x',il:=[(yi,.vec 4 ((b.ins.set i x').map OIns.row))] }:=
 ⟨h.p,.inr ⟨yi,by show b.ic=_;rw[iN];simp,rfl⟩,h.a⟩
theorem OBlk.ins_sm {yi:Nat}{i:Nat}{x':OIns}{N:Nat}(h:b.sm N)(hx:x'.a.ns.length<=N+1):OBlk.sm { b with ins:=b.ins.set i x',il:=[(yi,.vec 4 ((b.ins.set i x').map OIns.row))] } (N+1):=by
 refine⟨h.n,by simpa using h.i,by have:=h.p;show b.ab.length<=_;omega,λx aI=>?_,λp hp=>by have:=h.pa p hp;omega⟩;rcases Jo aI with aI|rfl
 ·have:=h.ia x aI;omega
 ·exact hx
end Go.AE.Y
namespace Go.AE.Y
abbrev Qabi:Nat:=3
abbrev VE:Nat:=7
abbrev Vx:Nat:=8
abbrev Vp:Nat:=9
abbrev SN:Nat:=10
abbrev V1:Nat:=11
abbrev Vf:Nat:=12
abbrev Vw:Nat:=13
abbrev Nc:Nat:=24
abbrev TW:Nat:=25
abbrev Vr:Nat:=26
abbrev IS:Nat:=27
abbrev Q1w:Nat:=28
abbrev Q1o:Nat:=29
abbrev Qnd:Nat:=30
abbrev Q1i:Nat:=31
abbrev Qj8:Nat:=32
abbrev Q7r:Nat:=33
abbrev Q7l:Nat:=34
abbrev Qqf:Nat:=35
abbrev Qw5:Nat:=41
abbrev Q1n:Nat:=42
abbrev Na:Nat:=43
abbrev TV:Nat:=44
abbrev Nh:Nat:=45
abbrev Nw:Nat:=46
abbrev Qd0:Nat:=47
abbrev Vv:Nat:=48
abbrev Q1m:Nat:=49
abbrev TX:Nat:=50
abbrev Qj9:Nat:=51
abbrev Vo:Nat:=52
abbrev Sk:Nat:=53
abbrev Qw9:Nat:=54
abbrev OU:Nat:=55
abbrev OT:Nat:=56
abbrev Ew:Nat:=57
abbrev Qqj:Nat:=58
abbrev Q7q:Nat:=59
abbrev V7:Nat:=60
abbrev Qqg:Nat:=61
abbrev Qd1:Nat:=62
abbrev Qqh:Nat:=63
abbrev Pl:Nat:=64
abbrev Qqi:Nat:=65
abbrev Q7n:Nat:=67
abbrev Nz:Nat:=68
abbrev Q7p:Nat:=69
abbrev Q1j:Nat:=73
abbrev Q7k:Nat:=74
abbrev Qne:Nat:=75
abbrev Qin:Nat:=76
abbrev Ng:Nat:=77
abbrev RN:Nat:=78
abbrev Nm:Nat:=79
abbrev Y7:Nat:=80
abbrev Mp:Nat:=81
abbrev Qxc:Nat:=82
abbrev Q7o:Nat:=83
abbrev Qqd:Nat:=84
abbrev K9:Nat:=85
abbrev MW:Nat:=86
abbrev Sl:Nat:=87
abbrev Nu:Nat:=88
abbrev Tv:Nat:=89
abbrev fn_l10Split:Nat:=90
abbrev fn_l12Drop:Nat:=91
abbrev Q7u:Nat:=92
abbrev fn_l15Put:Nat:=93
abbrev fn_l16Share:Nat:=94
abbrev fn_l17Hoist:Nat:=95
abbrev fn_l18Even:Nat:=96
abbrev Nb:Nat:=97
abbrev fn_l18Join:Nat:=98
abbrev fn_l18Clean:Nat:=99
abbrev RO:Nat:=100
abbrev Qqn:Nat:=101
abbrev Qhc:Nat:=102
abbrev SL:Nat:=103
abbrev Pd:Nat:=104
abbrev Qw4:Nat:=105
abbrev Ny:Nat:=106
abbrev Q7m:Nat:=107
abbrev Q1l:Nat:=108
abbrev Q5c:Nat:=109
abbrev Q11:Nat:=110
abbrev Qf1:Nat:=111
abbrev SP:Nat:=112
abbrev V0:Nat:=117
abbrev Qqe:Nat:=118
abbrev OS:Nat:=119
abbrev Qf0:Nat:=120
abbrev SV:Nat:=121
abbrev Qha:Nat:=122
abbrev Qio:Nat:=123
abbrev Qnf:Nat:=124
abbrev Q1v:Nat:=125
abbrev RB:Nat:=126
abbrev Q7v:Nat:=127
abbrev R9:Nat:=128
abbrev RP:Nat:=129
abbrev VB:Nat:=130
abbrev Ka:Nat:=131
abbrev VC:Nat:=132
abbrev Kb:Nat:=133
abbrev Q1k:Nat:=134
abbrev TG:Nat:=135
abbrev Lx:Nat:=136
abbrev Q5b:Nat:=137
abbrev RL:Nat:=138
abbrev Qqo:Nat:=139
abbrev Pc:Nat:=140
abbrev Qw8:Nat:=141
abbrev L4:Nat:=142
abbrev Pb:Nat:=143
abbrev To:Nat:=144
abbrev Nf:Nat:=147
abbrev OZ:Nat:=148
abbrev Pa:Nat:=149
abbrev Nl:Nat:=150
abbrev V6:Nat:=151
abbrev MX:Nat:=153
abbrev MV:Nat:=155
abbrev OY:Nat:=161
abbrev Qf2:Nat:=164
abbrev Qba8:Nat:=165
abbrev Qb9:Nat:=166
abbrev Qim:Nat:=167
abbrev Tw:Nat:=168
abbrev Nx:Nat:=169
abbrev RM:Nat:=170
abbrev K5:Nat:=171
abbrev Tu:Nat:=172
abbrev Qip:Nat:=173
abbrev Qdd:Nat:=174
abbrev Qabh:Nat:=175
abbrev Qzo:Nat:=176
abbrev SO:Nat:=177
abbrev HR:Nat:=178
abbrev Nv:Nat:=179
abbrev Q7s:Nat:=180
abbrev Ni:Nat:=181
abbrev Q7t:Nat:=183
abbrev Nd:Nat:=184
abbrev OW:Nat:=185
abbrev Qql:Nat:=186
abbrev Qkb:Nat:=187
abbrev Nk:Nat:=188
abbrev Qcl:Nat:=194
abbrev fn_sl_heapSortOrdered:Nat:=195
abbrev fn_sl_breakPatternsOrdered:Nat:=196
abbrev fn_sl_choosePivotOrdered:Nat:=197
abbrev fn_sl_reverseRangeOrdered:Nat:=198
abbrev fn_sl_partialInsertionSortOrdered:Nat:=199
abbrev fn_cmp_Less:Nat:=200
abbrev fn_sl_partitionEqualOrdered:Nat:=201
abbrev fn_sl_partitionOrdered:Nat:=202
abbrev SM:Nat:=205
abbrev RK:Nat:=206
abbrev K7:Nat:=207
abbrev RA:Nat:=208
abbrev Vd:Nat:=209
abbrev Qxb:Nat:=210
abbrev Q7x:Nat:=211
abbrev Qxa:Nat:=212
abbrev Q1y:Nat:=213
abbrev Qw7:Nat:=214
abbrev Q1r:Nat:=215
abbrev K8:Nat:=216
abbrev Ly:Nat:=217
abbrev Qe9:Nat:=218
abbrev Nj:Nat:=219
abbrev Q70:Nat:=221
abbrev Qw6:Nat:=222
abbrev Q10:Nat:=236
abbrev Q1t:Nat:=237
abbrev RT:Nat:=238
abbrev Q7z:Nat:=239
abbrev MY:Nat:=240
abbrev MZ:Nat:=241
abbrev Q1z:Nat:=246
abbrev Q1x:Nat:=247
abbrev Q7y:Nat:=248
abbrev OX:Nat:=249
abbrev Q7w:Nat:=250
abbrev Q1q:Nat:=251
abbrev Q1s:Nat:=252
abbrev RQ:Nat:=253
abbrev L3:Nat:=254
abbrev Lz:Nat:=255
abbrev HS:Nat:=256
abbrev TF:Nat:=258
abbrev Q5d:Nat:=259
abbrev Ve:Nat:=260
abbrev Q49:Nat:=261
abbrev Vc:Nat:=262
abbrev HT:Nat:=263
abbrev Vq:Nat:=264
abbrev Q5a:Nat:=265
abbrev Tp:Nat:=266
abbrev Sj:Nat:=267
abbrev HU:Nat:=268
open Go.Proofs.Tryz
def Tb:=dY 0xf024051
def Ta:=dY 0x78281e001
def Qbcs:=dZ 0x87211014ed500621053 .skip Ta
def SZ:=dY 0x98281e001
def Qbct:=dZ 0x7211014fd700821 .skip SZ
def Qbcu:=dZ 0x1909210310c6f022cd2003212 Qbcs Tb Qbct
def Qbs7:=dZ 0x9102037132f0211 Qbcu
abbrev BQ:List RS:=[.cell 2 1 true]
theorem Qbrh:mFn prog Nw 1 10 Qbs7 BQ=true:=ZF
def Qaqz:=dZ 0x874100f00411183
def Qaq0:=dW 0x87410ea0049f01a418008f010113580010020708025b1243 [] [] [fI 44 (.cvt .i64 (.t 43))]
def Qaq1:=dZ 0x74102e0049f01a41806806041
def Qaq2:=dZ 0x94120fd0069f02d4406f0946806805c51 Qaq1
def Qaq3:=dW 0x94120bd0069f02d04356f084059405010020708058002041d6f0845800db04045d9f08418f0101c1305a4050100207080036f004076f0845800100207080836f08408f01071305a405010020708058001002070802f2ef2ef2ef2 [Qaq2] [] [fI 60 (.cvt .i64 (.t 59)),fI 77 (.cvt .i64 (.t 76))]
def Qaq4:=dZ 0x190924f3004005440501002070805801e712 Qaq0 [] Qaq3
def Qaq5:=dZ 0x930030d90059f1f01401012070801961 Qaq4
def Qaq6:=dZ 0x190918f003003f6a0f022240f02250f02210f002220f02270f082200f001f0441800fa12 Qaqz [] Qaq5
def Qaq7:=dZ 0x90020201e012571f004010120770600791 Qaq6
def Qa8a:=dZ 0x900200f00411 Qaq7
abbrev BG:List RS:=[.tmp 4]
theorem Qa15:mFn prog TV 2 99 Qa8a BG=true:=ZF
def EL:=dY 0x98381e001
def FP:=dY 83503542321 EL
def O4:=dY 4319989905 FP
def O3:=dY 0x190049f053360b14f113
def O1:=dY 0xd90059f0753491514f1d3
def O0:=dY 0x9a0061
def Oz:=dY 0x201e02227313
def Qbn3:=dZ 0x80220101e0f11368001042075803b703a3
def Qbn4:=dZ 0x80220201e0120f14368001012075804f804e3
def Oy:=dY 0x201e0220f1e430e6114f6c4
def Qbga:=dZ 0x8022102122f011c680010220f043010120758001012075805ee100f0e030d0c0b0a090807060504030201001211a5d3 .skip Oy
def PC:=dY 0x201e002705f77a3
def PB:=dY 0x201e01277020438214f855
def PA:=dY 0x201e0320f34349314f974
def Qbgb:=dZ 0x802210127fd1f7f01009f31c080010120758090709080703060504030201000b0aa8f3 .skip PA
def Qbgc:=dZ 0x8098ff1010500f0640501012075808a61883 Qbgb
def Qbgd:=dZ 0x988f101050895f0889f076fba2489210221026f022cd08001002074804807e70a09080704060504030201000c0ba7c3 Qbgc PB
def Qbge:=dZ 0x97cf2bf00010707d5f07c9f066fba247d21022104222f012c0110f1021702d1f011c680010020758058070a06e3 Qbgd PC
def Qbgf:=dZ 0x196ef2bf00001080fe06e9f056fba246f21095df0102500f0640501012075805861563 Qbga [] Qbge
def Qbgg:=dZ 0x1956f2bf000010807d0569f046fba245721094ef0102500f0640501012075804961473 Qbn4 [] Qbgf
def Qbgh:=dZ 0x947f2bf000010808c0479f036fba2448210220201e032176805804350413 Qbgg
def Qbgi:=dZ 0x1941f2bf000010802c0419f026fba244221093af0102500f0640501042075803561333 Qbn3 [] Qbgh
def Qbgj:=dZ 0x972bf000010804b0339f1fba2434210221056f022cd0805802e302c3 Qbgi Oz
def Qbgk:=dZ 0x902bf00001080da02c9f0f1242d21004 Qbgj
def Qbgl:=dZ 0x72100281e38169921
def Qbgm:=dZ 0x19092bf00001070206f022cd0802a212 Qbgk [] Qbgl
def Qbgn:=dZ 0x9000010610e927fd1f0f057f51c05010220748001012074800801ecd0df2 Qbgm O0
def Qbgo:=dZ 0x900010510522cd050102207480080010220748012b0c0b030a090807060504030201000e0da2 Qbgn O1
def Qbgp:=dZ 0x90010410322cd05013802080016020a7080701060504030201000a09a2 Qbgo O3
def Qbgq:=dZ 0x901031017ed600721 Qbgp O4
def Xp:=dZ 0x9102037132f0211 Qbgq
theorem Ym:mFn prog RN 1 154 Xp BQ=true:=ZF
def Q8y:=dY 0xf024061
def Q81:=dY 4320186513 FP
def Qbdb:=dZ 0x872100281e38160c210b3
def Qbdc:=dZ 0x97010400134d6160a21 Qbdb
def Qbdd:=dZ 0x809010310181d600721063 Qbdc Q81
def Q82:=dY 0xe8281e001
def OM:=dZ 0x7211017ed0800d21 .skip Q82
def Qbde:=dZ 0x190931031026f022cd3004212 Qbdd Q8y OM
def Qbtd:=dZ 0x9102037132f0211 Qbde
theorem Qbrl:mFn prog Nm 1 15 Qbtd BQ=true:=ZF
def T4:=dY 0xb80049f0104130a3
def M4:=dZ 0x74110222cd055050300551 .skip T4
def Qbfe:=dZ 0x900200f00411 M4
theorem Qbbw:mFn prog Q7v 2 12 Qbfe BG=true:=ZF
def Sn:=dY 0x58381e001
def Qun:=dY 0x101e3802172
def Quo:=dY 0x107322f013c70e14f153 Qun
def N4:=dZ 0x140c80049f1f004600b30
def Qare:=dZ 0x90001410190d03601334800118020138020d80b0a09080107060504030201000d0ca0142 N4 Quo
def Qaki:=dZ 0x900680a35000150034405015021006512 Qare
def Qarf:=dZ 0x72100281e38161821
def Qarg:=dZ 0x190950040001400f004112 Qaki [] Qarf
def Qarh:=dZ 0x90013137132f039f0371d1f0521 Qarg Sn
def Qa82:=dZ 0x9012037132f090121 Qarh
theorem Qa2a:mFn prog Q1v 1 25 Qa82 BQ=true:=ZF
def Of:=dY 0xc80041
def Oe:=dY 0x101e3802182
def Od:=dY 0x104322f013c41214f163 Oe
def Qbop:=dZ 0x1040090049f1f0144800f30
def Qboq:=dZ 0x9001041012aad3816080013802115080706050104030201000a09a0142 Qbop Od
def Qbh7:=dZ 0x900680e390010500f0644800d212 Qboq
def Oc:=dY 0xb90051
def NK:=dY 0x7a0069f053362114f273
def NJ:=dY 0xea0071
def PN:=dY 0x5b882e001
def Pv:=dY 0x1170232f089f01011702d1f352 PN
def Pu:=dY 0xf0053b2
def Pt:=dY 0x101e8812482
def Ps:=dY 0x107122f011c73f14f463 Pt
def Qbhu:=dZ 0x3bf0001010909c03c9f1fcb044920
def Qbhv:=dZ 0x903bf0001010910422cd01012076800800188123e80b0a09080107060504030201000d0ca0542 Qbhu Ps
def Qa9e:=dZ 0x9043db003bf0001010a010443d11 Qbhv
def Pr:=dY 0x201e0020dfc53ec4f14f5c4
def Qbhw:=dZ 0x810104102222f012c8826010020153780010220768078001022076804c10f121110030f0e0d0c0b0a090807060504030201001413a4b3 .skip Pr
def Qbhx:=dZ 0x94bf0001010800f0647804a21 Qbhw
def Qbhy:=dZ 0x1909504403bf00010109101289d7800360768036512 Qa9e Pu Qbhx
def Qbhz:=dZ 0x90001010710422cd01012076800802f61 Qbhy Pv
def Qbh0:=dZ 0x9001010610522cd0501022076800802871 Qbhz NJ
def Qbh1:=dZ 0x101040f90059f1f0145801e30
def Qbh2:=dZ 0x190901010510322cd05013802080013802207080701060504030201000a09a20342 Qbh0 NK Qbh1
def Qa9f:=dZ 0x902681d31df1010500f0645801c212 Qbh2
def Qbh3:=dZ 0x72100281e38165e21
def Qbh4:=dZ 0x190950241010410127fd036f1f0f0f41c08019312 Qa9f Oc Qbh3
def Qbh5:=dZ 0x190950040010410127fd036f1f026f1f41c0800a312 Qbh7 Of Qbh4
def Qbh6:=dZ 0x90103137132f039f0371d1f0921 Qbh5 EL
def XQ:=dZ 0x9102037132f0211 Qbh6
theorem Yh:mFn prog RB 1 95 XQ BQ=true:=ZF
def Qlw:=dY 32945
def Qaec:=dZ 0x872102f002110b3
def Qlx:=dY 0x79583e001
def SR:=dY 0x3f5a04880f292
def V3:=dY 0x1a06f1f03554803f04850f04810f5824820f0003f6a03880f227 SR
def Qly:=dY 0x1012c9f023553803f03810f5803820f03810f5813820f00081b7 V3
def s_sp_UnitValid_6:=dZ 0x872102f002112a3
def V2:=dY 0x3f5a08a80f4a2
def Qo6:=dZ 0x872102f002114b3
def Qaed:=dZ 0x94bf00011610123568a03f688a00f488a00f1818a60f0003209f0643804371 Qo6 V2
def Qlu:=dZ 0x11501b0069f1f0046803030
def Q66:=dZ 0x190900011502c0039f0704050100201536800158220704050101201536800158223803212f12f12f20342 Qaed [] Qlu
def Q4t:=dZ 0x902682f32ff00011600344050158226802b512 Q66
def Qlv:=dZ 0x9502400011500f00611 Q4t
def Q67:=dZ 0x19092af001151036f0f0355d01580218312 s_sp_UnitValid_6 Qly Qlv
def SD:=dZ 0x1130290049f1f0044801130
def Q68:=dZ 0x19090011415700332f059f036013348001180213610142 Q67 Qlx SD
def Q4u:=dZ 0x90068103b01140034405011802700c512 Q68
def V4:=dZ 0x72103f00211
def Q69:=dZ 0x19095004011300f004112 Q4u [] V4
def Q7a:=dZ 0x911200f00311 Q69
def Q7b:=dZ 0x19099121046f1f0355d050150207412 Qaec Qlw Q7a
def Qasv:=dZ 0x91102f0090121 Q7b
abbrev BH:List RS:=[.tmp 2]
theorem Qanv:mFn prog Vo 1 76 Qasv BH=true:=ZF
def NB:=dY 0x101e3802142
def N9:=dY 0x104322f013c40e14f123 NB
def Qbox:=dZ 0x9000141012abd48018160138020d5080706050104030201000a09a0142 N4 N9
def Qbic:=dZ 0x900680a35000150034405015021006512 Qbox
def KA:=dZ 0x72100281e38161521
def Qboz:=dZ 0x190950040001400f004112 Qbic [] KA
def Qbo0:=dZ 0x90013137132f039f0371d1f0521 Qboz Sn
def Xe:=dZ 0x9012037132f090121 Qbo0
theorem Yf:mFn prog R9 1 22 Xe BQ=true:=ZF
def Ov:=dY 0xd80031
def Ou:=dY 0x1052f014310200173735d1f0c2 Ov
def FN:=dY 589889
def Ot:=dY 0xa583ec91d14fb96911c34fa91b54f991a14f005
def Oq:=dY 0x157171332f051 Ot
def Oo:=dY 0x102593acd31d14f46911c34f51b54f61a14f205 Oq
def On:=dY 0x201e01277293
def Qbnk:=dZ 0x104102322f013c58360101207380380218b0bf .skip On
def Qbnl:=dZ 0x1040490049f1f0144801330
def Qbnm:=dW 0x19090001051036f022cd08001051305010120738008f38015b0d080706050c0b080706050a09080706050403020100160ca20142 [Qbnk,Qbnl] [Oo] [fI 22 (.kQ 1 [.k (.c (.str [102])),.k (.c (.str [103])),.k (.c (.str [104]))])]
def Qa8k:=dZ 0x90068123d0010500f06448011212 Qbnm
def PL:=dY 0xfa683e001
def PK:=dY 0x157171332f061 PL
def PJ:=dY 17363697 PK [eI 47 (.call Tu [.t 43,.k (.c (.str [109])),.t 46])]
def PI:=dY 0x9b781e6833664f3b3414f003
def PH:=dY 0x137132f079f0101371d1f392 PI
def PG:=dY 0x102322f6833664f382 PH
def PF:=dY 33729
def Qbfl:=dW 0x872100281e0101371d1f013c08f015c012036f102575747105d1f014c1f111f102471004d1f3d813c3 [] [] [fI 65 (.bld [.str [],.sl true 1 [],.sl true 5 []] [(0,1,.k (.c (.str [109]))),(2,1,.t 64)])]
def Qbfm:=dZ 0x72100281e78164421
def Qbfn:=dZ 0x19093cf423101add78163a20d222 Qbfl PF Qbfm
def Qbfo:=dZ 0x9422104322f359f013c6836369f010120738003c3080b06040a09080605070604030201000f0aa2 Qbfn PG
def Qbfp:=dZ 0x9202310127fd1f026f1f0f41c0803802b41 Qbfo PJ
def Qbfq:=dZ 0x190950040010410127fd026f1f1f0f41c0800e312 Qa8k FN Qbfp
def Qbfr:=dZ 0x9010310127fd1a6f086f146f0e6f41c080700841 Qbfq Ou
def Xu:=dZ 0x9102037132f0211 Qbfr
theorem Yq:mFn prog RP 1 69 Xu BQ=true:=ZF
def EK:=dY 0x98383e001
def NU:=dY 0x101e38221b2
def NT:=dY 0x107522f015c71214f193 NU
def Qbn7:=dZ 0x140090049f1f0044800f30
def Qbn8:=dZ 0x9000141018dd05601534800118220138221180b0a09080107060504030201000d0ca0142 Qbn7 NT
def Qbhd:=dZ 0x900680e39000150034405011822500a512 Qbn8
def Qbn9:=dZ 0x72100283e38361c21
def Qboa:=dZ 0x190950040001400f004112 Qbhd [] Qbn9
def Qbob:=dZ 0x9001315700332f039f011210257003d1f01512013020561 Qboa EK
def XV:=dZ 0x901205700332f090121 Qbob
abbrev Ce:List RS:=[.cell 2 3 true]
theorem Yk:mFn prog To 1 29 XV Ce=true:=ZF
def PT:=dY 0x9a0051
def Qbhf:=dZ 0x802602014102122f011c6805802641253 .skip PT
def Qbhg:=dZ 0x20150a90079f1f0047801930
def Qbhh:=dZ 0x190925f002016001241800101137800104201536800128221bb10342 Qbhf [] Qbhg
def Qa88:=dZ 0x9026818318f002016007440501042015368001282278010912 Qbhh
def NR:=dZ 0x20140f80069f1f004700e30
def Qbhi:=dZ 0x1909502400201500f007110142 Qa88 [] NR
def Qa89:=dZ 0x900680d36020150034405017222009512 Qbhi
def NQ:=dZ 0x7410aa0049f5802a21
def Qbhj:=dZ 0x190950040201400f006112 Qa89 [] NQ
def Qa87:=dZ 0x920130880059f01c0821 Qbhj
def Qbuf:=dZ 0x9012014f0049f190221 Qa87
theorem Qbr5:mFn prog Q5b 2 43 Qbuf BG=true:=ZF
def FO:=dY 0xd8583e001
def Ow:=dY 0x15700332f059f010157003d1f0d2 FO
def Ob:=dY 0x101e5812020440f14f134
def Oa:=dY 7929953
def NZ:=dY 0xd9885e001
def NY:=dY 655505
def NW:=dY 0x101e88122e2
def NV:=dY 0x106422f014c62614f2c3 NW
def Qbn5:=dZ 0x20804a0099f1f0149802330
def Qbn6:=dZ 0x900000020810233ced01581238160800188122570a09080701060504030201000c0ba0342 Qbn5 NV
def Qa80:=dZ 0x9026822322f00000020900f06498021212 Qbn6
def P1:=dY 0x101e8832332
def P0:=dY 0x101e8822372
def Sy:=dY 0x3faba2f0374a0f0f067f40f423
def Ox:=dZ 0x8000002070036f01e88224520443
def Py:=dY 0x101e8842011c4f3
def Qbgw:=dZ 0x20710123cfd6807800804b40 .skip Py
def Px:=dY 0x101e88420421c5b3
def Pw:=dY 0x10123cfd680780080574 Px
def Qbgx:=dZ 0x80000020710123cfd6807800805340513 .skip Pw
def Qbgy:=dZ 0x1951f0000020802d0519f026f7c245221090000020700f01e88324a21483 Qbgw [] Qbgx
def Qbgz:=dZ 0x9047f0000020909c0489f1f1244921044 Qbgy
def PW:=dY 0x101e5822622
def Qbg0:=dZ 0x206102522f015c88560158225d50 .skip PW
def Qbg1:=dZ 0x190947f00000208001882246212 Qbgz [] Qbg0
def Qbg2:=dZ 0x190944f000002081036f022c7f03f087f00f07400f0227440f1f017440f687400f787400f001f02468038a12 Ox Sy Qbg1
def Qbg3:=dZ 0x90000020710127fd036f1f026f1f026f51c0803431 Qbg2 P0
def Qbg4:=dZ 0x90000020710222cd0158120802f41 Qbg3 P1
def Qbg5:=dZ 0x1909502400000020810127fd046f036f0f026f1f51c0801e312 Qa80 NY Qbg4
def Qbg6:=dZ 0x2060c90079f1f0047801b30
def Qbg7:=dZ 0x190900000207117004727532f089f0170047275d1f1d210142 Qbg5 NZ Qbg6
def Qa81:=dZ 0x900681a31af00002070014468078018312 Qbg7
def Qbg8:=dZ 0x74100483e58366321
def Qbg9:=dZ 0x19095004000020600f007112 Qa81 [] Qbg8
def Qbha:=dZ 0x900020510127fd046f076f1f026f056f036f61c0801531 Qbg9 Oa
def Qbhb:=dZ 0x9002041056f022cd080026f0040158020e50706050104030201000908a2 Qbha Ob
def Qbhc:=dZ 0x90020410127fd036f026f0f1f41c0800a31 Qbhb Ow
def XW:=dZ 0x9020305700332f190321 Qbhc
abbrev C8:List RS:=[.cell 4 3 true]
theorem Yl:mFn prog RM 2 100 XW C8=true:=ZF
def X8:=dZ 0x7610e80069f2f03a0151540f281500f081500f00017460600791
def Qb5l:=dZ 0x9000302f00611 X8
abbrev BN:List RS:=[.tmp 6]
theorem Qb45:mFn prog K9 3 15 Qb5l BN=true:=ZF
def P4:=dY 0x29783e001
def P3:=dY 0x79885e001
def Qbgr:=dZ 0x876102f006111e3
def Qbgs:=dZ 0x76102f00611003001600f00910213
def Qbgt:=dZ 0x921f03001602a0219f036f9924222100300160026f009101f3 Qbgs
def Qbgu:=dZ 0x19519f03001700a01f9f026f6242021091ef003001700f0340188321c311a3 Qbgr [] Qbgt
def Qbgv:=dZ 0x9019f00300180b901a9f1f1241b21004 Qbgu
def S4:=dY 0x3f8aa2f0750a0f05980f333
def s_l7Block_8:=dZ 0x876102f00611353
def P2:=dY 33905
def Qa8m:=dZ 0x876102f00611473
def Qa8n:=dZ 0x10300160cb00a9f1f004a803b30
def Qa8o:=dZ 0x190947f1030017101f4355d1f01405017822010113a800188423dab0bf20242 Qa8m P2 Qa8n
def Qazg:=dZ 0x901683a33af10300170034405018842a8036512 Qa8o
def Q4l:=dY 34161
def Qa8p:=dZ 0x876102f00611573
def Qa8q:=dZ 0x20300160ec00b9f1f004b804d30
def Qa8r:=dZ 0x190957f20300171056388d0460143b8001881218038164f8909f20442 Qa8p Q4l Qa8q
def Qazh:=dZ 0x903684c34cf20300170034405018812b8048512 Qa8r
def Q4m:=dY 0xad00c1
def S5:=dY 0x3f7b5fa0f680f862
def TS:=dY 0x100f3355f603f1f01f640f0f610f781f620f0f610f00f620f012f630fd8f600f0f610f880f620f0003f705fa0e080f79d S5
def P9:=dZ 0x876102f00611873
def P8:=dZ 0x3042501e00d9f1f004d806030
def Qa8s:=dZ 0x190987f03042610628ae003f0e010f01e020f012e030fd8e000f0e010f880e020f783e060f0003f4ea023c840f0c850fc8c800f0c850f0c810f01c820f012c830fd8c800f0c810f880c820f000f0242806217f26f26f20642 P9 TS P8
def Qazi:=dZ 0x905685f35ff0304260034405018802d805b512 Qa8s
def P7:=dZ 0x76103f00611
def Qa8t:=dZ 0x1909505403042500f00d112 Qazi [] P7
def Qa8u:=dZ 0x930424101289d28078365831 Qa8t Q4m
def Qa8v:=dZ 0x19095034203001600f00b112 Qazh [] Qa8u
def P6:=dZ 0x19095014103001600f00a112 Qazg [] Qa8v
def P5:=dZ 0x190935f030016100f33555903f1f015940f05910f7815920f05910f8835920f05000f1f035040f05010f8825020f000134980050188422310f12 s_l7Block_8 S4 P6
def Qa8w:=dZ 0x190919f0030017001882218212 Qbgv [] P5
def Qa8x:=dZ 0x9003001601f00911 Qa8w
def Qa8y:=dZ 0x9030015117004727532f089f05601532800178221361 Qa8x P3
def Qa8z:=dZ 0x93001415700332f079f03601331800138020e61 Qa8y P4
def Qbuc:=dZ 0x9001302f0069f290321 Qa8z
theorem Qbr3:mFn prog MW 3 136 Qbuc BN=true:=ZF
def Rf:=dY 3735649
def Re:=dY 0x301e01201277030441e54f51d14f227
def Rd:=dY 0x201e052da73b3
def XO:=dZ 0x440ca0079f1f0047802b30
def XN:=dZ 0x900044101b322f013c0f1201111030013d1f78001011378001581201052076806802de11f11f0142 XO Rd
def Qbup:=dZ 0x900682a32af00045003440501581278026512 XN
def Gc:=dY 8126593
def Rc:=dY 0x100f11f35d3d01c462 Gc
def XM:=dZ 0x74100483e036012076804c51
def Qbug:=dZ 0x914200f01036f25d5d01c8806804841 XM
def Qbuh:=dZ 0x91143101d4d6806804331 Qbug Rc
def Qbui:=dZ 0x91420022d2d0158226803f41 Qbuh
def Qbuj:=dZ 0x90043001d1d6803d21 Qbui
def Qbuk:=dZ 0x190950040004400f007112 Qbup [] Qbuj
def Qbul:=dZ 0x90043101d0d015822050158126801b70b0a0908070302060504030201000e0ca2 Qbuk Re
def Qbum:=dZ 0x900430301e00201237050158126801481 Qbul
def Qbun:=dZ 0x900431052f01631021703705700378d1f0501581228160e61 Qbum Rf
def Qbuo:=dZ 0x90123157171332f059f0360133180016020961 Qbun FO
def Qb5o:=dZ 0x9101305700332f049f190221 Qbuo
theorem Qb48:mFn prog K5 2 80 Qb5o C8=true:=ZF
def Q4g:=dY 0xa9783e001
def Q4h:=dY 0x157171332f079f0116102571713d1f1a2 Q4g
def Q4i:=dY 0x101e78221d2
def TJ:=dY 0x2f06a0f064740f292
def Q4j:=dY 0x101e78223b2
def Q4k:=dY 0x105522f015c012076f102575747105d1f014c33414f375 Q4j
def Qa8g:=dZ 0x621026f02d7d08001782233409080706050401030201000b0aa .skip Q4k
def s_l3Gen_fn_7:=dZ 0x80905030201e042571f01401042070800802b912a3 Qa8g
def TB:=dZ 0x76100683e78363c21
def Qa8h:=dZ 0x19092af05041046f022c4703f04710f004720f04770f084700f000f06401042070801eb12 s_l3Gen_fn_7 TJ TB
def Qay8:=dZ 0x905031036f02d6d0801b21 Qa8h Q4i
def Qay9:=dZ 0x90503104122f010220708001c1801371 Qay8 Q4h
def Qaza:=dZ 0x940030201e032271f0142800800e61 Qay9
def Qazb:=dW 0x9300040201e0223718f7008f700871 [Qaza] [] [fI 9 (.kQ 1 [.k (.c (.str [97])),.k (.c (.str [98])),.k (.c (.str [99]))]),fI 11 (.sli 1 (.t 9) none (some (.t 10)))]
def Qbnj:=dZ 0x930004057171332f0611 Qazb
abbrev Sh:List RS:=[.cell 6 3 true]
theorem Qbl9:mFn prog Tu 3 61 Qbnj Sh=true:=ZF
def SA:=dY 32897
def Q04:=dZ 0x872102f00211083
def S9:=dY 33121
def Q05:=dZ 0x872102f00211163
def Q06:=dZ 0x1120f80039f1f0043800e30
def Q07:=dZ 0x190916f113101d8d036013338001180210610142 Q05 S9 Q06
def Qw2:=dZ 0x900680d3911300344050118025009512 Q07
def Qgm:=dY 0x990029f286f054192
def Q08:=dZ 0x721101d9d18161721 .skip Qgm
def Q09:=dZ 0x1909500411200f003112 Qw2 [] Q08
def Qw1:=dZ 0x19096121046f1f0355d050120204412 Q04 SA Q09
def Q63:=dZ 0x91102f0090121 Qw1
theorem Q5l:mFn prog Qip 1 26 Q63 BH=true:=ZF
def Qof:=dY 0x19385ee80f14fb80c14f980a14f004
def Qog:=dY 0x117004727532f039f014413612881178105170047275d1f50c14f70a14f114 Qof
def Qoh:=dY 0x101e38022c2
def Qoi:=dY 0x10a9222f012c0110a1021702d1ff92014fd9c921e34fb91c14f991a14f297 Qoh
def Qakg:=dZ 0x140890049f1f0044801730
def Qakh:=dZ 0x900014106122f01012012348001180201c0100201234800118020138021910f1413121110070503010f0e0d0c0b0a090807060504030201001915a0142 Qakg Qoi
def Qadg:=dZ 0x9006816316f00015003440501180248012512 Qakh
def Qoj:=dY 0x8b684e001
def Qok:=dY 0x101e3812482
def Qol:=dY 0x10ab422f014c013212611cb104017004d1f14414f73e14fbb3c14f9b3a14f457 Qok
def Qac9:=dZ 0x10014102122f429f016832439f01682201c01681201680201381239c100f0e0d0c0b050301090b0a0807060504030201001511a .skip Qol
def Qada:=dZ 0x1001403b0059f1f0045803230
def Qadb:=dZ 0x1909010015101700432f069f046014358001181234610342 Qac9 Qoj Qada
def Q6x:=dZ 0x9026831331f1001500344050118125802d512 Qadb
def Qadc:=dZ 0x72100285e38564921
def Qadd:=dZ 0x190950241001400f005112 Q6x [] Qadc
def Qade:=dZ 0x190950040001400f004112 Qadg [] Qadd
def Qadf:=dZ 0x90013102122f01184201c0118320172204c02c07a0c0805030b0a050309080706050403020100120ba2 Qade Qog
def Qazj:=dZ 0x9012017004727532f090121 Qadf
abbrev Tj:List RS:=[.cell 2 5 true]
theorem Qav0:mFn prog Qw8 1 74 Qazj Tj=true:=ZF
def NM:=dY 0xd80071
def NL:=dY 0x29884e001
def Oi:=dY 0x101700432f089f0113102017004d1f122 NL
def Dp:=dY 4784273
def Oh:=dY 0x684e0127f110d6f103017004d1f011c1e3
def Qbol:=dZ 0x876110122cd2800801b311a3 .skip Oh
def Og:=dY 0x101e8832252
def Qbom:=dZ 0x31060ca0099f0100202330188320148022680
def Qbon:=dZ 0x9001110610322cd050148020802051 Qbom Og
def Qboo:=dZ 0x819091af001110700f0240501480217412163 Qbol [] Qbon
def PS:=dY 0x101e8832322
def Qbhl:=dZ 0x8000310610127fdff6f106f0f6f036f026f1f0f71c0802f302e3 .skip PS
def PQ:=dY 33617
def Qbhm:=dZ 0x801310507f01e88123620353
def PP:=dY 0x101e8822432
def PO:=dY 0x104122f011c43d14f413 PP
def Qbhn:=dZ 0x131060bb00a9f1f004a803a30
def Qbho:=dZ 0x9001310610122cd2800800188223c5080706050104030201000a09a0142 Qbhn PO
def Qa9b:=dZ 0x9006839339f001310700144980a8037312 Qbho
def Qbhp:=dZ 0x76100684e88464421
def NP:=dZ 0x19095004001310600f00a112 Qa9b [] Qbhp
def NO:=dZ 0x190935f0131061019bd78033212 Qbhm PQ NP
def NN:=dZ 0x19092ef000310701f0247802d212 Qbhl [] NO
def Qbhq:=dZ 0x1909c0001110800e6f02478015212 Qboo [] NN
def Qbhr:=dZ 0x900011107101b2d7801321 Qbhq Dp
def Qbhs:=dZ 0x9001110610122cd280080600e41 Qbhr Oi
def Qbht:=dW 0x901110510127fd08f0800b31 [Qbhs] [NM] [fI 12 (.kQ 1 [kI 1,kI 1,kI 2,kI 3,kI 4,kI 5,kI 8,kI 9,kI 10,kI 13,kI 3,kI 6,kI 7,kI 11,kI 12,kI 14])]
def XS:=dZ 0x911104001700432f069f290421 Qbht
abbrev EY:List RS:=[.cell 6 4 true]
theorem Yi:mFn prog RK 3 69 XS EY=true:=ZF
def HN:=dY 0x2f03a0f061740f0e2
def Rh:=dY 0x890069f0604182
def s_l7To_2:=dZ 0x876110422cd01141801f0142800801f00418010810f3 .skip Rh
def Rg:=dY 0xd90069f01f041d2
def Lc:=dZ 0x76110222cd1f0142800801941 .skip Rg
def XR:=dZ 0x1909c00041046f022c1703f081700f0002441f014505007712 s_l7To_2 HN Lc
def Qb5n:=dZ 0x9000300f00611 XR
theorem Qb47:mFn prog K7 3 30 Qb5n BN=true:=ZF
def MC:=dY 0xc8783e001
def Q6y:=dY 0x3f5a02280f162
def MB:=dY 0x10228a2203f02210f5822220f7832260f0008106 Q6y
def s_l7Ins_3:=dZ 0x876102f00611173
def Q6z:=dY 0x3f2aa2f0344a0f7f034f40f04f10f5814f20f04400f04480f267
def MA:=dY 0x1019b4403f04410f5804420f000631f1f215 Q6z
def M9:=dY 0x100f3355d21e14f41c14f203 MA
def s_l7Ins_7:=dZ 0x876102f006112c3
def Sg:=dY 0x1c0069f2f05ba0726b40f06b10f006b20f0236b30f06b10f5836b20f06b10f3806b20f06b50f06b10f5826b20f0035e
def Qbud:=dZ 0x8761100f2355d1f01418001583230513f13f22f3 .skip Sg
def Q01:=dY 0x7d0069f2f0eca03f39da0f1f02a440f0a410f580a420f09d00f0f029d40f09d10f5839d20f002f03a4dc
def NS:=dY 0x1ff6f0f03559303f09310f5839320f00032444454f54314f487 Q01
def Qboc:=dZ 0x761101b2d01580205015822426161514131211100f0e0d0c0b0a0908070602010504030201001917a2 .skip NS
def ME:=dZ 0x19092ff111400e6f0240158022d312 Qbud [] Qboc
def MD:=dZ 0x19092cf11141019bd1a9f1f0140178120158121b9f01580218814131211100f0e0d0c0b0a0908060402070605040301001715a22 s_l7Ins_7 M9 ME
def Qbod:=dZ 0x190917f1111510e6f1f0355d017020d312 s_l7Ins_3 MB MD
def Qboe:=dZ 0x91111415700332f079f0360133180014020861 Qbod MC
def Qb3h:=dZ 0x9111302f029059f290331 Qboe
theorem Qb2q:mFn prog Lx 3 88 Qb3h BN=true:=ZF
def FM:=dY 33089
def Qbog:=dZ 0x874102f00411143
def Qboh:=dZ 0x20130b80059f1f004400a30
def Qboi:=dZ 0x1909e2014100f3355d1f014012812010113701800c8909f20142 Qbog FM Qboh
def Qbhk:=dZ 0x90068093320140024405500006412 Qboi
def CU:=dZ 0x74103f00411
def Qbok:=dZ 0x19095004201300f005112 Qbhk [] CU
def XT:=dZ 0x901202f0049f190221 Qbok
theorem Yj:mFn prog RL 2 21 XT BG=true:=ZF
def NI:=dY 0x1a0039f0604212
def NH:=dY 0x101d0d209f0604e91f14fc9b951d34f1a4 NI
def NG:=dY 0x101d0d199f0704e91f14fc9b951d34f791814f594951634f136 NH
def Qbor:=dZ 0x2030a80049f1f004400930
def Qbos:=dZ 0x9020310199d129f0104201534800801b9f010320153480080149f1f024010020153480080700b12f1716150f14120e0814120d0b0714131211100d0c0b0a09060504030201001e18a0142 Qbor NG
def Qbh8:=dZ 0x90068083302040024405500005412 Qbos
def Qbot:=dZ 0x72102a0029f3802221
def Qbou:=dZ 0x19095004020300f004112 Qbh8 [] Qbot
def Qbov:=dZ 0x920200f00311 Qbou
def XK:=dZ 0x90100f00211 Qbov
theorem Yg:mFn prog RA 1 35 XK BH=true:=ZF
def Qor:=dY 0x301e0220123870f4
def Qalf:=dZ 0x7210890029f1f0140501022012070801281
def Qalg:=dZ 0x901105522f015c0141112103170047275d1f01c04c02c0102201207302003c1 Qalf Qor
def Qazo:=dZ 0x90100f00211 Qalg
theorem Qav2:mFn prog Vd 1 25 Qazo BH=true:=ZF
def Qamf:=dZ 0x20040090059f1f0045800f30
def Qamg:=dZ 0x9020040042ecd056015358018008011600142 Qamf
def Qads:=dZ 0x900680e38020050024405180500b412 Qamg
def Qamh:=dW 0x201e0526708f480010520708008017a0 [] [] [fI 29 (.sli 3 (.t 27) none (some (.t 28)))]
def Qami:=dZ 0x190950040200400f005112 Qads [] Qamh
def Qazy:=dZ 0x920030a80049f050105207500661 Qami
abbrev Cp:List RS:=[]
theorem Qav4:mFn prog Qxb 2 32 Qazy Cp=true:=ZF
def Qzd:=dY 0x201e012697223
def Qazq:=dZ 0x7a104a00a9f2802421
def Qazr:=dZ 0x921106422f014c0131122113104017004d1f3804802801800101207b80b8016c1 Qazq Qzd
def Qazs:=dZ 0x960001505900b9f0453010420708001022012070800cbb0bf2 Qazr
def Qbia:=dZ 0x900000500f00a11 Qazs
abbrev ON:List RS:=[.tmp 10]
theorem Qbbz:mFn prog Q7x 5 37 Qbia ON=true:=ZF
def Qals:=dZ 0x7210290029f1f01401012012070800d71
def Qalt:=dZ 0x9010301e012012671f0040101201207302003b1 Qals
def Qazp:=dZ 0x90100f00211 Qalt
theorem Qav3:mFn prog Qxa 1 19 Qazp BH=true:=ZF
def Qar1:=dZ 0x201e042174800802150
def Qar2:=dZ 0x93020201e04217380a801d51 Qar1
def Qar3:=dZ 0x9502040201e03217280a801951 Qar2
def Qar4:=dZ 0x95001050201e02217180a801551 Qar3
def Qa9n:=dZ 0x9500000604900a9f0453010420708001022012070800bbb0bf2 Qar4
theorem Qa2d:mFn prog Q1y 5 37 Qa9n Cp=true:=ZF
def Qn1:=dY 2687089
def Qn2:=dY 2752609
def Qn3:=dY 69610959393 Qn2
def Qais:=dZ 0x30050d90079f1f0147801c30
def Qait:=dZ 0x90030051012edd1800806801e400142 Qais Qn3
def Qac7:=dZ 0x900681b31bf00300602f05a0f062b40f02b10f042b20f02b70f082b00f000f06478013912 Qait
def Qaiu:=dZ 0x74107a0049f6802721
def Qaiv:=dZ 0x9610201e022175800802351 Qaiu
def Qaiw:=dZ 0x1909500400300510127fd046f1f036f026f41c01002070800d612 Qac7 Qn1 Qaiv
def Qaix:=dZ 0x9030040c80069f05c0c21 Qaiw
def Qac6:=dZ 0x930030b80059f0102207700851 Qaix
def Qay7:=dZ 0x9002054f00411 Qac6
theorem Qavy:mFn prog Qw7 2 40 Qay7 BG=true:=ZF
def Qtu:=dY 0x29584ef81014fb80c14f003
def Qtv:=dY 0x147100432f051 Qtu
def Vt:=dY 0x3f6a0f063240f1f2
def s_l3Gen_expr_3:=dZ 0x874100484e58462121203
def Qtw:=dY 0x1b683e0b33164ffa5a33034fda2e54fca2d14f8a2914f4a2514f007
def Qtx:=dY 0x157171332f069f03605a334a2514f304 Qtw
def Qty:=dY 0x4b784e001
def Qtz:=dY 0x101e7832492
def Qt0:=dY 0x10db422f014ccb3d14f473 Qtz
def Qaq9:=dZ 0x13050bb0089f1f0048803a30
def Qaiy:=dZ 0x90013051026f043eed010220708001002070800178323cb0e0d0c0b010a09080706050403020100100fa0142 Qaq9 Qt0
def Qac8:=dZ 0x9006839339f001306003440501681288035512 Qaiy
def Qn4:=dY 0xf0244f1
def Qaiz:=dZ 0x874100484e784650214f3
def Qn5:=dY 0x484e0136d102471004d1f07d24c7845764f614
def Qn6:=dY 0x1026f043eed15f14f55b14f7845764f604 Qn5
def Qai0:=dZ 0x74110127fd569f010220708001002070807846579f0a6f086f046f036f41c0100207080510ff121110060f0e0a06050e0d0c0b0a0908070604030201001713a2 .skip Qn6
def Qai1:=dZ 0x19094ff23041026f022cd01002070804a512 Qaiz Qn4 Qai0
def Qai2:=dZ 0x1909500400130500f008112 Qac8 [] Qai1
def Qai3:=dZ 0x901304147100432f079f0120d6f102471004d1f0168023241 Qai2 Qty
def Qtt:=dZ 0x9130310522cd0501012070800100207080010120708022e110f0e0c0b0703100f0e030d0c0b0a090807060504030201001910a2 Qai3 Qtx
def Qai4:=dZ 0x190920f03041046f022c3203f03210f003220f03270f083200f000f02405010120708013c12 s_l3Gen_expr_3 Vt Qtt
def Qai5:=dZ 0x9030310153eed1800102207080010020708009a0b07030a090807060504030201000e0aa2 Qai4 Qtv
def Qa8f:=dZ 0x92003047100432f0411 Qai5
abbrev Gm:List RS:=[.cell 4 4 true]
theorem Qa17:mFn prog Q1r 2 99 Qa8f Gm=true:=ZF
def Rj:=dY 33041
def Xz:=dZ 0x872102f00211113
def Xy:=dZ 0x1120a80039f1f004500930
def Xx:=dZ 0x1909d113101efd0101133800118120b610142 Xz Rj Xy
def Qbt9:=dZ 0x9006808341130034405013120004512 Xx
def HO:=dY 0xf90029f2f03a1f2
def Ri:=dY 0x1046f02f03703f03710f1823720f002f04a036f052b40f02b50f02b10f1812b20f0015a HO
def Xw:=dZ 0x721101efd0118021231 .skip Ri
def Xv:=dZ 0x1909500411200f003112 Qbt9 [] Xw
def Qb5m:=dZ 0x91102f0090121 Xv
theorem Qb46:mFn prog K8 1 32 Qb5m BH=true:=ZF
def MF:=dY 0x490039f0704142
def Kv:=dZ 0x1130b80049f1f004500a30
def Qbt4:=dZ 0x90113101f1d0102201334800118023800c800142 Kv MF
def Qbnf:=dZ 0x90068093401140034405014020005512 Qbt4
def Qbt5:=dZ 0x7210590029f3801521
def Qbt6:=dZ 0x19095004011300f004112 Qbnf [] Qbt5
def Qbt7:=dZ 0x911200f00311 Qbt6
def Qb3g:=dZ 0x91100f0090121 Qbt7
theorem Qb2p:mFn prog Ly 1 22 Qb3g BH=true:=ZF
def Gb:=dY 0xc80029f2f02a0d6f031340f081300f002f02a0c6f030b40f50b00f00059
def Qbhe:=dZ 0x72110e6f1f0355d200321 .skip Gb
def Qbue:=dZ 0x90102f00211 Qbhe
theorem Qbr4:mFn prog MV 1 13 Qbue BH=true:=ZF
def Oj:=dY 0xb90159f03f2a0c6f023040f083000f00185
def Qbny:=dZ 0x87210026f00211153
def Qbnz:=dZ 0x915f11096f036f0355d080162172101f00211063 Qbny Oj
def Qbn0:=dZ 0x95020490069f03f2a0d6f022240f082200f0003f2a0b6f021a40f081a00f0003f2a0a6f021240f081200f00026f02460070ff172100f00211033 Qbnz
def GU:=dZ 0x72107f00211
def Qbn2:=dZ 0x19092020580039f1f0243004310042 Qbn0 [] GU
def Xq:=dZ 0x90100f00211 Qbn2
theorem Yn:mFn prog HR 1 28 Xq BH=true:=ZF
def Qbf7:=dZ 0x872101f00211033
def LP:=dZ 0x72100f00211
def Qbf9:=dZ 0x19093102003112 Qbf7 [] LP
def Kp:=dZ 0x90100f00211 Qbf9
theorem Qbr2:mFn prog MX 1 4 Kp BH=true:=ZF
def Qasc:=dZ 0x8700012f6d38560800c310b3
def Qu0:=dY 655425
def Qu1:=dY 0x1079122f011c1f2 Qu0
def Qasd:=dZ 0x2040690059f1f0045801530
def Qase:=dZ 0x9002041052f7d046014358001382208048017800142 Qasd Qu1
def Qame:=dZ 0x90068143e00205003440501382258010512 Qase
def Qu2:=dY 0x201e052ca73a3
def Qasf:=dZ 0x201e062571f00401062070800803c90
def Qasg:=dZ 0x901100b322f013c0f1201141030013d1f010620708001381201052070800802ce11f11f2 Qasf Qu2
def Qu3:=dY 0xf1026f55d3d4804b2
def Qo1:=dY 0x23036f65d5d45c14f0f515b34f603
def Qo2:=dY 5111905
def Qo3:=dY 7209073
def Qo4:=dY 9306241
def Qalw:=dZ 0x10f1f35d5d880011c8800807f50
def Qalx:=dZ 0x97020022d2d0138420807b41 Qalw
def Qaly:=dZ 0x942030010f1f35d5d780011c8800807651 Qalx
def Qalz:=dZ 0x9032040022d2d0138320807241 Qaly
def Qal0:=dZ 0x9032040014026f75d5d6800121c780680010f0134800806991 Qalz
def Qal1:=dZ 0x90010206101d1d0806721 Qal0 Qo4
def Qal2:=dZ 0x9010205101d1d0806521 Qal1 Qo3
def Qal3:=dZ 0x80910204101d1d0806321613 Qal2 Qo2
def Qal4:=dZ 0x961f020402e0619f056f2a2462210101d1d08001c010f013480080597070302060504030201000a08a573 Qal3 Qo1
def Qal5:=dZ 0x957f22f020508d0579f076f2a2458210000f7f0c6f15d3d4800805430523 Qal4
def Qal6:=dZ 0x952f22f020503d0529f046f2a2453210000f7f0d6f15d3d4800804f304d3 Qal5
def Qal7:=dZ 0x94df22f02050ec04d9f036f2a244e2101022f8d0138120800804650443 Qal6 Qu3
def Qal8:=dZ 0x1944f22f020505c0449f026f2a24452109202000f1026f55d3d48001062070800802571233 Qasg [] Qal7
def Qal9:=dZ 0x9022f020504a0239f1f1242421024 Qal8
def Qama:=dZ 0x922f020400138022120d22 Qal9
def Qamb:=dZ 0x190950040020400f005112 Qame [] Qama
def Qamc:=dZ 0x902030f80049f01c0f21 Qamb
def Qamd:=dZ 0x190972030066f0240150209312 Qasc [] Qamc
def Qa9p:=dZ 0x92020190311 Qamd
theorem Qa2f:mFn prog Q10 2 132 Qa9p Cp=true:=ZF
def DM:=dY 3735633
def Quc:=dY 0xca0049f015c012311026f103575747105d1f014c2a4
def Qud:=dY 0x1036f02d7d291 Quc
def Que:=dY 0x4b0049f015c342
def Quf:=dY 69306340145 Que
def Qug:=dY 0xc0049f015c012036f102575747105d1f014c3e4
def Quh:=dY 0xac0049f015c012046f102575747105d1f0224c484
def Qui:=dY 0x1026f02d7d080462 Quh
def Quj:=dY 0x4d0049f015c012036f102575747105d1f014c0130c6f102471004d1f014c506
def Quk:=dY 0xfd685e001
def Qn9:=dY 0x157574710532f069f013412056f103575747105d1f5f2 Quk
def Qoa:=dY 0x1022d6d1f014180080014c5a5 Qn9
def Qob:=dY 0xf024651
def Qoc:=dY 0x101e68426a2
def Qajd:=dZ 0x8611022d6d1f0141800806640653 .skip Qoc
def Qt9:=dZ 0x7410ce0049f015c68566b31
def Qaje:=dZ 0x190965f40041026f022cd010020708060512 Qajd Qob Qt9
def Vz:=dY 0x775f06d9f2f06a0f02e140f763
def Qod:=dY 0x7c5f0049f015c012076f102575747105d1f014c7a4
def Qua:=dZ 0x87411026f02d7d08078216d3 .skip Qod
def Qajf:=dW 0x196df0032036f022ce103f0e110f00e120f0e170f08e100f000b6f0245806e810940031036f02d7d0805821553 [Qaje,Qua] [Qoa,Vz]
def Qajg:=dZ 0x955f300407d0559f0b6f0445805631741101fbd0804e214b3 Qajf Quj
def Qajh:=dZ 0x94bf30040dc04b9f086f0245804c31741101fbd0804421413 Qajg Qui
def Qaji:=dZ 0x941f300403c0419f076f02458042317411036f02d7d0803c21353 Qajh Qug
def Qajj:=dZ 0x935f30040bb0359f03f2a026f047040f187000f00076f04458036717411036f02d7d08008030312d3 Qaji Quf
def Qajk:=dZ 0x92df30040fa02d9f056f0445802e317411042f9d279f080289f010220708001002070801fa0e0d0c0b0a080907060504030201000f0fa2143 Qajj Qud
def Qoe:=dY 0x7f5f0041
def Vs:=dZ 0x7411012fcd1800807d31 .skip Qoe
def Qajl:=dZ 0x1909e30040e90149f2f06a0f062f40f02f50f02f10f022f20f02f70f082f00f00036f04458015b10042 Qajk [] Vs
def Qajm:=dZ 0x9300310d6f022cd01002070800f51 Qajl DM
def Qajn:=dZ 0x90020201e042571f014010420770600791 Qajm
def Qa8j:=dZ 0x9002054f00411 Qajn
theorem Qa19:mFn prog Q1t 2 128 Qa8j BG=true:=ZF
def Q0w:=dY 0x3f3a0f021440f0d2
def OJ:=dY 6820257793
def s_l2Expr_2:=dZ 0x87611012fdd1800800f310e3 .skip OJ
def OI:=dY 0xf024141
def OH:=dY 0x684e0136102471004d1f014c1d3
def OG:=dY 0x10233eed1f014280180080185 OH
def Qbm5:=dZ 0x876110127fd0b6f0c6f0b6f31c0801531143 .skip OG
def OF:=dY 1704049
def OE:=dY 0x684e0132a102471004d1f0524c2d3
def OD:=dY 0x10233eed1f014280180080285 OE
def Qbeu:=dZ 0x76110233eed1f0142801800807802261 .skip OD
def Qbev:=dZ 0x903000510127fd0a6f096f086f076f066f056f046f036f036f91c0801f31 Qbeu OF
def OK:=dZ 0x1909d300051076f022cd08012212 Qbm5 OI Qbev
def Qbew:=dZ 0x19097300051046f022c1403f081400f00026f0445008512 s_l2Expr_2 Q0w OK
def X7:=dZ 0x930004047100432f0611 Qbew
theorem Yv:mFn prog RT 3 47 X7 EY=true:=ZF
def Vh:=dY 0xe80029f2f03a01580f0d3
def Qze:=dY 0x101ff1503f081500f002f03a046f050b40f08f50b00f00058 Vh [gT 7 5 (.lens (.t 6))]
def Qaz3:=dZ 0x72111f02fed200321 .skip Qze
def Qbij:=dZ 0x90102f00211 Qaz3
theorem Qbb1:mFn prog Q7z 1 15 Qbij BH=true:=ZF
def PD:=dY 33057
def Qbf1:=dZ 0x874102f00411123
def F7:=dZ 0x30030b80059f1f004400a30
def Qbf3:=dW 0x1909c3004108f1800560153700800c610142 [Qbf1,F7] [PD] [aJ 17 HS [.t 15,.t 16]]
def Qa8l:=dZ 0x90068093330040024405600006412 Qbf3
def Qbf5:=dZ 0x19095004300300f005112 Qa8l [] CU
def Qbua:=dZ 0x900202f00411 Qbf5
theorem Qbr1:mFn prog MY 2 19 Qbua BG=true:=ZF
def Q99:=dY 0xb90039f06041b2
def PM:=dY 0x101f1d1a9f0604891914f695951734f144 Q99
def Qbff:=dZ 0x2030c80049f1f004600b30
def Qbfg:=dZ 0x90203101f1d139f010420153480080159f0103201534800803800dc0f0e0d070c0a060c0b0a09080504030201001210a0142 Qbff PM
def Qa8b:=dZ 0x900680a3502040024405702007412 Qbfg
def Qbfh:=dZ 0x7210c90029f3801c21
def Qbfi:=dZ 0x19095004020300f004112 Qa8b [] Qbfh
def Qbfj:=dZ 0x92020680039f05400531 Qbfi
def Qbt8:=dZ 0x90100f00211 Qbfj
theorem Qbr0:mFn prog MZ 1 29 Qbt8 BH=true:=ZF
def Quw:=dY 9961537
def Qux:=dY 0xb80051
def Quy:=dY 0xd80061
def Sm:=dY 8978545
def Qar5:=dZ 0x10f1f35d5d680011c4800802450
def Qar6:=dZ 0x913030022d2d0138320802041 Qar5
def Qar7:=dZ 0x9102040014026f55d5d5800121c6805807800801971 Qar6
def Qar8:=dZ 0x900002061042f7d0460f0430138220801361 Qar7 Sm
def Qar9:=dZ 0x90002050010f1f35d5d480011c4800800e51 Qar8
def Qasa:=dZ 0x9000205101d1d0800c21 Qar9 Quy
def Qalu:=dZ 0x900204101d1d0800a21 Qasa Qux
def Qalv:=dZ 0x90203101d1d700821 Qalu Quw
def Qa9o:=dZ 0x92020190311 Qalv
theorem Qa2e:mFn prog Q1z 2 41 Qa9o Cp=true:=ZF
def Quq:=dY 1638465
def Qur:=dY 0x10131f55d3d20f14f112 Quq
def Qus:=dY 7929921
def Qut:=dY 0xc90041
def Qarx:=dW 0x8741108f38460801a31183 [] [Qut] [aJ 28 TF [.t 26,.t 27]]
def Qary:=dZ 0x918f2030990189f0a6f882419217411022f8d0138220801441123 Qarx Qus
def Qarz:=dZ 0x9942040390129f026f88241321741101d4d0d9f01c0138120e9f0800800b60706040205040301000908a2093 Qary Qur
def Qar0:=dZ 0x9042040a80099f1f1240a21004 Qarz
def Quu:=dY 0xea0051
def Quv:=dY 0x105a122f011c2d2 Quu
def Qalh:=dZ 0x120404a0069f1f0046802330
def Qali:=dZ 0x9012041052f7d046014368001383208058025800242 Qalh Quv
def Qadr:=dZ 0x9016822322f0120500344050138326801e512 Qali
def Qos:=dY 8060993
def Qot:=dY 0x100f10a6f35d3d580362 Qos
def Qou:=dY 0xeb0041
def Qov:=dY 0x100f10b6f35d3d5803d2 Qou
def Qow:=dY 0xcc0041
def Qox:=dY 0x1013c0e6f1c5d3d4c1 Qow
def Qoy:=dY 0x108f14914f314764f4a3 Qox [aJ 74 Q5d [.t 71,.t 73]]
def Qalj:=dZ 0x8741101d4d439f5804b9f01382201600207080449f08008041a0c0b090806020a08070605040301000f0da23f3 .skip Qoy
def Qalk:=dZ 0x93ff120400c03f9f0d6f0b244021741101d4d0800803a31383 Qalj Qov
def Qall:=dZ 0x9730f120509b0389f0c6f0b243921741101d4d0800803331313 Qalk Qot
def Qalm:=dZ 0x9030f120502b0319f0b6f1243221034 Qall
def Qoz:=dY 3997761
def Qo0:=dY 0x100f1355d3d44f14f532 Qoz
def Qaln:=dZ 0x741101d4d519f580529f0800138020804d60706020405030201000908a2 .skip Qo0
def Qalo:=dZ 0x190930f120400138022f20d222 Qalm [] Qaln
def Qalp:=dZ 0x190950140120400f006112 Qadr [] Qalo
def Qalq:=dZ 0x912030d90059f01c1d21 Qalp
def Qalr:=dZ 0x1909420300130207212 Qar0 [] Qalq
def Qa9m:=dZ 0x920200f0190321 Qalr
theorem Qa2c:mFn prog Q1x 2 84 Qa9m BG=true:=ZF
def Qazt:=dZ 0x874101a0049f01012013358001052070801a91193
def Qazu:=dZ 0x30030f80059f1f0145800e30
def Qazv:=dZ 0x190919f300400124180010020133580010520708010a10142 Qazt [] Qazu
def Qasb:=dZ 0x900680d37300400f074600c212 Qazv
def Dn:=dZ 0x74107f00411
def Qazx:=dZ 0x1909500430030b80059f1f0140501052075006712 Qasb [] Dn
def Qbib:=dZ 0x900200f00411 Qazx
theorem Qbb0:mFn prog Q7y 2 34 Qbib BG=true:=ZF
def Qbne:=dW 0x9002008f0411 [M4] [] [fI 4 (.mv (.k (.c (.str []))))]
theorem Qbl8:mFn prog OX 2 12 Qbne BG=true:=ZF
def Qy2:=dY 7864401
def Qy3:=dY 0x201e022887123
def Qy4:=dY 0x102122f011c5800f3 Qy3
def Qazd:=dZ 0x74100485e0122111f103575747105d1f014c38465801451
def Qaze:=dZ 0x90033104122f010220708001c700871 Qazd Qy4
def Qazf:=dW 0x900204108f500621 [Qaze] [Qy2] [aJ 7 Ve [.t 6]]
def Qbfk:=dZ 0x90203057574710532f190321 Qazf
abbrev OO:List RS:=[.cell 4 5 true]
theorem Qbbx:mFn prog Q7w 2 24 Qbfk OO=true:=ZF
def Qtr:=dY 0x284e013076f102471004d1f0724c0111f102471004d1f0b4
def Qts:=dY 0x10127fd20814f0a2 Qtr
def Qaq8:=dZ 0x7211026f02d7d049f0f116f086f106f106f106f61c010020740059f200370b0a09080705010605040302000d0ca2 .skip Qts
def Qa8e:=dZ 0x9102047100432f0211 Qaq8
abbrev Td:List RS:=[.cell 2 4 true]
theorem Qa16:mFn prog Q1q 1 14 Qa8e Td=true:=ZF
def Qt2:=dY 6803546113
def Qt3:=dY 0x157574710532f051 Qt2
def Qt4:=dY 0x1072fad0111f102471004d1f102 Qt3
def Qt5:=dY 0x49684e001
def Qt7:=dY 0xa885e001
def Qt8:=dY 0x1b0049f0725c013412066f103575747105d1f6842a64f5852964f305
def Qara:=dZ 0x741102522f015c8856780014c684658562970908070100060504030201000c0aa2 .skip Qt8
def Qarb:=dZ 0x9000540201e04257026f01401042070800802191 Qara
def Qarc:=dZ 0x9000405157574710532f089f012511026f103575747105d1f014c013046f102471004d1f0124c1f111f102471004d1f68460158121991 Qarb Qt7
def Qaja:=dZ 0x9004041022d6d1f0141800801541 Qarc Sm
def Qajb:=dZ 0x903004147100432f069f012026f102471004d1f0158121241 Qaja Qt5
def Qajc:=dZ 0x9300310127fd056f0f1f036f026f51c01002070800800971 Qajb Qt4
def Qa8i:=dZ 0x9002054f00411 Qajc
theorem Qa18:mFn prog Q1s 2 50 Qa8i BG=true:=ZF
def Q0z:=dY 0x3f3a0f021040f0b2
def O7:=dY 0x484e0111f102471004d1f102
def s_l2Leaf_2:=dZ 0x874110127fdff6f646f106f0f6f076f056f036f026f1f0fa1c0800d310c3 .skip O7
def O6:=dY 0x484e012026f102471004d1f142
def MG:=dZ 0x7411012f9d1800801131 .skip O6
def Qbnd:=dZ 0x1909720041036f022c1003f081000f000f024053005612 s_l2Leaf_2 Q0z MG
def X2:=dZ 0x92003047100432f0411 Qbnd
theorem Ys:mFn prog RQ 2 21 X2 Gm=true:=ZF
def MJ:=dY 5168955650
def Qbto:=dZ 0x874102f00411113
def Qbtq:=dW 0x1909b3004118f08f700800c410142 [Qbto,F7] [MJ] [fI 14 (.idx (.t 12) (.t 13)),aJ 15 Q49 [.t 14]]
def Qbm3:=dW 0x90068093330040024408f600006412 [Qbtq] [] [fI 8 (.lens (.t 7))]
def Qbtr:=dW 0x7410490049f0f06408f0801241 [] [] [fI 19 (.lens (.t 18))]
def Qbts:=dZ 0x19095004300300f005112 Qbm3 [] Qbtr
def Qb3e:=dZ 0x900202f00411 Qbts
theorem Qb2n:mFn prog L3 2 21 Qb3e BG=true:=ZF
def Ea:=dY 5767217
def Qbtu:=dZ 0x872103f00211113
def Ku:=dZ 0x2030b80049f1f004500a30
def Qbtw:=dZ 0x1909c0204001240800101134803800c610142 Qbtu [] Ku
def Qbm4:=dZ 0x90068093402040024405301006412 Qbtw
def Qbtx:=dZ 0x72102f00211
def Qbty:=dZ 0x19095004020300f004112 Qbm4 [] Qbtx
def Qbtz:=dW 0x9202108f0511 [Qbty] [Ea] [aJ 5 Vc []]
def Qb3f:=dZ 0x90102f00211 Qbtz
theorem Qb2o:mFn prog Lz 1 18 Qb3f BH=true:=ZF
def Sv:=dY 0x3f7a0331e40f41e1255f51e1115f164
def Q00:=dY 0x108f01e10f2801e20f01e50f01e10f2821e20f0003f4a01280f0d9 Sv [.e (some 21) (some (15,false)) (.call HT [.t 20])]
def s_l3Stmt_2:=dZ 0x874102f00411173
def Ol:=dY 0x3f7a2f034aa0f08f05110f2815120f04a00f04a80f584a00f000331f1f24a [] [gT 43 40 (.bin 0 .neq (.t 42) (.k (.c (.str []))))]
def KC:=dZ 0x874102f004112d3
def Ok:=dY 33713
def Qbno:=dZ 0x874102f004113b3
def Qbnp:=dZ 0x301304b0069f1f0046803330
def Qbnq:=dW 0x19093bf3014108f046014368001282235610142 [Qbno,Qbnp] [Ok] [aJ 58 Vq [.t 57]]
def Qbf0:=dZ 0x9006832332f301400344050128226802e512 Qbnq
def Qbfs:=dZ 0x874102f00411463
def Qbft:=dZ 0x874102f004115f3
def T6:=dY 0xbe0049f2f05a6b2
def PE:=dY 0x1022f0cb03f1f01cb40f18cb00f0cb10f284cb20f00656 T6
def Qbfu:=dZ 0x7411022f0d1f0141800128326051 .skip PE
def Qbfv:=dZ 0x19095ff013003f0da2f03a0a0f066f03b540f0b510f280b520f0a000f2f03a0a0f056f03ab40f0ab10f280ab20f0a000f0f06a040f0a050f0a010f283a020f002f03a056f039740f09710f2809720f000f064050128424719f12 Qbft [] Qbfu
def Qbfw:=dZ 0x190946f01302f06a0d6f037f40f07f10f007f20f0f047f30f07f10f2827f20f00086f0240128023cb12 Qbfs [] Qbfv
def Qbfx:=dZ 0x19095004301300f006112 Qbf0 [] Qbfw
def Qbfy:=dZ 0x19092df013101efd01281258020412 KC Ol Qbfx
def Om:=dZ 0x920130f90059f03f3a026f023640f03610f2803620f001f0240128021891 Qbfy
def Qbfz:=dZ 0x190917f0131086f1f03551203f01210f701220f001f04450076100f0b0a0e0d0c0b0a090807060504030201001311a22 s_l3Stmt_2 Q00 Om
def Xt:=dZ 0x901202f0049f190221 Qbfz
theorem Yp:mFn prog HS 2 108 Xt BG=true:=ZF
def Qy5:=dY 589905
def Qy6:=dY 5832801
def Qy7:=dY 0x100f11f35d3d01c142 Qy6
def Qy8:=dY 7929969
def Qy9:=dY 0x990081
def Qza:=dY 6946961
def Sb:=dY 0xca00a1
def Qzc:=dY 0x100f20a6f45d3d011c9802a3 Sb
def Qazm:=dZ 0x74107b0049f6803721
def Qazn:=dZ 0x9610010f1f35d5d880011c8800803251 Qazm
def Qarp:=dZ 0x91503000f20a6f35d3d011ca806800802d51 Qazn
def Qarq:=dZ 0x911504101d4d0800802731 Qarp Qzc
def Qarr:=dZ 0x9015041042f7d0461f0430138320802161 Qarq Qza
def Qars:=dZ 0x9122040014026f55d5d7800121c8807805800801a71 Qarr
def Qart:=dZ 0x90001206101d1d0801821 Qars Qy9
def Qaru:=dZ 0x9001205101d1d0801621 Qart Qy8
def Qarv:=dZ 0x901204101d4d0800801131 Qaru Qy7
def Qarw:=dZ 0x912031042f7d0460f0430138320800b61 Qarv Qy5
def Qbh9:=dZ 0x920200f0190321 Qarw
theorem Qbby:mFn prog TF 2 56 Qbh9 BG=true:=ZF
def Qbie:=dZ 0x87410590049f5801521143
def Qbif:=dZ 0x20130c80059f1f004500b30
def Qbig:=dZ 0x1909e2014001241800100201335800128020d810142 Qbie [] Qbif
def Qbad:=dZ 0x900680a3420140034405014020006512 Qbig
def Qbii:=dZ 0x19095004201300f005112 Qbad [] Dn
def Qbus:=dZ 0x901200f0049f190221 Qbii
theorem Qbr7:mFn prog Q5d 2 22 Qbus BG=true:=ZF
def Qn7:=dY 0x2f06a0f062340f02350f02310f022320f02370f082300f000f024109
def Qn8:=dY 1703969
def Qai6:=dZ 0x87211042f9d01022070800100207080199a0af2183 .skip Qn8
def Qai7:=dW 0x7210da0029f08f1f004186f0a40103207080186f0a4010320708022dd0df2 [] [] [fI 45 (.slis (.k (.c (.str [97,98,99,100,101,103,104,105,106,107,108,109,110,112,113,114,115,116,117,118,119,120,121,122]))) (some (.t 38)) (some (.t 44)))]
def Qai8:=dZ 0x190918f021096f022cd01002070800b512 Qai6 Qn7 Qai7
def Qai9:=dZ 0x9010201e032571f004010320730200391 Qai8
def Qazc:=dW 0x901008f0211 [Qai9] [] [fI 2 (.mv (.k (.c (.str []))))]
theorem Qavz:mFn prog Ve 1 46 Qazc BH=true:=ZF
def Q96:=dY 0x490119f0f074142
def Qbeo:=dZ 0x87210046f00211153
def Qbep:=dW 0x915f10b90159f03f2a18f083000f0008f08016717210036f00211113 [Qbeo] [] [fI 23 (.bin 0 .eql (.t 22) (.k (.c (.int .u8 32)))),gF 26 24 (.bin 0 .eql (.t 25) (.k (.c (.int .u8 10))))]
def Qbeq:=dW 0x911f02108f08012217210026f002110a3 [Qbep] [Q96] [eI 19 (.call Q5a [.k (.c (.str [40,41,123,125,59,44,43,45,42,47,37,60,61,38,33,64])),.t 18])]
def Qber:=dW 0x990200900a9f2f02a18f081b00f0008f0800b7172101f00211033 [Qbeq] [] [fI 12 (.bin 0 .geq (.t 11) (.k (.c (.int .u8 48)))),gT 15 13 (.bin 0 .leq (.t 14) (.k (.c (.int .u8 57))))]
def Qbet:=dW 0x19092020980039f2f02a18f60d00f0008f3004710042 [Qber,LP] [] [fI 5 (.bin 0 .geq (.t 4) (.k (.c (.int .u8 97)))),gT 8 6 (.bin 0 .leq (.t 7) (.k (.c (.int .u8 122))))]
def Qbtt:=dZ 0x90100f00211 Qbet
theorem Qbrw:mFn prog Q49 1 28 Qbtt BH=true:=ZF
def Qamt:=dW 0x7010180009f08f0121 [] [] [fI 1 (.kQ 1 [.k (.c (.str [102,110])),.k (.c (.str [108,101,116])),.k (.c (.str [115,97,121])),.k (.c (.str [112,117,116])),.k (.c (.str [105,102])),.k (.c (.str [101,108,115,101])),.k (.c (.str [108,111,111,112])),.k (.c (.str [98,97,99,107])),.k (.c (.str [100,111]))])]
def Qaz4:=dZ 0x90014f00011 Qamt
abbrev Q2s:List RS:=[.tmp 0]
theorem Qav6:mFn prog Vc 0 2 Qaz4 Q2s=true:=ZF
def Qbng:=dZ 0x87210026f00211043
def Qbnh:=dZ 0x72101f00211
def Qbni:=dZ 0x1909410046f0242003212 Qbng [] Qbnh
def X1:=dZ 0x90100f00211 Qbni
theorem Yr:mFn prog HT 1 5 X1 BH=true:=ZF
def V5:=dY 0x980029f2f03a1e6f050b40f083
def Qlm:=dY 0x108f440b60f00053 V5 [.e (some 7) (some (5,true)) (.call Sj [.t 6])]
def Qad0:=dW 0x721108f1460321 [] [Qlm] [aJ 4 Tp [.t 3,kI 6]]
def Qasr:=dZ 0x91102f0090121 Qad0
theorem Qanr:mFn prog Vq 1 10 Qasr BH=true:=ZF
def EF:=dZ 0x87410190049f5801121103
def Qbe9:=dW 0x1909a30040012418008f700800c510142 [EF,F7] [] [fI 14 (.idx (.t 12) (.t 13))]
def Qa78:=dW 0x90068093330040024408f600006412 [Qbe9] [] [fI 8 (.lens (.t 7))]
def Qbfb:=dZ 0x19095004300300f005112 Qa78 [] Dn
def Qbt1:=dZ 0x900200f00411 Qbfb
theorem Qbry:mFn prog Q5a 2 18 Qbt1 BG=true:=ZF
def OA:=dY 0xe80d80059f41b30b0d9fc80095
def Ss:=dY 0x3f7a02e80f1e2
def Q0x:=dY 0x10123552e03f682e00f582e00f02e50f02e10f2832e20f0003f4a02280f159 Ss
def s_l2Form_3:=dZ 0x874102f004111f3
def Q0y:=dY 0x3fcba2f0378a0f0f038140f08110f2818120f07800f1f037840f07810f2807820f0003f4a06c80f3ac
def O9:=dY 0x1ff6f0f03556c03f06c10f2816c20f0003f7a2f035aa0f08f06110f2826120f05a00f05a80f785a00f000331f1f2ce Q0y [gT 51 48 (.bin 0 .neq (.t 50) (.k (.c (.str []))))]
def s_l2Form_6:=dZ 0x874102f00411453
def O8:=dY 34129
def Qbm6:=dZ 0x874102f00411553
def Qbm7:=dZ 0x50130cc0089f1f0048804b30
def Qbex:=dW 0x190955f5014108f1f01418004601438800128324d810142 [Qbm6,Qbm7] [O8] [aJ 84 Tp [.t 81,.t 83]]
def Qa76:=dZ 0x900684a34af5014003440501283288046512 Qbex
def OC:=dZ 0x19095004501300f008112 Qa76 [] CU
def Qbez:=dZ 0x190945f013101efd01282278028412 s_l2Form_6 O9 OC
def OB:=dZ 0x9401307a0079f03f3a0d6f024640f04610f2804620f00026f0240128022091 Qbez
def Qbe0:=dZ 0x19091ff01310d6f1f03552203f02210f2802220f001f0441800f612 s_l2Form_3 Q0x OB
def Qbe1:=dW 0x902014108f017020a31 [Qbe0] [OA] [aJ 12 HU [.t 11]]
def X5:=dZ 0x901202f0049f190221 Qbe1
theorem Yu:mFn prog Tp 2 86 X5 BG=true:=ZF
def Q97:=dY 0x390039f0604132
def Qbe3:=dW 0x90113108f04601434800118323800c700142 [Kv] [Q97] [aJ 18 Sj [.t 17]]
def Qa77:=dZ 0x90068093401140034405014320005512 Qbe3
def Qbe4:=dZ 0x7210490029f3801421
def Qbe5:=dZ 0x19095004011300f004112 Qa77 [] Qbe4
def Qbe6:=dZ 0x911201f00311 Qbe5
def Qbt0:=dZ 0x91100f0090121 Qbe6
theorem Qbrx:mFn prog Sj 1 21 Qbt0 BH=true:=ZF
def Qbm8:=dZ 0x420780059f026f22407208053
def Qbm9:=dZ 0x3420a80089f0c6f5240a208083
def Qbna:=dZ 0x870220036f00f002210b3
def MI:=dZ 0x9b10c800b9f0d6f7240c21702201f01f00221083 Qbna
def MH:=dZ 0x19093420980089f0b6f42409212702200f00f00221053 Qbm9 [] MI
def Qbnb:=dZ 0x19090420680059f1f12406212004 Qbm8 [] MH
def Q6w:=dZ 0x70220026f0026f00221
def Qbnc:=dZ 0x19094103004112 Qbnb [] Q6w
def X3:=dZ 0x90100f00f00221 Qbnc
abbrev RX:List RS:=[.tmp 2,.tmp 3]
theorem Yt:mFn prog HU 1 13 X3 RX=true:=ZF
def Iq:=dY 32849
def Po:=dZ 0x8721014f00211053
def Sw:=dY 8912929
def Qkx:=dY 4316254337 Sw
def Qabq:=dZ 0x72110187d4360621 .skip Qkx
def Qabr:=dZ 0x190931210186d13603212 Po Iq Qabq
def Qan4:=dZ 0x911014f0090121 Qabr
theorem Qanc:mFn prog Qqd 1 9 Qan4 BH=true:=ZF
def Gl:=dY 0x880049f0f074082
def Qams:=dZ 0x741101277d40400531 .skip Gl
def Qaz0:=dZ 0x900202f00411 Qams
theorem Qav5:mFn prog Qxc 2 9 Qaz0 BG=true:=ZF
def Qbs2:=dZ 0x87410290049f5801221113
def Qbs4:=dZ 0x1909b300400124180010113700800c610142 Qbs2 [] F7
def Qbmw:=dZ 0x90068093330040024405600006412 Qbs4
def Qbs6:=dZ 0x19095004300300f005112 Qbmw [] Dn
def Qb3d:=dZ 0x900200f00411 Qbs6
theorem Qb2m:mFn prog L4 2 19 Qb3d BG=true:=ZF
def Q84:=dY 0xf80051
def Q85:=dY 0xa90071
def Qbdf:=dZ 0x11602f01e01136807802440
def Qbdg:=dZ 0x11602f01e011368078027400900001160010f248fd01c780183620411f3 Qbdf
def Q86:=dY 0xba0081
def Qbdh:=dZ 0x11800b0099f1f0049802f30
def Qbdi:=dZ 0x90000001180101e2b1b132f05a07b80f07b10f0117b30f987b00f787b00f002f04a06f10f0116f30f986f00f586f00f000101136805809808803115f00342 Qbdh
def Qa5w:=dZ 0x902682e32ef000000119001443809802c312 Qbdi
def Q87:=dY 9175105
def Qbdj:=dZ 0x115102122f011c8804804540 .skip Q87
def Qa5l:=dZ 0x1909502400000011800f009112 Qa5w [] Qbdj
def Q83:=dW 0x900000117108f3802a21 [Qa5l] [Q86] [eI 43 (.mks 1 [.bool false] (.t 42))]
def Qa5m:=dZ 0x19091ff000011700f0346801e212 Qbdg [] Q83
def Qa5n:=dZ 0x9000011603f01e01136807801b41 Qa5m
def Qa5o:=dZ 0x1150890069f1f0046801730
def Qa5p:=dW 0x19090000116108f38019210142 [Qa5n,Qa5o] [Q85] [eI 26 (.mks 1 [.bool false] (.t 25))]
def Qax8:=dZ 0x9006816316f0001160014438068014312 Qa5p
def Qa5q:=dZ 0x72109c0029f4804921
def Qa5r:=dZ 0x1909500400011500f006112 Qax8 [] Qa5q
def Qa5s:=dZ 0x9001140010f248fd01c58018361041 Qa5r
def Qa5t:=dW 0x900114108f3800e21 [Qa5s] [Q84] [eI 15 (.mks 1 [.bool false] (.t 14))]
def Qa5u:=dZ 0x901130d80049f01c0d21 Qa5t
def Qa5v:=dZ 0x91120c80039f050118220a41 Qa5u
def Qbte:=dZ 0x911014f0090121 Qa5v
theorem Qbrm:mFn prog Nl 1 74 Qbte BH=true:=ZF
def Vk:=dY 0xd80029f2f05a00f80f0c3
def Qaor:=dZ 0x7211012ae0f03f181af0fe0f00f10f620f20f000f06405011220391 .skip Vk
def Qa3i:=dZ 0x91102f0090121 Qaor
theorem Qa1x:mFn prog Q1k 1 14 Qa3i BH=true:=ZF
def Tc:=dY 9961505
def Qbci:=dZ 0x7211016ed400821 .skip Tc
def Qbcj:=dZ 0x9310016dd200621 Qbci
def Qbck:=dZ 0x93110137d300421 Qbcj Ea
def Qbs0:=dZ 0x901014f00211 Qbck
theorem Qbrf:mFn prog Nz 1 10 Qbs0 BH=true:=ZF
def Qyn:=dY 0x98481e001
def Qyo:=dY 74913607745 Qyn
def Qaxl:=dZ 0x7210d80029f3810d21
def Qaxm:=dZ 0x93100f0142f510b21 Qaxl
def Qaxn:=dZ 0x91320051e641854b1e1f0a21 Qaxm
def Qaxo:=dZ 0x90011405132f0511 Qaxn
def Qaxp:=dW 0x90113108f05014220641 [Qaxo] [Qyo] [eI 9 (.mks 1 [.bool false] (.t 8))]
def Qaxq:=dZ 0x9112017132f0311 Qaxp
def Qbcq:=dZ 0x911014f0090121 Qaxq
theorem Qbbr:mFn prog TG 1 14 Qbcq BH=true:=ZF
def Qbfc:=dW 0x8010780009f08f500630053 [] [] [fI 7 (.sli 1 (.t 6) none (some (kI 2000)))]
def Q98:=dY 0xa80021
def O5:=dZ 0x7211052f01010172d1f700831 .skip Q98
def Qbfd:=dZ 0x1909402007d09f064052003312 Qbfc [] O5
def Qbt2:=dZ 0x90108f00211 Qbfd
theorem Qbrz:mFn prog Na 1 11 Qbt2 BH=true:=ZF
def Qa98:=dZ 0x9701300600424010113700801800b61 EF
def Gd:=dZ 0x50040290089f1f88041220
def Qbaa:=dZ 0x19090130050a80059f100a210142 Qa98 [] Gd
def Qaz2:=dZ 0x90009b005005010440911 Qbaa
def Qbac:=dZ 0x190950040500400f0055006312 Qaz2 [] Dn
def Qbo3:=dZ 0x900200f00411 Qbac
theorem Qbmd:mFn prog OS 2 19 Qbo3 BG=true:=ZF
def Sp:=dY 32993
def Qany:=dZ 0x8741014f004110e3
def Qrd:=dY 0x69785e490062
def Qre:=dY 0xe90051
def Qanz:=dZ 0x800a315102122f011c6805801b401a3 .skip Qre
def Qan0:=dZ 0x970090317001252d1800178421741 Qanz
def Qan1:=dZ 0xa3150f90129f1f29041f20
def Qan2:=dZ 0x190900800317117004727532f079f05624531014410142 Qan0 Qrd Qan1
def Qag9:=dZ 0x90013b000a316010441311 Qan2
def Qan3:=dZ 0x74100a0049f5802021
def Qag6:=dZ 0x1909500400a31500f0050128220f412 Qag9 [] Qan3
def Qag7:=dZ 0x190982014100f4321d1f01405016226008612 Qany Sp Qag6
def Qag8:=dZ 0x92013014f00511 Qag7
def Qa28:=dZ 0x9012014f0049f190221 Qag8
theorem Qa1u:mFn prog TX 2 33 Qa28 BG=true:=ZF
def Q02:=dZ 0x741101265d40400531 .skip Gl
def Q61:=dZ 0x900202f00411 Q02
theorem Q5k:mFn prog V7 2 9 Q61 BG=true:=ZF
def Q8q:=dY 33361
def Qbcz:=dZ 0x872102f00211253
def Qbc0:=dZ 0x1130690049f1f0044801530
def Qbc1:=dZ 0x190925f0114100f4355d1f0140501182201011348001042015338001182217e0ff0ff20342 Qbcz Q8q Qbc0
def Qa3w:=dZ 0x9026814314f01140074405010420153380011822700c912 Qbc1
def Qbc2:=dZ 0x1120b80039f1f004600a30
def Qbc3:=dZ 0x19095024011300f004110142 Qa3w [] Qbc2
def Qa3x:=dZ 0x9006809351130034405014221005512 Qbc3
def Qbc4:=dZ 0x72109a0029f0f064050118222651
def Qbc5:=dZ 0x1909500411200f003112 Qa3x [] Qbc4
def Qbta:=dZ 0x91102f0090121 Qbc5
theorem Qbrj:mFn prog Nv 1 42 Qbta BH=true:=ZF
def Qa83:=dZ 0x30030490059f1f0045801330014
def Qazk:=dZ 0x90068123c300402f06a0141740f181700f01710f0111730f71700f081700f00024405701007c12 Qa83
def Qa84:=dZ 0x874101a0049f0802121203
def Q4n:=dY 6946913
def Q4o:=dY 0xea0041
def Q4p:=dY 0x103122f07f2e2 Q4o [.chk 45 none (.sli 1 (.t 43) (some (.t 44)) none)]
def Qa85:=dW 0x741102122f2a9f08f5800802b9f011c180680277080706030605040201000a09a2 [] [Q4p] [fI 45 (.sli 1 (.t 43) (some (.t 44)) none)]
def PV:=dW 0x903004103122f08f58008001c2251 [Qa85] [Q4n] [fI 37 (.sli 1 (.t 35) none (some (.t 36)))]
def PU:=dZ 0x190920f300402f06a0123340f183300f03310f0113330f583300f083300f0002440508058015c12 Qa84 [] PV
def Qa86:=dZ 0x190950042300300f00511 Qazk [] PU
def Qbof:=dZ 0x9002014f00411 Qa86
theorem Qbma:mFn prog OW 2 47 Qbof BG=true:=ZF
def Ti:=dY 1769521
def Qa5f:=dZ 0x840001510125a48fd380280010113980010420153180014822483625de0ef243 .skip Ti
def Qa5g:=dZ 0x4000150790099f1f0049801630
def Qa5h:=dZ 0x190924f400016008010891301011398001042015318001482228018d10142 Qa5f [] Qa5g
def Qax7:=dZ 0x90068153b4000160074405010420153180014822300d912 Qa5h
def Th:=dY 5963905
def Qa5i:=dZ 0x781102122f011c1803803241 .skip Th
def Qa5j:=dZ 0x1909500440001500f009112 Qax7 [] Qa5i
def Qa5k:=dZ 0x90001403f01e0113180700a41 Qa5j
def Qbmz:=dZ 0x900014014f0089f390421 Qa5k
abbrev C4:List RS:=[.tmp 8]
theorem Qbl4:mFn prog Pb 4 54 Qbmz C4=true:=ZF
def Qj4:=dZ 0x7411012dad40400531 .skip Gl
def Qm2:=dZ 0x900202f00411 Qj4
theorem Qmb:mFn prog Qdd 2 9 Qm2 BG=true:=ZF
def Iw:=dY 7864369
def Q57:=dZ 0x73110123cd41b0e1f011420441 .skip Iw
def Qahn:=dZ 0x901202f0190221 Q57
abbrev Dx:List RS:=[.tmp 3]
theorem Qafw:mFn prog Qabh 2 8 Qahn Dx=true:=ZF
def Qa9v:=dZ 0x8721014f00211043
def Q4q:=dY 7864353
def Qa9w:=dZ 0x721101122f5001c0531 .skip Q4q
def Qa9x:=dW 0x1909302008f2003212 [Qa9v,Qa9w] [] [eI 4 (.nilq (.t 3))]
def Qbo1:=dZ 0x901014f00211 Qa9x
theorem Qbmb:mFn prog OU 1 8 Qbo1 BH=true:=ZF
def Pq:=dY 0x30f44a4d0a1
def Qbid:=dW 0x101a5d08f4030400550 [] [Pq] [fI 8 (.cvt .u64 (.t 7))]
def Qbur:=dZ 0x91020480029f05200331 Qbid
theorem Qbr6:mFn prog Q5c 1 11 Qbur Cp=true:=ZF
def Qash:=dZ 0x87210980029f0800921083
def Qasi:=dZ 0x20405b0039f1f0043803430
def Qasj:=dZ 0x809002040101e45130101135804803800802d812c3 Qasi
def Qask:=dZ 0x20402a0059f1f0045802130
def Qasl:=dZ 0x19092cf00205005340102131f01458048001011358048023aa0af20342 Qasj [] Qask
def Qamr:=dZ 0x9026820320f0020500244054805801d412 Qasl
def Qasm:=dW 0x7210bb0029f08f3800803941 [] [] [fI 59 (.sli 1 (.t 57) none (some (.t 58)))]
def Qasn:=dW 0x9202017f08f3800803641 [Qasm] [] [fI 56 (.sli 1 (.t 54) (some (.t 55)) none),.e none none (.clrs 1 [.int .i64 0] (.t 56))]
def Qaso:=dZ 0x190950240020401f005112 Qamr [] Qasn
def Qasp:=dW 0x80902030c90049f08f3800801a41193 [Qaso] [] [fI 28 (.sli 1 (.t 26) (some (.t 27)) none)]
def Qamm:=dZ 0x2020f80039f1f0043800e30
def Qamn:=dZ 0x190919f203005240102131f01438008001011338008010aa0af20142 Qasp [] Qamm
def Qadt:=dZ 0x900680d392030024405080600a412 Qamn
def Qamo:=dZ 0x7210cb0029f0803c21
def Qamp:=dZ 0x1909500420201f003112 Qadt [] Qamo
def Qamq:=dZ 0x19097020026f044055006312 Qash [] Qamp
def Qa9y:=dZ 0x901014f00211 Qamq
theorem Qa2g:mFn prog Q11 1 61 Qa9y BH=true:=ZF
def Qacp:=dZ 0x800b01007001142f7803811b301a3
def Qacq:=dZ 0x970082010090080101137801811651 Qacp
def Qacr:=dZ 0xb010070e90129f1f29041e20
def Qacs:=dZ 0x19090082010080590079f01131314310142 Qacq [] Qacr
def Q6n:=dZ 0x90013b000b01008010441311 Qacs
def Qlf:=dY 0x2a481e001
def Qact:=dZ 0x102122f011c0804811f40 .skip Qlf
def Qacu:=dZ 0x1909500400b0100700f0050104201530800128220b812 Q6n [] Qact
def Qaqh:=dZ 0x900000503f01e0113080610841 Qacu
theorem Qano:mFn prog SO 5 35 Qaqh Cp=true:=ZF
def Qaxr:=dZ 0x7610e80069f2f03a0151540f281500f081500f00015470500791
def Qbcr:=dZ 0x9000302f00611 Qaxr
theorem Qbbs:mFn prog Q7r 3 15 Qbcr BN=true:=ZF
def Qadv:=dZ 0x97013006004142f010113700801800b61 EF
def Qadx:=dZ 0x19090130050a80059f100a210142 Qadv [] Gd
def Q62:=dZ 0x90009b005005010440911 Qadx
def Qadz:=dZ 0x190950040500400f0055006312 Q62 [] Dn
def Qasq:=dZ 0x900200f00411 Qadz
theorem Qanq:mFn prog Qqn 2 19 Qasq BG=true:=ZF
def Qpi:=dZ 0x97013006004142f0560153700801800b61 EF
def Qpk:=dZ 0x19090130050a80059f100a210142 Qpi [] Gd
def Qm4:=dZ 0x90009b005005010440911 Qpk
def Qpm:=dZ 0x190950040500400f0055006312 Qm4 [] Dn
def Qwt:=dZ 0x900200f00411 Qpm
theorem Qvz:mFn prog Qe9 2 19 Qwt BG=true:=ZF
def SB:=dY 0xa80039f080a2
def Qv1:=dZ 0x731100f4321d1f0140501322300461 .skip SB
def Q23:=dZ 0x900202f00311 Qv1
theorem Q17:mFn prog Qzo 2 11 Q23 Dx=true:=ZF
def Qu6:=dZ 0x87000123c2d2801800801841173
def Qu7:=dZ 0x87000123c3d2801800801e411d3
def Qu8:=dZ 0x40000709a0039f1f0143802830
def Qu9:=dZ 0x8090040000700123c4d2801800802441233 Qu8
def Qp7:=dY 0xb0fa00b9f51b40b2f9fea02a5
def Qva:=dZ 0x40000901f00c10
def Qvb:=dZ 0x90004000080cb00b9f03140114180b801f0142803771 Qva
def Qvc:=dZ 0x80900040000800123c6d2801800803341323 Qvb
def Qvd:=dZ 0x88748348f00040000900123c7d2801800804541443
def Qp8:=dY 0x2f0bca09780f562
def Qm5:=dY 0xcd00d1
def Qpn:=dZ 0x1604000060dd0019fd805d21
def Qpo:=dZ 0x8093040106101234c9db802801800805851573 Qpn Qm5
def Qm6:=dY 0x5e04e00e9f61b50b649f3e05e5
def Qpp:=dZ 0x40000607b5f0019f1f004e807a30
def Qpq:=dZ 0x94040106001234a4d380e801800807551 Qpp
def Qpr:=dZ 0x4000060855f0029fe808520
def Qps:=dZ 0x94041006001244a4d3802801f004e800807f61 Qpr
def Qpt:=dZ 0x194040000707e5f0089f01742901907c4109404000070745f0089f01742900907241713 Qpq [] Qps
def Qpu:=dZ 0x971f001450000a001441900906f31 Qpt
def Qpv:=dZ 0x900145000090ee0129f086f094a806d31 Qpu
def Qpw:=dZ 0x901305000090ce09e0109f0114e802800114180e806781 Qpv
def Qpx:=dZ 0x93050000706e0099ff806621 Qpw
def Qpy:=dZ 0x903600007101234cadb802801800805f51 Qpx Qm6
def Qpz:=dZ 0x190957f0004000091042c89703f09710f0119730fb89700f089700f09710f0219730f1f019740f189700f089700f000f06418049d0ff0ff22 Qpo Qp8 Qpy
def Qp0:=dZ 0x190944f00040000902f02a1f028340fc88300f002f01a987d00f008803d812 Qvd [] Qpz
def Qp1:=dZ 0x190932f000040000a0026f024c8031212 Qvc [] Qp0
def Qp2:=dZ 0x9000040000910123c5d2801800802b41 Qp1 Qp7
def Qp3:=dZ 0x190923f0040000800888022212 Qu9 [] Qp2
def Qp4:=dZ 0x19091df0040000800f0243801c212 Qu7 [] Qp3
def Qp5:=dZ 0x1909c0040000800c6f054a8016212 Qu6 [] Qp4
def Qm7:=dZ 0x90040000705900a9f01141802801341014 Qp5
def Qp6:=dZ 0x95004040000603f00911 Qm7
def Q03:=dZ 0x940000503f00811 Qp6
theorem Qzv:mFn prog Qf2 4 134 Q03 Cp=true:=ZF
def Qgu:=dY 0x2f039a1e1
def Qgv:=dY 0x201e5a3a13302
def Qh8:=dZ 0x3000500a0079f1f0147801f30
def Qh9:=dZ 0x90300051501e2a1a130101137800800102131f0147800801f0147800807800802110f12f12f0342 Qh8 Qgv
def Qgw:=dZ 0x902681e31ef0300061052c82703f02710f0212730f1f012740f782700f082700f02710f0112730f782700f082700f00016418078010e0ff0ff22 Qh9 Qgu
def Qia:=dZ 0x300040e80069f1f004600d30
def Qib:=dZ 0x190950240300050f80079f6800f210142 Qgw [] Qia
def Qgx:=dZ 0x900680c353000500144280300a312 Qib
def Qj5:=dZ 0x95004300040980069f1f004600831 Qgx
theorem Qjm:mFn prog Qcl 3 49 Qj5 Cp=true:=ZF
end Go.AE.Y
