/- Part 2 of the proof: the engine, codes, walks and plain laws, each named where it stands. -/
import Derived.Test.YtchjcdooknkfpaaGreatDoorZA
import Derived.Test.YtchjcdooknkfpaaGreatDoorProg
open Nat (reduceEqDiff reduceAdd reduceLeDiff reduceLT)
set_option linter.unusedVariables false
set_option linter.unusedSimpArgs false
set_option maxRecDepth 4000
open Array renaming getD_eq_getD_getElem?->Jg,getElem?_eq_some_iff->Jn,getElem?_eq_getElem->Ju,getElem?_setIfInBounds_self_of_lt->J3
open Bool renaming and_eq_true->Jj,not_eq_true'->J5,or_eq_true->Jaf
open Int renaming eq_ofNat_of_zero_le->Jy,tmod_lt_of_pos->Jar,tmod_nonneg->Jax
open List renaming mem_of_getElem?->Ja,mem_append->Jb,mem_append_left->Jc,mem_append_right->Jd,getD_eq_getElem?_getD->Je,mem_map->Jh,mem_cons->Ji,nodup_append->Jk,append_assoc->Jl,mem_singleton->Jm,map_append->Jo,mem_or_eq_of_mem_set->Jp,getElem?_eq_getElem->Jq,perm_append_comm->Jr,map_cons->Js,nil_append->Jt,mem_cons_of_mem->Jv,mem_cons_self->Jw,getElem?_eq_some_iff->Jx,length_eq_zero_iff->Jz,cons_append->J0,take_of_length_le->J1,append_of_mem->J2,length_map->J4,all_cons->J6,getElem_mem->J7,getElem?_set->J8,all_nil->J9,map_nil->Jaa,map_set->Jab,all_eq_true->Jac,getElem_set->Jad,not_mem_nil->Jae,map_eq_nil_iff->Jag,drop_zero->Jah,pairwise_iff_getElem->Jai,any_eq_true->Jak,ext_getElem->Jal,length_eq_one_iff->Jam,append_nil->Jan,length_nil->Jao,length_singleton->Jap,flatMap_append->Jaq,getElem?_drop->Jas,set_cons_zero->Jat,countP_cons->Jaw,count_cons->Jay
open Nat renaming zero_add->Jav,le_refl->Jaz,zero_le->Ja0
open Ne renaming symm->Jau
open Option.some renaming injEq->Jf,inj->Ja1
open Prod.mk renaming injEq->Jaj
namespace Go.AE
variable{P:Program}{H H0 H' H2:Heap}{a:Prop}{ms ord ks:List Nat}{fa i f sz tag y N bi yi:Nat}{ops:Array Oper}{x:Item}{Q:X->Env->Heap->Prop}{K:V->Heap->Prop}{g0:G}{u:Value}{listed:Array Bool}{w':World}{its:List Item}{KP:Value->Heap->Prop}{rs:List RS}{b:SC}{p:Nat×Obj}{α:Type}{zero:List C}{it:Opd}{fl:Bool}{S:Nat->Bool}{o':Obj}{Lg:Ul}{ss:List (List UInt8)}
section
variable{g:G}{w:World}{e:Env}{a:Act}
def Item.isE:Item->Bool
 |.e _ _ _=>true
 |_=>false
def Item.aR:Item->Bool
 |.chk _ _ _=>true
 |_=>false
def Item.isFl:Item->Bool
 |.f _ _ _=>true
 |.p _ _ _ _=>true
 |_=>false
def Item.hf:Item->Bool
 |.f _ _ op=>op.hfree
 |_=>true
def Item.isFa:Item->Bool
 |.e (some _) none (.alloc _)=>true
 |_=>false
abbrev Row:=Nat×Item
def Ij (ms:List Nat)(o:Oper):Nat->List Edge->Nat
 |s,[]=>s
 |s,ed::r=>Ij ms o (if Region.binds .any ed then s ||| (2 ^ ed.on ||| ms.getD ed.on 0)else s) r
def dIn (d:Option Nat)(l:List Nat):Bool:=
 match d with
 |some t=>l.contains t
 |none=>false
def flo (fa i:Nat):Bool:=i == fa || (decide (100000<=fa)&&(fa-100000).testBit i)
def FU (ms:List Nat)(fa:Nat)(x y:Row):Bool:=
 x.1 != y.1&&!((ms.getD x.1 0).testBit y.1)&&(match x.2.dst with
  |some t=>y.2.dst != some t
  |none=>true)
 &&(!(dIn y.2.dst x.2.looks) || (ms.getD y.1 0).testBit x.1)
 &&(!(dIn x.2.dst y.2.looks) || (ms.getD y.1 0).testBit x.1)
 &&(!x.2.isE || flo fa y.1 || (ms.getD y.1 0).testBit x.1)
def D9 (j:Nat):List Row->Bool
 |[]=>false
 |y::r=>y.2.aR&&(y.1 == j || D9 j r)
def ED (P:Program)(n:Nat)(ops:Array Oper)(ms:List Nat)(fa:Nat)(pre:List Row)(y:Row)(rest:List Row):Bool:=
 match ops[y.1]? with
 |none=>false
 |some o=>match y.2 with
  |.chk d gd op=>Do P n ops o (.f (some d) gd op)&&pre.any (λz=>!z.2.aR&&z.1 == y.1&&z.2.looks == y.2.looks&&z.2.dst == some d&&!z.2.hf)
    &&pre.all (λz=>z.2.aR || !(dIn z.2.dst y.2.looks) || (ms.getD y.1 0).testBit z.1)
  |_=>Do P n ops o y.2&&o.after.toList.all (λed=>!Region.binds .any ed || pre.any λz=>!z.2.aR&&z.1 == ed.on)
    &&ms.getD y.1 0 == Ij ms o 0 o.after.toList&&!(dIn y.2.dst y.2.looks)
    &&pre.all (λz=>z.2.aR || FU ms fa z y)&&(!flo fa y.1 || y.2.isFa)
    &&(!y.2.isE || pre.all (λz=>z.2.aR || z.2.hf || (ms.getD y.1 0).testBit z.1 || D9 z.1 rest))
def Fm (P:Program)(n:Nat)(ops:Array Oper)(ms:List Nat)(fa:Nat):List Row->List Row->Bool
 |_,[]=>true
 |pre,y::r=>ED P n ops ms fa pre y r&&Fm P n ops ms fa (pre++[y]) r
def HX:List Oper->List Nat->List Nat
 |[],ms=>ms
 |o::r,ms=>HX r (ms++[Ij ms o 0 o.after.toList])
def HY (P:Program)(n:Nat)(ops:Array Oper)(fa:Nat)(ord:List Nat)(its:List Item):Bool:=
 ord.length == its.length&&Region.noSelect ops&&Fm P n ops (HX ops.toList []) fa [] (ord.zip its)
  &&(List.range ops.size).all λi=>(ord.zip its).any λy=>!y.2.aR&&y.1 == i
theorem RZ {n:Nat}{ops:Array Oper}{ms:List Nat}{fa:Nat}:∀(L pre:List Row),Fm P n ops ms fa pre L=true->
  ∀A y B,L=A++y::B->ED P n ops ms fa (pre++A) y B=true
 |[],_,_,A,y,B,h=>ZH
 |x::r,pre,hm,A,y,B,h=>by
  simp only[Fm,Jj]at hm
  cases A with
  |nil=>
   simp at h;obtain⟨rfl,rfl⟩:=h;simpa using hm.1
  |cons a A=>
   simp at h;obtain⟨rfl,rfl⟩:=h;have:=RZ _ _ hm.2 A y B rfl;simpa[Jl]using this
theorem Q0n {ms:List Nat}{o:Oper}{j:Nat}:∀(l:List Edge) (s:Nat),(Ij ms o s l).testBit j=true->
  s.testBit j=true\/∃ed∈l,Region.binds .any ed=true/\(ed.on=j\/(ms.getD ed.on 0).testBit j=true)
 |[],s,h=>.inl h
 |ed::r,s,h=>by
  simp only[Ij]at h;rcases Q0n r _ h with h1|⟨x,hx,h1⟩
  ·by_cases hb:Region.binds .any ed=true
   ·rw[if_pos hb]at h1;simp only[Nat.testBit_or,Jaf]at h1;rcases h1 with h1|h1|h1
    ·exact .inl h1
    ·rw[Nat.testBit_two_pow]at h1;exact .inr ⟨ed,ZC,hb,.inl ZX⟩
    ·exact .inr ⟨ed,ZC,hb,.inr h1⟩
   ·rw[if_neg hb]at h1;exact .inl h1
  ·exact .inr ⟨x,Za4,h1⟩
theorem dIn_iff {d:Option Nat}{l:List Nat}:dIn d l=true↔∃t,d=some t/\t∈l:=by
 cases d <;> simp[dIn]
structure PairOk (ms:List Nat)(fa:Nat)(x y:Row):Prop where
 ne:x.1≠y.1
 top:(ms.getD x.1 0).testBit y.1=false
 dst:∀t,x.2.dst=some t->y.2.dst≠some t
 war:∀t,y.2.dst=some t->t∈x.2.looks->(ms.getD y.1 0).testBit x.1=true
 raw:∀t,x.2.dst=some t->t∈y.2.looks->(ms.getD y.1 0).testBit x.1=true
 ord:x.2.isE=true->¬flo fa y.1=true->(ms.getD y.1 0).testBit x.1=true
theorem Qamq{x y:Row}(h:FU ms fa x y=true):PairOk ms fa x y:=by
 simp only[FU,Jj,bne_iff_ne,Jaf,J5,beq_iff_eq]at h;obtain⟨⟨⟨⟨⟨h1,h2⟩,h3⟩,h4⟩,h5⟩,h6⟩:=h;refine⟨h1,h2,?_,?_,?_,?_⟩
 ·intro t ht;rw[ht]at h3;simpa using h3
 ·intro t ht hm;rcases h4 with h4|h4
  ·have:=dIn_iff.2 ⟨t,ht,hm⟩;rw[this]at h4;simp at h4
  ·exact h4
 ·intro t ht hm;rcases h5 with h5|h5
  ·have:=dIn_iff.2 ⟨t,ht,hm⟩;rw[this]at h5;simp at h5
  ·exact h5
 ·intro hx hy;rcases h6 with (h6|h6)|h6
  ·rw[hx]at h6;simp at h6
  ·exact absurd h6 hy
  ·exact h6
structure RowOk (P:Program)(n:Nat)(ops:Array Oper)(ms:List Nat)(fa:Nat)(pre:List Row)(y:Row)(rest:List Row)(o:Oper):Prop where
 op:ops[y.1]? = some o
 item:Do P n ops o y.2=true
 aft:∀ed∈o.after,Region.binds .any ed=true->∃z∈pre,z.2.aR=false/\z.1=ed.on
 anc:∀j,(ms.getD y.1 0).testBit j=true->∃ed∈o.after,Region.binds .any ed=true/\(ed.on=j\/(ms.getD ed.on 0).testBit j=true)
 self:∀t,y.2.dst=some t->t∉y.2.looks
 pair:∀z∈pre,z.2.aR=false->PairOk ms fa z y
 isFa:flo fa y.1=true->y.2.isFa=true
 cover:y.2.isE=true->∀z∈pre,z.2.aR=false->z.2.hf=false->(ms.getD y.1 0).testBit z.1=false->D9 z.1 rest=true
theorem Qarn {n:Nat}{pre:List Row}{y:Row}{rest:List Row}(h:ED P n ops ms fa pre y rest=true)(hc:y.2.aR=false) :
  ∃o,RowOk P n ops ms fa pre y rest o:=by
 obtain⟨i,x⟩:=y;unfold ED at h
 cases ho:ops[i]? with
 |none=>simp[ho]at h
 |some o=>
  simp only[ho]at h;have key:(Do P n ops o x&&o.after.toList.all (λed=>!Region.binds .any ed || pre.any λz=>!z.2.aR&&z.1 == ed.on)
    &&ms.getD i 0 == Ij ms o 0 o.after.toList&&!(dIn x.dst x.looks)
    &&pre.all (λz=>z.2.aR || FU ms fa z (i,x))&&(!flo fa i || x.isFa)
    &&(!x.isE || pre.all (λz=>z.2.aR || z.2.hf || (ms.getD i 0).testBit z.1 || D9 z.1 rest)))=true:=by
   cases x with
   |chk=>simp[Item.aR]at hc
   |f=>exact h
   |p=>exact h
   |e=>exact h
  simp only[Jj,Jac,Jaf,J5,beq_iff_eq,bne_iff_ne,Jak]at key;obtain⟨⟨⟨⟨⟨⟨h1,h2⟩,h3⟩,h4⟩,h5⟩,h6⟩,h7⟩:=key;refine⟨o,ho,h1,?_,?_,?_,?_,?_,?_⟩
  ·intro ed vo hb;rcases h2 ed (by simpa using vo)with h|⟨z,hz,h⟩
   ·rw[hb]at h;simp at h
   ·exact⟨z,hz,h.1,h.2⟩
  ·intro j hj;simp only at hj;rw[h3]at hj;rcases Q0n _ _ hj with h|⟨ed,vo,h⟩
   ·simp at h
   ·exact⟨ed,by simpa using vo,h⟩
  ·intro t ht hm;have:=dIn_iff.2 ⟨t,ht,hm⟩;simp only at this;rw[this]at h4;simp at h4
  ·intro z hz cM;rcases h5 z hz with h|h
   ·rw[cM]at h;simp at h
   ·exact Qamq h
  ·intro hf;rcases h6 with h|h
   ·exact absurd hf (by rw[h];decide)
   ·exact h
  ·intro hE z hz cM hzh tz;rcases h7 with h|h
   ·simp only at hE;rw[hE]at h;simp at h
   ·rcases h z hz with ((h|h)|h)|h
    ·rw[cM]at h;simp at h
    ·rw[hzh]at h;simp at h
    ·simp only at tz;rw[tz]at h;simp at h
    ·exact h
theorem Qap7 {n:Nat}{pre:List Row}{d:Nat}{gd:Option (Nat×Bool)}{op:FOp}{rest:List Row}(h:ED P n ops ms fa pre (i,.chk d gd op) rest=true) :
  ∃o,ops[i]? = some o/\Do P n ops o (.f (some d) gd op)=true/\(∃z∈pre,z.2.aR=false/\z.1=i/\z.2.looks=(Item.f (some d) gd op).looks/\z.2.dst=some d/\z.2.hf=false)/\
   ∀z∈pre,z.2.aR=false->∀t,z.2.dst=some t->t∈(Item.f (some d) gd op).looks->(ms.getD i 0).testBit z.1=true:=by
 unfold ED at h
 cases ho:ops[i]? with
 |none=>simp[ho]at h
 |some o=>
  simp only[ho,Jj,Jak,Jac,Jaf,J5,beq_iff_eq]at h;obtain⟨⟨h1,z,hz,⟨⟨⟨h2,h3⟩,h4⟩,h5⟩,h6⟩,h7⟩:=h;refine⟨o,rfl,h1,⟨z,hz,h2,h3,h4,h5,h6⟩,?_⟩;intro z hz cM t ht hm;rcases h7 z hz with (h|h)|h
  ·rw[cM]at h;simp at h
  ·have:=dIn_iff.2 ⟨t,ht,hm⟩;change dIn z.2.dst (Item.chk d gd op).looks=true at this;rw[this]at h;simp at h
  ·exact h
abbrev dn (listed:Array Bool)(i:Nat):Prop:=listed.getD i false=true
def Rdy (P:Program)(x:Item)(e:Env)(H:Heap)(v:V):Prop:=
 match x with
 |.f _ gd op=>gdO e gd/\(gdB e gd=true->op.obl (gdB e gd) e H)/\v=gdV gd (gdB e gd) (op.val e H)
 |.p _ gd f xs=>gdO e gd/\∃r,(gdB e gd=true->(∀y∈xs,y.fine (gdB e gd) e)/\FM P f (xs.map λy=>y.v e) r)/\v=gdV gd (gdB e gd) r
 |_=>False
theorem Rdy.congr {x:Item}{e e':Env}{v:V}(h:∀t∈x.looks,lk t e'=lk t e)(hr:Rdy P x e H v):Rdy P x e' H v:=by
 have h1:=MB h;have h2:=Lt h
 cases x with
 |f d gd op=>
  simp only[Item.gd]at h2;simp only[Item.opds]at h1;have h3:=FOp.congr (H:=H) (p:=gdB e gd) h1;simp only[Rdy]at hr⊢;rw[h2.1,h2.2,h3.1,h3.2];exact hr
 |p d gd f xs=>
  simp only[Item.gd]at h2;simp only[Item.opds]at h1;simp only[Rdy]at hr⊢;rw[h2.1,h2.2,RB h1,RQ h1];exact hr
 |e=>exact hr
 |chk=>exact hr
theorem Rdy.hcongr {x:Item}{e:Env}{H':Heap}{v:V}(h:x.hf=true)(hr:Rdy P x e H v):Rdy P x e H' v:=by
 cases x with
 |f d gd op=>
  have h3:=FOp.hcongr (e:=e) (H:=H) (H':=H') (p:=gdB e gd) (op:=op) h;simp only[Rdy]at hr⊢;rw[h3.1,h3.2];exact hr
 |p d gd f xs=>exact hr
 |e=>exact hr
 |chk=>exact hr
theorem Qa3u {n:Nat}{o:Oper}{v:V}{Q:Exit->Act->World->Prop}{next:Act->World->Prop}(sY:ops[i]? = some o)(hm:Do P n ops o x=true)
  (hr:Rdy P x e H v) (hs:Sat H g w) (he:EnvOk w g (trim x.looks e) a)
  (cg:∀u w' g',Stp H g w H g' w'->RepV w' g' v u->next (a.put x.dst u) w') :
  wpOp P ops Q i next a w:=by
 have bd:Rdy P x (trim x.looks e) H v:=hr.congr λt ht=>by rw[Gj,if_pos ht]
 unfold wpOp;rw[sY];simp only
 cases x with
 |f d gd op=>
  simp only[Do,Jj]at hm;obtain⟨⟨h1,h2⟩,h3⟩:=hm;obtain⟨di,fi⟩:=F5 h1;simp only[Rdy]at bd;obtain⟨r1,r2,r3⟩:=bd;rw[Iz (n:=n) h2 he r1];by_cases hg:gdB (trim (Item.f d gd op).looks e) gd=true
  ·rw[if_pos hg];obtain⟨u,w',g',k1,k2,k3,k4⟩:=MM h3 hs he hg (r2 hg);left;unfold Oper.wp;rw[k1,Oper.upon_value,di];refine cg u w' g' k2 ?_;rw[r3]
   cases gd with
   |none=>exact k3
   |some tb=>exact .gd _ _ _ (λ_=>k3) (λh=>by rw[hg]at h;simp at h)
  ·rw[if_neg hg];have nk:gdB (trim (Item.f d gd op).looks e) gd=false:=Zak
   rw[di];refine cg _ _ g (.refl hs) ?_;rw[r3]
   cases gd with
   |none=>simp[gdB]at nk
   |some tb=>exact .gd _ _ _ (λh=>absurd h hg) (λ_=>rfl)
 |p d gd f xs=>
  simp only[Do,Jj]at hm;obtain⟨⟨h1,h2⟩,h3⟩:=hm;obtain⟨di,fi⟩:=F5 h1;simp only[Rdy]at bd;obtain⟨r1,v0,r2,r3⟩:=bd;rw[Iz (n:=n) h2 he r1];by_cases hg:gdB (trim (Item.p d gd f xs).looks e) gd=true
  ·rw[if_pos hg];obtain⟨s1,s2⟩:=r2 hg;left;refine LL h3 hs he hg s1 s2 Q next (λy u w' H' g' hk aI dA=>?_) λv w' H' g' hk _=>absurd hk.1.symm (s2.1 v);obtain⟨rfl,rfl⟩:=hk;rw[di];refine cg _ _ g' aI ?_;rw[r3]
   cases gd with
   |none=>exact dA
   |some tb=>exact .gd _ _ _ (λ_=>dA) (λh=>by rw[hg]at h;simp at h)
  ·rw[if_neg hg];have nk:gdB (trim (Item.p d gd f xs).looks e) gd=false:=Zak
   rw[di];refine cg _ _ g (.refl hs) ?_;rw[r3]
   cases gd with
   |none=>simp[gdB]at nk
   |some tb=>exact .gd _ _ _ (λh=>absurd h hg) (λ_=>rfl)
 |e=>exact bd.elim
 |chk=>exact bd.elim
theorem Qa2z {n:Nat}{o:Oper}{d:Option Nat}{gd:Option (Nat×Bool)}{op:EOp}{Q:Exit->Act->World->Prop}{next:Act->World->Prop}(sY:ops[i]? = some o)
  (hm:Do P n ops o (.e d gd op)=true) (hs:Sat H g w) (he:EnvOk w g (trim (Item.e d gd op).looks e) a)
  (h1:gdO e gd) (h2:gdB e gd=true->op.eff P (gdB e gd) e H K) (h3:gdB e gd=false->K .unk H)
  (cg:∀x u w' H' g',K x H'->Stp H g w H' g' w'->RepV w' g' x u->next (a.put d u) w') (jY:∀v w' H' g',K (.pn v) H'->Stp H g w H' g' w'->Q (.panic [{ v:=v,recovered:=false }]) a w') :
  wpOp P ops Q i next a w:=by
 have gG:∀t∈(Item.e d gd op).looks,lk t (trim (Item.e d gd op).looks e)=lk t e:=λt ht=>by rw[Gj,if_pos ht]
 have c1:=MB gG;have c2:=Lt gG;simp only[Item.gd]at c2;simp only[Item.opds]at c1;unfold wpOp;rw[sY];simp only;simp only[Do,Jj]at hm;obtain⟨⟨m1,m2⟩,m3⟩:=hm;obtain⟨di,fi⟩:=F5 m1;rw[Iz (n:=n) m2 he (c2.2.2 h1),c2.1];by_cases hg:gdB e gd=true
 ·rw[if_pos hg];left;refine Q5c m3 hs he hg (EOp.congr c1 (h2 hg)) Q next (λx u w' H' g' hk aI dA=>?_) jY;rw[di];exact cg x u w' H' g' hk aI dA
 ·rw[if_neg hg];rw[di];exact cg .unk undef w H g (h3 Zak) (.refl hs) (.unk _)
structure Early (g0:G)(H:Heap)(g:G)(w:World)(a:Act)(x:Item):Prop where
 ok:∃(d:Nat) (cells:List C) (l b sz:Nat) (T:TypeId) (cs:Array Value),x=.e (some d) none (.alloc cells)/\g.io l=some (b,sz,0)/\g.own b=some (l,[])/\w.heap[b]? = some (.cells cs T (0,0))/\
  cs.size=cells.length/\(∀(k:Nat) (c:C) (v:Value),cells[k]? = some c->cs[k]? = some v->RepC w g c v)/\H l=.none/\g0.io l=none/\RepV w g (.c (.ptr l 0)) (a.tmps.getD d undef)
theorem Early.mono {g0:G}{x:Item}{H':Heap}{g':G}{w':World}{a':Act}(h:Early g0 H g w a x)(hs:Stp H g w H' g' w')(ha:∀d,x.dst=some d->a'.tmps.getD d undef=a.tmps.getD d undef):Early g0 H' g' w' a' x:=by
 obtain⟨d,cells,l,b,sz,T,cs,h1,h2,h3,h4,h5,h6,h7,h8,h9⟩:=h.ok;obtain⟨k1,k2⟩:=hs.fr l Zad h7;obtain⟨k3,k4⟩:=k2 b [] h3;refine⟨d,cells,l,b,sz,T,cs,h1,hs.le.io _ _ h2,k3,k4.trans h4,h5,λk c v p q=>(h6 k c v p q).mono hs.le,k1,h8,?_⟩;rw[ha d Zbq];exact h9.mono hs.le
theorem Early.ptr(h:Early g0 H g w a x):∃d l b sz,x.dst=some d/\g.io l=some (b,sz,0)/\b<w.heap.size/\H l=.none/\a.tmps.getD d undef=.pointer (some ⟨b,0,none⟩):=by
 obtain⟨d,cells,l,b,sz,T,cs,h1,h2,h3,h4,h5,h6,h7,h8,h9⟩:=h.ok;refine⟨d,l,b,sz,by rw[h1];rfl,h2,(Jn.1 h4).1,h7,?_⟩;have hr:=h9.aN;generalize a.tmps.getD d undef=vv at hr⊢
 cases hr with
 |ptr _ _ b' sz' q h=>
  rw[h2]at h;simp only[Jf,Jaj]at h;obtain⟨rfl,rfl,rfl⟩:=h;rfl
theorem Early.other(h:Early g0 H g w a x){l:Nat}{o:Obj}(hr:RepV w g (.c (.ptr l 0)) u)(be:∀d,x.dst=some d->u≠a.tmps.getD d undef):Early g0 (H.set l o) g w a x:=by
 obtain⟨d,cells,l',b,sz,T,cs,h1,h2,h3,h4,h5,h6,h7,h8,h9⟩:=h.ok;have jJ:l'≠l:=λe=>by
  subst e;have k:=h9.aN;have k2:=hr.aN;have hq:=be d Zbq;generalize a.tmps.getD d undef=vv at k hq
  cases k with
  |ptr _ _ b1 s1 q1 e1=>
   cases k2 with
   |ptr _ _ b2 s2 q2 e2=>
    rw[e1]at e2;simp only[Jf,Jaj]at e2;obtain⟨rfl,rfl,rfl⟩:=e2;exact hq rfl
 exact⟨d,cells,l',b,sz,T,cs,h1,h2,h3,h4,h5,h6,by rw[Heap.aj _ _ jJ];exact h7,h8,h9⟩
theorem Qaqd {n:Nat}{o:Oper}{Q:Exit->Act->World->Prop}{next:Act->World->Prop}(sY:ops[i]? = some o)(hm:Do P n ops o x=true)(hf:x.isFa=true)
  (hs:Sat H g w) (h0:∀l y,g0.io l=some y->g.io l=some y) (hn:a.tmps.size=n)
  (cg:∀u w' g',Stp H g w H g' w'->Early g0 H g' w' (a.put x.dst u) x->(∀x',Early g0 H g w a x'->∀d,x'.dst=some d->a.tmps.getD d undef≠u)->next (a.put x.dst u) w') :
  wpOp P ops Q i next a w:=by
 cases x with
 |e d gd op=>
  cases op with
  |alloc cells=>
   cases d with
   |none=>simp[Item.isFa]at hf
   |some d=>
    cases gd with
    |some=>simp[Item.isFa]at hf
    |none=>
     simp only[Do,Jj]at hm;obtain⟨⟨m1,m2⟩,m3⟩:=hm;obtain⟨di,fi⟩:=F5 m1;have hdn:=fi d di;simp only[mE]at m3;split at m3
     ·rename_i t bB
      obtain⟨i1,z,z1,z2,z3⟩:=Kc m3;obtain⟨l,hl,hH⟩:=hs.newName;have hr:=Iy (w:=w) (g:=g) z3;have aS:=G5 hs hl cells.length 0 (.cells z.cells t);have aI:=F7 hs hl cells.length 0 (.cells z.cells t) .none (λg' hg=>trivial);rw[Heap.set_self _ _ _ hH]at aI;have hg0:g0.io l=none:=by
       cases hx:g0.io l with
       |none=>rfl
       |some y=>rw[h0 l y hx]at hl;simp at hl
      have hw:Region.wanted o (yielded ops a.tmps)=true:=by
       unfold Region.wanted
       cases b8:o.guard with
       |none=>rfl
       |some jb=>rw[b8]at m2;simp[mG]at m2
      unfold wpOp;rw[sY];simp only;rw[if_pos hw];left;unfold Oper.wp;have cH:(execOp a.eval o).run P w=.ok (.value (.pointer (some ⟨w.heap.size,0,none⟩))) (w.alloc (.cells z.cells t)):=by
       simp[execOp,bB,Instr.alloc,Eu z1 z2,newVar,newRow]
      rw[cH,Oper.upon_value,di];refine cg _ _ _ aI ⟨d,cells,l,w.heap.size,cells.length,t,z.cells,rfl,ZK,ZK,EA _ _,hr.1,λk c v p q=>(hr.2 k c v p q).mono aS,hH,hg0,?_⟩ (λx' gP d' dj hh=>?_)
      ·have:(a.put (Item.e (some d) none (.alloc cells)).dst (.pointer (some ⟨w.heap.size,0,none⟩))).tmps.getD d undef=.pointer (some ⟨w.heap.size,0,none⟩):=by
        simp only[Item.dst,Act.put];rw[Jg,J3 ZA];rfl
       rw[this];exact .c _ _ (.ptr l 0 w.heap.size cells.length 0 ZK)
      ·obtain⟨d1,l1,b1,sz1,p1,p2,p3,p4,p5⟩:=gP.ptr;rw[p1]at dj;obtain rfl:=Ja1 dj;rw[p5]at hh;have:=congrArg (λv=>match v with
        |Value.pointer (some a)=>a.block
        |_=>0) hh
       simp only at this;omega
     ·simp at m3
  |_=>cases d <;> (try cases gd) <;> simp[Item.isFa]at hf
 |_=>simp[Item.isFa]at hf
theorem YV{w0:World}(aI:Stp H0 g0 w0 H g w)(h:Early g0 H g w a x) :
  ∃d cells l,x=.e (some d) none (.alloc cells)/\H l=.none/\Stp H0 g0 w0 (H.set l (.st cells)) g w/\RepV w g (.c (.ptr l 0)) (a.tmps.getD d undef):=by
 obtain⟨d,cells,l,b,sz,T,cs,h1,h2,h3,h4,h5,h6,h7,h8,h9⟩:=h.ok;refine⟨d,cells,l,h1,h7,⟨aI.le,λm hm hn=>?_,⟨aI.sat.fresh,aI.sat.names,aI.sat.excl,aI.sat.named,λm=>?_⟩⟩,h9⟩
 ·have fe:m≠l:=λh=>by subst h;exact hm h8
  rw[Heap.aj _ _ fe];exact aI.fr m hm hn
 ·by_cases fe:m=l
  ·subst fe;rw[Heap.aF];exact⟨b,sz,T,cs,h2,h3,h4,h5,λk c v p q=>.plain _ _ _ _ (h6 k c v p q)⟩
  ·have ey:=Heap.aj H (.st cells) fe;rw[ey,<-ey];refine SatObj.keep aI.sat (.refl _ _) (λb q hb=>⟨hb,rfl⟩) ey λm' v left cur hc v' es hv=>?_;by_cases fg:m'=l
   ·subst fg;rw[Heap.aF]at hv;simp at hv
   ·rw[Heap.aj _ _ fg]at hv;exact .inl ⟨hv,λb q hb=>⟨hb,rfl⟩⟩
structure Fix where
 P:Program
 n:Nat
 ops:Array Oper
 ms:List Nat
 fa:Nat
 L:List Row
 H0:Heap
 g0:G
 w0:World
 KP:Value->Heap->Prop
 K:Env->Heap->Prop
def Fix.anc (F:Fix)(i j:Nat):Prop:=(F.ms.getD i 0).testBit j=true
def Ea (F:Fix)(listed:Array Bool)(pre:List Row)(y:Row)(t:Nat)(z:Row):Prop:=
 z∈pre/\z.2.aR=false/\¬dn listed z.1/\z.2.dst=some t/\F.anc y.1 z.1
def Pend (F:Fix)(listed:Array Bool)(a:Act)(w:World)(pre:List Row)(e:Env)(H:Heap)(g:G)(y:Row):Prop:=
 ∃(o:Oper) (x:Item) (ei:Env) (v:V),F.ops[y.1]? = some o/\Do F.P F.n F.ops o x=true/\x.dst=y.2.dst/\x.looks=y.2.looks/\(y.2.hf=true->x.hf=true)/\
  Rdy F.P x ei H v/\(∀d,y.2.dst=some d->lk d e=v)/\
  ∀t∈y.2.looks,(∀z,Ea F listed pre y t z->lk t ei=lk t e)/\((¬∃z,Ea F listed pre y t z)->RepV w g (lk t ei) (a.tmps.getD t undef))
structure DInv (F:Fix)(listed:Array Bool)(a:Act)(w:World)(pre post:List Row)(e:Env)(H:Heap)(g:G):Prop where
 split:F.L=pre++post
 rest:DH F.P (post.map Prod.snd) e H F.KP F.K
 stp:Stp F.H0 F.g0 F.w0 H g w
 size:a.tmps.size=F.n
 defers:a.defers=[]
 lsz:listed.size=F.ops.size
 closed:∀i,dn listed i->∀j,F.anc i j->dn listed j
 eDone:∀y∈pre,y.2.isE=true->dn listed y.1
 postDone:∀y∈post,y.2.aR=false->dn listed y.1->flo F.fa y.1=true/\Early F.g0 H g w a y.2
 pend:∀y∈pre,y.2.isFl=true->¬dn listed y.1->D9 y.1 post=true\/Pend F listed a w pre e H g y
 temps:∀t,(∃y∈pre,y.2.aR=false/\¬dn listed y.1/\y.2.dst=some t)\/(∃y∈post,y.2.aR=false/\flo F.fa y.1=true/\dn listed y.1/\y.2.dst=some t)\/RepV w g (lk t e) (a.tmps.getD t undef)
 ne:∀y∈post,∀z∈post,y.2.aR=false->z.2.aR=false->dn listed y.1->dn listed z.1->y.1≠z.1->∀d d',y.2.dst=some d->z.2.dst=some d'->a.tmps.getD d undef≠a.tmps.getD d' undef
structure FixOk (F:Fix):Prop where
 rows:Fm F.P F.n F.ops F.ms F.fa [] F.L=true
 all:∀i,i<F.ops.size->∃y∈F.L,y.2.aR=false/\y.1=i
theorem FixOk.row {F:Fix}(hF:FixOk F){A B:List Row}{y:Row}(h:F.L=A++y::B)(hc:y.2.aR=false):∃o,RowOk F.P F.n F.ops F.ms F.fa A y B o:=by
 have:=RZ _ _ hF.rows A y B h;exact Qarn this hc
def Ig (F:Fix)(x y:Row):Prop:=∃A B,F.L=A++y::B/\x∈A
theorem FixOk.pair {F:Fix}(hF:FixOk F){x y:Row}(h:Ig F x y)(hx:x.2.aR=false)(hy:y.2.aR=false):PairOk F.ms F.fa x y:=by
 obtain⟨A,B,h1,h2⟩:=h;obtain⟨o,ho⟩:=hF.row h1 hy;exact ho.pair x h2 hx
theorem Ei {F:Fix}{pre post:List Row}(h:F.L=pre++post){x y:Row}(hx:x∈pre)(hy:y∈post):Ig F x y:=by
 obtain⟨s,t,rfl⟩:=J2 hy;exact⟨pre++s,t,by rw[h];simp,Za4⟩
theorem GA {F:Fix}{pre post:List Row}{y x:Row}(h:F.L=pre++y::post)(hx:x∈post):Ig F y x:=
 Ei (pre:=pre++[y]) ZI ZC hx
theorem RA {F:Fix}{x y:Row}(hx:x∈F.L)(hy:y∈F.L):x=y\/Ig F x y\/Ig F y x:=by
 obtain⟨s,t,h⟩:=J2 hx;have:y∈s++x::t:=h▸hy;rcases Jb.1 this with k|k
 ·exact .inr (.inr ⟨s,t,h,k⟩)
 ·rcases Ji.1 k with k|k
  ·exact .inl k.symm
  ·exact .inr (.inl (GA h k))
theorem FixOk.inj {F:Fix}(hF:FixOk F){x y:Row}(hx:x∈F.L)(hy:y∈F.L)(qC:x.2.aR=false)(ca:y.2.aR=false)(h:x.1=y.1):x=y:=by
 rcases RA hx hy with k|k|k
 ·exact k
 ·exact absurd h (hF.pair k qC ca).ne
 ·exact absurd h.symm (hF.pair k ca qC).ne
theorem FixOk.injDst {F:Fix}(hF:FixOk F){x y:Row}(hx:x∈F.L)(hy:y∈F.L)(qC:x.2.aR=false)(ca:y.2.aR=false){t:Nat}(h1:x.2.dst=some t)(h2:y.2.dst=some t):x=y:=by
 rcases RA hx hy with k|k|k
 ·exact k
 ·exact absurd h2 ((hF.pair k qC ca).dst t h1)
 ·exact absurd h1 ((hF.pair k ca qC).dst t h2)
theorem G2(h:x.isFl=true):x.aR=false/\x.isE=false:=by
 cases x <;> simp_all[Item.isFl,Item.aR,Item.isE]
theorem Ft(h:x.isE=true):x.aR=false/\x.isFl=false:=by
 cases x <;> simp_all[Item.isFl,Item.aR,Item.isE]
theorem Ke {j:Nat}{y:Row}{r:List Row}(h:D9 j (y::r)=true):y.2.aR=true/\(y.1=j\/D9 j r=true):=by
 simpa[D9]using h
theorem DInv.passFl {F:Fix}(hF:FixOk F){pre r:List Row}{y:Row}(hI:DInv F listed a w pre (y::r) e H g)(hy:y.2.isFl=true)(v:V)(hr:Rdy F.P y.2 e H v)
  (cf:DH F.P (r.map Prod.snd) (Df y.2.dst v e) H F.KP F.K) (df:¬dn listed y.1):DInv F listed a w (pre++[y]) r (Df y.2.dst v e) H g:=by
 obtain⟨ca,AR⟩:=G2 hy;obtain⟨o,ho⟩:=hF.row hI.split ca;have hL:y∈F.L:=Za6
 have iF:∀z∈pre,z∈F.L:=λz hz=>Zaa
 have fK:∀z∈r,z∈F.L:=λz hz=>Zaa
 have gG:∀t,y.2.dst≠some t->lk t (Df y.2.dst v e)=lk t e:=by
  intro t ht
  cases hd:y.2.dst with
  |none=>rfl
  |some d=>
   simp only[Df,lk];rw[if_neg];intro h;subst h;exact ht hd
 have za:∀t,y.2.dst=some t->lk t (Df y.2.dst v e)=v:=by
  intro t ht;rw[ht];simp[Df,lk]
 refine⟨by rw[hI.split];simp,cf,hI.stp,hI.size,hI.defers,hI.lsz,hI.closed,?_,?_,?_,?_,λy' eQ z' dt=>hI.ne y' (by simp[eQ]) z' (by simp[dt])⟩
 ·intro z hz ku;rcases Jb.1 hz with k|k
  ·exact hI.eDone z k ku
  ·simp at k;subst k;rw[AR]at ku;simp at ku
 ·exact λz hz=>hI.postDone z Za5
 ·intro z hz fk iQ;obtain⟨cM,tA⟩:=G2 fk;right;rcases Jb.1 hz with k|k
  ·rcases hI.pend z k fk iQ with h|h
   ·have:=(Ke h).1;rw[ca]at this;simp at this
   ·obtain⟨o',x,ei,u,p1,p2,p3,p4,p5,p6,p7,p8⟩:=h;refine⟨o',x,ei,u,p1,p2,p3,p4,p5,p6,?_,?_⟩
    ·intro d hd;rw[gG d λh=>(hF.pair (Ei hI.split k ZC) cM ca).dst d hd h];exact p7 d hd
    ·intro t ht;obtain⟨q1,q2⟩:=p8 t ht;have hb:∀z',Ea F listed (pre++[y]) z t z'->Ea F listed pre z t z':=by
      rintro z' ⟨b1,b2,b3,b4,b5⟩;refine⟨?_,b2,b3,b4,b5⟩;rcases Jb.1 b1 with b|b
      ·exact b
      ·simp at b;subst b;have:=(hF.pair (Ei hI.split k ZC) cM ca).top;rw[Fix.anc,this]at b5;simp at b5
     refine⟨?_,?_⟩
     ·intro z' dt;have hz'':=hb z' dt;rw[q1 z' hz'',gG];intro h;exact (hF.pair (Ei hI.split hz''.1 ZC) hz''.2.1 ca).dst t hz''.2.2.2.1 h
     ·intro b7;refine q2 λ⟨z',b1,b2⟩=>b7 ⟨z',?_,b2⟩;simp[b1]
  ·simp at k;subst k;refine⟨o,z.2,e,v,ho.op,ho.item,rfl,rfl,id,hr,za,?_⟩;intro t ht;have pK:z.2.dst≠some t:=λh=>ho.self t h ht;refine⟨?_,?_⟩
   ·intro z' dt;rw[gG t pK]
   ·intro b7;rcases hI.temps t with ⟨y',k1,k2,k3,k4⟩|⟨y',k1,k2,k3,k4,k5⟩|k
    ·exact absurd ⟨y',ZaG,k2,k3,k4,(hF.pair (Ei hI.split k1 ZC) k2 cM).raw t k4 ht⟩ b7
    ·exfalso;rcases Ji.1 k1 with h|h
     ·subst h;exact pK k5
     ·have:=(hF.pair (GA hI.split h) cM k2).war t k5 ht;exact df (hI.closed _ k4 _ this)
    ·exact k
 ·intro t;by_cases ht:y.2.dst=some t
  ·exact .inl ⟨y,ZC,ca,df,ht⟩
  ·rw[gG t ht];rcases hI.temps t with ⟨y',k1,k2,k3,k4⟩|⟨y',k1,k2,k3,k4,k5⟩|k
   ·exact .inl ⟨y',ZaG,k2,k3,k4⟩
   ·rcases Ji.1 k1 with h|h
    ·subst h;exact absurd k5 ht
    ·exact .inr (.inl ⟨y',h,k2,k3,k4,k5⟩)
   ·exact .inr (.inr k)
theorem DInv.passChk {F:Fix}(hF:FixOk F){pre r:List Row}{j d:Nat}{gd:Option (Nat×Bool)}{op:FOp}(hI:DInv F listed a w pre ((j,.chk d gd op)::r) e H g) :
  DInv F listed a w (pre++[(j,.chk d gd op)]) r e H g:=by
 have aD:=RZ _ _ hF.rows pre _ _ hI.split;obtain⟨o,c1,c2,⟨y0,c3,c4,c5,c6,c7,c8⟩,c9⟩:=Qap7 aD;have cf:=hI.rest;simp only[Js,DH]at cf;obtain⟨⟨r1,r2,r3⟩,r4⟩:=cf;have iF:∀z∈pre,z∈F.L:=λz hz=>Zaa
 have gC:∀z t z',Ea F listed (pre++[(j,.chk d gd op)]) z t z'↔Ea F listed pre z t z':=by
  intro z t z';constructor
  ·rintro⟨b1,b2⟩;refine⟨?_,b2⟩;rcases Jb.1 b1 with b|b
   ·exact b
   ·simp at b;subst b;simp[Item.aR]at b2
  ·rintro⟨b1,b2⟩;exact⟨by simp[b1],b2⟩
 refine⟨by rw[hI.split];simp,r4,hI.stp,hI.size,hI.defers,hI.lsz,hI.closed,?_,?_,?_,?_,λy' eQ z' dt=>hI.ne y' (by simp[eQ]) z' (by simp[dt])⟩
 ·intro z hz ku;rcases Jb.1 hz with k|k
  ·exact hI.eDone z k ku
  ·simp at k;subst k;simp[Item.isE]at ku
 ·exact λz hz=>hI.postDone z Za5
 ·intro z hz fk iQ;obtain⟨cM,tA⟩:=G2 fk;have k:z∈pre:=by
   rcases Jb.1 hz with k|k
   ·exact k
   ·simp at k;subst k;simp[Item.aR]at cM
  have ke:Pend F listed a w pre e H g z->Pend F listed a w (pre++[(j,.chk d gd op)]) e H g z:=by
   rintro⟨o',x,ei,u,p1,p2,p3,p4,p5,p6,p7,p8⟩;refine⟨o',x,ei,u,p1,p2,p3,p4,p5,p6,p7,λt ht=>?_⟩;simp only[gC];exact p8 t ht
  rcases hI.pend z k fk iQ with h|h
  ·rcases (Ke h).2 with h'|h'
   ·right;simp only at h';have sK:z=y0:=hF.inj (iF _ k) (iF _ c3) cM c4 (by rw[c5,<-h']);subst sK;refine⟨o,.f (some d) gd op,e,gdV gd (gdB e gd) (op.val e H),by rw[c5];exact c1,c2,by rw[c7];rfl,c6.symm,λh=>by rw[c8]at h;simp at h,⟨r1,r2,rfl⟩,?_,?_⟩
    ·intro d' dj;rw[c7]at dj;simp at dj;subst dj;exact r3
    ·intro t ht;simp only[gC];refine⟨λ_ _=>trivial,λb7=>?_⟩;rcases hI.temps t with ⟨y',k1,k2,k3,k4⟩|⟨y',k1,k2,k3,k4,k5⟩|k'
     ·exfalso;refine b7 ⟨y',k1,k2,k3,k4,?_⟩;have:=c9 y' k1 k2 t k4 (by rw[<-c6];exact ht);rw[Fix.anc,c5];exact this
     ·exfalso;rcases Ji.1 k1 with h|h
      ·subst h;simp[Item.aR]at k2
      ·have:=(hF.pair (Ei (pre:=pre++[(j,.chk d gd op)]) Za6 (by simp[k]) h) cM k2).war t k5 ht;exact iQ (hI.closed _ k4 _ this)
     ·exact k'
   ·exact .inl h'
  ·exact .inr (ke h)
 ·intro t;rcases hI.temps t with ⟨y',k1,k2,k3,k4⟩|⟨y',k1,k2,k3,k4,k5⟩|k
  ·exact .inl ⟨y',ZaG,k2,k3,k4⟩
  ·rcases Ji.1 k1 with h|h
   ·subst h;simp[Item.aR]at k2
   ·exact .inr (.inl ⟨y',h,k2,k3,k4,k5⟩)
  ·exact .inr (.inr k)
theorem I4 {d:Option Nat}{v:V}{t:Nat}(h:d≠some t):lk t (Df d v e)=lk t e:=by
 cases d with
 |none=>rfl
 |some s=>
  simp only[Df,lk];rw[if_neg];intro k;subst k;exact h rfl
theorem N3 {d:Option Nat}{v:V}{t:Nat}(h:d=some t):lk t (Df d v e)=v:=by
 subst h;simp[Df,lk]
theorem DZ{d:Option Nat}{t:Nat}(h:d≠some t):(a.put d u).tmps.getD t undef=a.tmps.getD t undef:=by
 cases d with
 |none=>rfl
 |some s=>
  have:s≠t:=λk=>by subst k;exact h rfl
  simp only[Act.put];rw[Jg,Array.getElem?_setIfInBounds_ne this,<-Jg]
theorem FX{d:Option Nat}{t:Nat}(h:d=some t)(ht:t<a.tmps.size):(a.put d u).tmps.getD t undef=u:=by
 subst h;simp only[Act.put];rw[Jg,J3 ht];rfl
theorem CW{j:Nat}(hi:i<listed.size):dn (listed.setIfInBounds i true) j↔j=i\/dn listed j:=by
 by_cases h:j=i
 ·subst h;simp[dn,hi]
 ·simp only[dn,getD_set_ne false (Jau h),h,false_or]
theorem Pf {n:Nat}{o:Oper}(h:Do P n ops o x=true):∀t,x.dst=some t->t<n:=by
 intro t ht;cases x <;> simp only[Do,Jj]at h
 case f d gd op=>obtain⟨h1,h2⟩:=F5 h.1.1;simp only[Item.dst]at ht;exact h2 t (h1.trans ht)
 case p d gd f xs=>obtain⟨h1,h2⟩:=F5 h.1.1;simp only[Item.dst]at ht;exact h2 t (h1.trans ht)
 case e d gd op=>obtain⟨h1,h2⟩:=F5 h.1.1;simp only[Item.dst]at ht;exact h2 t (h1.trans ht)
 case chk=>simp at h
theorem DInv.passE {F:Fix}(hF:FixOk F){listed:Array Bool}{pre r:List Row}{y:Row}(hI:DInv F listed a w pre (y::r) e H g)(hy:y.2.isE=true)(lA:¬dn listed y.1)(q9:¬flo F.fa y.1=true)
  (eO:∀j,F.anc y.1 j->dn listed j) {v:V} {u:Value} {w':World} {H':Heap} {g':G}
  (cf:DH F.P (r.map Prod.snd) (Df y.2.dst v e) H' F.KP F.K) (aI:Stp H g w H' g' w') (hv:RepV w' g' v u) :
  DInv F (listed.setIfInBounds y.1 true) (a.put y.2.dst u) w' (pre++[y]) r (Df y.2.dst v e) H' g':=by
 obtain⟨ca,lB⟩:=Ft hy;obtain⟨o,ho⟩:=hF.row hI.split ca;have af:y.1<listed.size:=Zaz
 have iF:∀z∈pre,z∈F.L:=λz hz=>Zaa
 have oZ:∀z∈pre,Ig F z y:=λz hz=>Ei hI.split hz ZC;refine⟨by rw[hI.split];simp,cf,hI.stp.trans aI,by rw[(DJ _ _ _).1];exact hI.size,by rw[(DJ _ _ _).2];exact hI.defers,by simp[hI.lsz],?_,?_,?_,?_,?_,?_⟩
 ·intro i hi j hj;rw[CW af]at hi⊢;rcases hi with rfl|hi
  ·exact .inr (eO j hj)
  ·exact .inr (hI.closed i hi j hj)
 ·intro z hz ku;rw[CW af];rcases Jb.1 hz with k|k
  ·exact .inr (hI.eDone z k ku)
  ·simp at k;subst k;exact .inl rfl
 ·intro z hz cM fO;have qv:=hF.pair (GA hI.split hz) ca cM;rw[CW af]at fO;obtain⟨k1,k2⟩:=hI.postDone z Za5 cM (fO.resolve_left (Jau qv.ne));exact⟨k1,k2.mono aI λd hd=>DZ λh=>qv.dst d h hd⟩
 ·intro z hz fk iQ;obtain⟨cM,tA⟩:=G2 fk;rw[CW af]at iQ;have iA:¬dn listed z.1:=λh=>iQ (.inr h);have k:z∈pre:=by
   rcases Jb.1 hz with k|k
   ·exact k
   ·simp at k;subst k;rw[lB]at fk;simp at fk
  have hp:=hF.pair (oZ z k) cM ca;by_cases hh:z.2.hf=true
  ·right;rcases hI.pend z k fk iA with h|h
   ·have:=(Ke h).1;rw[ca]at this;simp at this
   ·obtain⟨o',x,ei,u',p1,p2,p3,p4,p5,p6,p7,p8⟩:=h;refine⟨o',x,ei,u',p1,p2,p3,p4,p5,p6.hcongr (p5 hh),?_,?_⟩
    ·intro d hd;rw[I4 λh=>hp.dst d hd h];exact p7 d hd
    ·intro t ht;obtain⟨q1,q2⟩:=p8 t ht;have jg:y.2.dst≠some t:=λh=>by
      have:=hp.war t h ht;exact iA (eO _ this)
     have hb:∀z',Ea F (listed.setIfInBounds y.1 true) (pre++[y]) z t z'↔Ea F listed pre z t z':=by
      intro z';constructor
      ·rintro⟨b1,b2,b3,b4,b5⟩;rw[CW af]at b3;refine⟨?_,b2,λh=>b3 (.inr h),b4,b5⟩;rcases Jb.1 b1 with b|b
       ·exact b
       ·simp at b;subst b;exact absurd b4 jg
      ·rintro⟨b1,b2,b3,b4,b5⟩;refine⟨by simp[b1],b2,?_,b4,b5⟩;rw[CW af];rintro (h|h)
       ·exact (hF.pair (oZ z' b1) b2 ca).ne h
       ·exact b3 h
     simp only[hb,I4 jg,DZ jg];exact⟨q1,λh=>(q2 h).mono aI.le⟩
  ·left;have:=ho.cover hy z k cM (by simpa using hh);refine this ?_
   cases hx:(F.ms.getD y.1 0).testBit z.1 with
   |false=>rfl
   |true=>exact absurd (eO _ hx) iA
 ·intro t;by_cases ht:y.2.dst=some t
  ·right;right;rw[N3 ht,FX ht ZaT];exact hv
  ·rw[I4 ht,DZ ht];rcases hI.temps t with ⟨y',k1,k2,k3,k4⟩|⟨y',k1,k2,k3,k4,k5⟩|k
   ·refine .inl ⟨y',ZaG,k2,?_,k4⟩;rw[CW af];rintro (h|h)
    ·exact (hF.pair (oZ y' k1) k2 ca).ne h
    ·exact k3 h
   ·rcases Ji.1 k1 with h|h
    ·subst h;exact absurd k3 q9
    ·exact .inr (.inl ⟨y',h,k2,k3,(CW af).2 (.inr k4),k5⟩)
   ·exact .inr (.inr (k.mono aI.le))
 ·intro y' eQ z' dt gM f0 jN fO be d d' hd dj;have p1:=hF.pair (GA hI.split eQ) ca gM;have p2:=hF.pair (GA hI.split dt) ca f0;rw[CW af]at jN fO;rw[DZ λh=>p1.dst d h hd,DZ λh=>p2.dst d' h dj];exact hI.ne y' (by simp[eQ]) z' (by simp[dt]) gM f0 (jN.resolve_left (Jau p1.ne)) (fO.resolve_left (Jau p2.ne)) be d d' hd dj
theorem DInv.passFa {F:Fix}(hF:FixOk F){pre r:List Row}{y:Row}(hI:DInv F listed a w pre (y::r) e H g)(ca:y.2.aR=false)(lA:dn listed y.1) :
  ∃e' H',DInv F listed a w (pre++[y]) r e' H' g:=by
 obtain⟨q9,qo⟩:=hI.postDone y ZC ca lA;obtain⟨d,cells,l,h1,h2,h3,h4⟩:=YV hI.stp qo;obtain⟨d0,Fu,l0,b0,sz0,T0,cs0,e1,e2,e3,e4,e5,e6,e7,e8,e9⟩:=qo.ok;obtain⟨o,ho⟩:=hF.row hI.split ca;have hy:y.2.isE=true:=Zbq
 have lB:=(Ft hy).2;have jN:y.2.dst=some d:=Zbq
 have oZ:∀z∈pre,Ig F z y:=λz hz=>Ei hI.split hz ZC;have cf:=hI.rest;simp only[Js,h1,DH,gdO,gdB,true_and,EOp.eff]at cf;have rm:=cf.1 trivial l h2;refine⟨Df (some d) (Up l) e,H.set l (.st cells),?_⟩;refine⟨by rw[hI.split];simp,rm,h3,hI.size,hI.defers,hI.lsz,hI.closed,?_,?_,?_,?_,λy' eQ z' dt=>hI.ne y' (by simp[eQ]) z' (by simp[dt])⟩
 ·intro z hz ku;rcases Jb.1 hz with k|k
  ·exact hI.eDone z k ku
  ·simp at k;subst k;exact lA
 ·intro z hz cM fO;obtain⟨k1,k2⟩:=hI.postDone z Za5 cM fO;refine⟨k1,k2.other h4 λd' dj=>?_⟩;exact hI.ne y ZC z Za5 ca cM lA fO (hF.pair (GA hI.split hz) ca cM).ne d d' jN dj
 ·intro z hz fk iQ;obtain⟨cM,tA⟩:=G2 fk;have k:z∈pre:=by
   rcases Jb.1 hz with k|k
   ·exact k
   ·simp at k;subst k;rw[lB]at fk;simp at fk
  have hp:=hF.pair (oZ z k) cM ca;by_cases hh:z.2.hf=true
  ·right;rcases hI.pend z k fk iQ with h|h
   ·have:=(Ke h).1;rw[ca]at this;simp at this
   ·obtain⟨o',x,ei,u',p1,p2,p3,p4,p5,p6,p7,p8⟩:=h;refine⟨o',x,ei,u',p1,p2,p3,p4,p5,p6.hcongr (p5 hh),?_,?_⟩
    ·intro d' dj;rw[I4 λh=>hp.dst d' dj (by rw[jN];exact h)];exact p7 d' dj
    ·intro t ht;obtain⟨q1,q2⟩:=p8 t ht;have jg:some d≠some t:=λh=>by
      have:=hp.war t (by rw[jN];exact h) ht;exact iQ (hI.closed _ lA _ this)
     have hb:∀z',Ea F listed (pre++[y]) z t z'↔Ea F listed pre z t z':=by
      intro z';constructor
      ·rintro⟨b1,b2,b3,b4,b5⟩;refine⟨?_,b2,b3,b4,b5⟩;rcases Jb.1 b1 with b|b
       ·exact b
       ·simp at b;subst b;rw[jN]at b4;exact absurd b4 jg
      ·rintro⟨b1,b2⟩;exact⟨by simp[b1],b2⟩
     simp only[hb,I4 jg];exact⟨q1,q2⟩
  ·left;refine ho.cover hy z k cM (by simpa using hh) ?_
   cases hx:(F.ms.getD y.1 0).testBit z.1 with
   |false=>rfl
   |true=>exact absurd (hI.closed _ lA _ hx) iQ
 ·intro t;by_cases ht:some d=some t
  ·right;right;rw[N3 ht];simp at ht;subst ht;exact h4
  ·rw[I4 ht];rcases hI.temps t with ⟨y',k1,k2,k3,k4⟩|⟨y',k1,k2,k3,k4,k5⟩|k
   ·exact .inl ⟨y',ZaG,k2,k3,k4⟩
   ·rcases Ji.1 k1 with h|h
    ·subst h;rw[jN]at k5;exact absurd k5 ht
    ·exact .inr (.inl ⟨y',h,k2,k3,k4,k5⟩)
   ·exact .inr (.inr k)
theorem DInv.doneFl {F:Fix}(hF:FixOk F){pre post:List Row}{y:Row}(hI:DInv F listed a w pre post e H g)(gL:y∈pre)(hy:y.2.isFl=true)(lA:¬dn listed y.1)
  (eO:∀j,F.anc y.1 j->dn listed j) {v:V} {g':G} (sQ:∀d,y.2.dst=some d->lk d e=v)
  (aI:Stp H g w H g' w') (hv:RepV w' g' v u) :
  DInv F (listed.setIfInBounds y.1 true) (a.put y.2.dst u) w' pre post e H g':=by
 obtain⟨ca,AR⟩:=G2 hy;have jD:y∈F.L:=by rw[hI.split];simp[gL]
 obtain⟨A,B,nY⟩:=J2 jD;obtain⟨o,ho⟩:=hF.row nY ca;have af:y.1<listed.size:=Zaz
 have iF:∀z∈pre,z∈F.L:=λz hz=>Zaa
 refine⟨hI.split,hI.rest,hI.stp.trans aI,by rw[(DJ _ _ _).1];exact hI.size,by rw[(DJ _ _ _).2];exact hI.defers,by simp[hI.lsz],?_,?_,?_,?_,?_,?_⟩
 ·intro i hi j hj;rw[CW af]at hi⊢;rcases hi with rfl|hi
  ·exact .inr (eO j hj)
  ·exact .inr (hI.closed i hi j hj)
 ·intro z hz ku;rw[CW af];exact .inr (hI.eDone z hz ku)
 ·intro z hz cM fO;have qv:=hF.pair (Ei hI.split gL hz) ca cM;rw[CW af]at fO;obtain⟨k1,k2⟩:=hI.postDone z hz cM (fO.resolve_left (Jau qv.ne));exact⟨k1,k2.mono aI λd hd=>DZ λh=>qv.dst d h hd⟩
 ·intro z hz fk iQ;obtain⟨cM,tA⟩:=G2 fk;rw[CW af]at iQ;have iA:¬dn listed z.1:=λh=>iQ (.inr h);have qv:z≠y:=λh=>iQ (.inl (by rw[h]));rcases hI.pend z hz fk iA with h|h
  ·exact .inl h
  ·right;obtain⟨o',x,ei,u',p1,p2,p3,p4,p5,p6,p7,p8⟩:=h;refine⟨o',x,ei,u',p1,p2,p3,p4,p5,p6,p7,?_⟩;intro t ht;obtain⟨q1,q2⟩:=p8 t ht;have hb:∀z',Ea F (listed.setIfInBounds y.1 true) pre z t z'->Ea F listed pre z t z':=by
    rintro z' ⟨b1,b2,b3,b4,b5⟩;rw[CW af]at b3;exact⟨b1,b2,λh=>b3 (.inr h),b4,b5⟩
   refine⟨λz' dt=>q1 z' (hb z' dt),λb7=>?_⟩;by_cases jg:y.2.dst=some t
   ·have gC:Ea F listed pre z t y:=by
     refine⟨gL,ca,lA,jg,?_⟩;rcases RA jD (iF z hz)with k|k|k
     ·exact absurd k.symm qv
     ·exact (hF.pair k ca cM).raw t jg ht
     ·exact absurd (eO _ ((hF.pair k cM ca).war t jg ht)) iA
    rw[q1 y gC,sQ t jg,FX jg (by rw[hI.size];exact Pf ho.item t jg)];exact hv
   ·rw[DZ jg];refine (q2 λ⟨z',b⟩=>b7 ⟨z',?_⟩).mono aI.le;obtain⟨b1,b2,b3,b4,b5⟩:=b;refine⟨b1,b2,?_,b4,b5⟩;rw[CW af];rintro (h|h)
    ·have:=hF.inj (iF _ b1) jD b2 ca h;subst this;exact jg b4
    ·exact b3 h
 ·intro t;by_cases ht:y.2.dst=some t
  ·right;right;rw[sQ t ht,FX ht ZaT];exact hv
  ·rw[DZ ht];rcases hI.temps t with ⟨y',k1,k2,k3,k4⟩|⟨y',k1,k2,k3,k4,k5⟩|k
   ·refine .inl ⟨y',k1,k2,?_,k4⟩;rw[CW af];rintro (h|h)
    ·have:=hF.inj (iF _ k1) jD k2 ca h;subst this;exact ht k4
    ·exact k3 h
   ·exact .inr (.inl ⟨y',k1,k2,k3,(CW af).2 (.inr k4),k5⟩)
   ·exact .inr (.inr (k.mono aI.le))
 ·intro y' eQ z' dt gM f0 jN fO be d d' hd dj;have p1:=hF.pair (Ei hI.split gL eQ) ca gM;have p2:=hF.pair (Ei hI.split gL dt) ca f0;rw[CW af]at jN fO;rw[DZ λh=>p1.dst d h hd,DZ λh=>p2.dst d' h dj];exact hI.ne y' eQ z' dt gM f0 (jN.resolve_left (Jau p1.ne)) (fO.resolve_left (Jau p2.ne)) be d d' hd dj
theorem DInv.doneFa {F:Fix}(hF:FixOk F){pre post:List Row}{y:Row}(hI:DInv F listed a w pre post e H g)(gL:y∈post)(ca:y.2.aR=false)(q9:flo F.fa y.1=true)(lA:¬dn listed y.1)
  (eO:∀j,F.anc y.1 j->dn listed j) {g':G}
  (aI:Stp H g w H g' w') (hv:Early F.g0 H g' w' (a.put y.2.dst u) y.2) (eX:∀x',Early F.g0 H g w a x'->∀d,x'.dst=some d->a.tmps.getD d undef≠u) :
  DInv F (listed.setIfInBounds y.1 true) (a.put y.2.dst u) w' pre post e H g':=by
 have jD:y∈F.L:=by rw[hI.split];simp[gL]
 obtain⟨A,B,nY⟩:=J2 jD;obtain⟨o,ho⟩:=hF.row nY ca;have af:y.1<listed.size:=Zaz
 have iF:∀z∈pre,z∈F.L:=λz hz=>Zaa
 have fK:∀z∈post,z∈F.L:=λz hz=>Zaa
 refine⟨hI.split,hI.rest,hI.stp.trans aI,by rw[(DJ _ _ _).1];exact hI.size,by rw[(DJ _ _ _).2];exact hI.defers,by simp[hI.lsz],?_,?_,?_,?_,?_,?_⟩
 ·intro i hi j hj;rw[CW af]at hi⊢;rcases hi with rfl|hi
  ·exact .inr (eO j hj)
  ·exact .inr (hI.closed i hi j hj)
 ·intro z hz ku;rw[CW af];exact .inr (hI.eDone z hz ku)
 ·intro z hz cM fO;rw[CW af]at fO;rcases fO with h|h
  ·have:=hF.inj (fK _ hz) jD cM ca h;subst this;exact⟨q9,hv⟩
  ·obtain⟨k1,k2⟩:=hI.postDone z hz cM h;refine⟨k1,k2.mono aI λd hd=>DZ λhh=>?_⟩;have:=hF.injDst (fK _ hz) jD cM ca hd hh;subst this;exact lA h
 ·intro z hz fk iQ;obtain⟨cM,tA⟩:=G2 fk;rw[CW af]at iQ;have iA:¬dn listed z.1:=λh=>iQ (.inr h);rcases hI.pend z hz fk iA with h|h
  ·exact .inl h
  ·right;obtain⟨o',x,ei,u',p1,p2,p3,p4,p5,p6,p7,p8⟩:=h;refine⟨o',x,ei,u',p1,p2,p3,p4,p5,p6,p7,?_⟩;intro t ht;obtain⟨q1,q2⟩:=p8 t ht;have jg:y.2.dst≠some t:=λh=>by
    have:=(hF.pair (Ei hI.split hz gL) cM ca).war t h ht;exact iA (eO _ this)
   have hb:∀z',Ea F (listed.setIfInBounds y.1 true) pre z t z'↔Ea F listed pre z t z':=by
    intro z';constructor
    ·rintro⟨b1,b2,b3,b4,b5⟩;rw[CW af]at b3;exact⟨b1,b2,λh=>b3 (.inr h),b4,b5⟩
    ·rintro⟨b1,b2,b3,b4,b5⟩;refine⟨b1,b2,?_,b4,b5⟩;rw[CW af];rintro (h|h)
     ·exact (hF.pair (Ei hI.split b1 gL) b2 ca).ne h
     ·exact b3 h
   simp only[hb,DZ jg];exact⟨q1,λh=>(q2 h).mono aI.le⟩
 ·intro t;by_cases ht:y.2.dst=some t
  ·exact .inr (.inl ⟨y,gL,ca,q9,(CW af).2 (.inl rfl),ht⟩)
  ·rw[DZ ht];rcases hI.temps t with ⟨y',k1,k2,k3,k4⟩|⟨y',k1,k2,k3,k4,k5⟩|k
   ·refine .inl ⟨y',k1,k2,?_,k4⟩;rw[CW af];rintro (h|h)
    ·exact (hF.pair (Ei hI.split k1 gL) k2 ca).ne h
    ·exact k3 h
   ·exact .inr (.inl ⟨y',k1,k2,k3,(CW af).2 (.inr k4),k5⟩)
   ·exact .inr (.inr (k.mono aI.le))
 ·have qf:∀z'∈post,z'.2.aR=false->dn listed z'.1->z'.1≠y.1->∀d d',y.2.dst=some d->z'.2.dst=some d'->(a.put y.2.dst u).tmps.getD d undef≠(a.put y.2.dst u).tmps.getD d' undef:=by
   intro z' dt f0 fO be d d' hd dj;obtain⟨_,k2⟩:=hI.postDone z' dt f0 fO;rw[FX hd (by rw[hI.size];exact Pf ho.item d hd),DZ λh=>be ZaK];exact λh=>eX _ k2 d' dj h.symm
  intro y' eQ z' dt gM f0 jN fO be d d' hd dj;rw[CW af]at jN fO;by_cases h1:y'.1=y.1
  ·have:=hF.inj (fK _ eQ) jD gM ca h1;subst this;exact qf z' dt f0 (fO.resolve_left λh=>be h.symm) (λh=>be h.symm) d d' hd dj
  ·by_cases h2:z'.1=y.1
   ·have:=hF.inj (fK _ dt) jD f0 ca h2;subst this;exact (qf y' eQ gM (jN.resolve_left h1) h1 d' d dj hd).symm
   ·rw[DZ λh=>h1 (by rw[hF.injDst (fK _ eQ) jD gM ca hd h]),DZ λh=>h2 ZaK];exact hI.ne y' eQ z' dt gM f0 (jN.resolve_left h1) (fO.resolve_left h2) be d d' hd dj
def Ib (listed:Array Bool)(post:List Row):Prop:=post=[]\/∃y r,post=y::r/\y.2.isE=true/\¬dn listed y.1
theorem Ik {F:Fix}(hF:FixOk F){listed:Array Bool}:∀(post pre:List Row) (e:Env) (H:Heap),DInv F listed a w pre post e H g->
  ∃pre' post' e' H',DInv F listed a w pre' post' e' H' g/\Ib listed post'
 |[],pre,e,H,hI=>⟨pre,[],e,H,hI,.inl rfl⟩
 |(i,x)::r,pre,e,H,hI=>by
  have Bm:x.isE=false->x.aR=false->¬dn listed i:=by
   intro hx hc hd;obtain⟨_,qo⟩:=hI.postDone (i,x) ZC hc hd;obtain⟨d,cells,l,b,sz,T,cs,h1,_⟩:=qo.ok;simp only at h1;rw[h1]at hx;simp[Item.isE]at hx
  have cf:=hI.rest
  cases x with
  |chk d gd op=>exact Ik hF r _ e H (hI.passChk hF)
  |f d gd op=>
   simp only[Js,DH]at cf;exact Ik hF r _ _ H (hI.passFl hF rfl _ ⟨cf.1,cf.2.1,rfl⟩ cf.2.2 (Bm rfl rfl))
  |p d gd f xs=>
   simp only[Js,DH]at cf;obtain⟨r1,v,r2,r3⟩:=cf;exact Ik hF r _ _ H (hI.passFl hF rfl _ ⟨r1,v,r2,rfl⟩ r3 (Bm rfl rfl))
  |e d gd op=>
   by_cases hd:dn listed i
   ·obtain⟨e',H',AF⟩:=hI.passFa hF rfl hd;exact Ik hF r _ e' H' AF
   ·exact⟨pre,_,e,H,hI,.inr ⟨_,r,rfl,rfl,hd⟩⟩
theorem Nh {α:Type}{p q:α->Bool}:∀(l:List α),(∀x∈l,q x=true->p x=true)->(∃x∈l,p x=true/\q x=false)->l.countP q<l.countP p
 |[],_,h=>ZH
 |x::r,h1,h2=>by
  have aS:r.countP q<=r.countP p:=List.countP_mono_left λy hy=>h1 y (by simp[hy]);obtain⟨y,hy,k1,k2⟩:=h2;rcases Ji.1 hy with rfl|hy
  ·simp only[Jaw,k1,k2];simp;omega
  ·have:=Nh r (λy hy=>h1 y (by simp[hy])) ⟨y,hy,k1,k2⟩;have hx:=h1 x ZC;simp only[Jaw]
   cases hq:q x with
   |true=>rw[hx hq];simp;omega
   |false=>simp;split <;> omega
def unl (F:Fix)(listed:Array Bool):Nat:=(List.range F.ops.size).countP λi=>!listed.getD i false
theorem LN {F:Fix}(hF:FixOk F){listed:Array Bool}(br:listed.size=F.ops.size)(hr:Region.ready .any F.ops listed=[]):∀(B A:List Row),F.L=A++B->
  (∀y∈A,y.2.aR=false->dn listed y.1)->∀y∈B,y.2.aR=false->dn listed y.1
 |[],A,h,hA,y,hy,hc=>by simp at hy
 |x::r,A,h,hA,y,hy,hc=>by
  have hx:x.2.aR=false->dn listed x.1:=by
   intro qC;obtain⟨o,ho⟩:=hF.row h qC;have af:x.1<listed.size:=by rw[br];exact (Jn.1 ho.op).1
   by_cases hd:dn listed x.1
   ·exact hd
   ·exfalso;have:x.1∈Region.ready .any F.ops listed:=by
     rw[mem_ready];refine⟨?_,o,ho.op,λed vo hb=>?_⟩
     ·simp only[dn]at hd;rw[Jg,Ju af]at hd⊢;simpa using hd
     ·obtain⟨z,hz,h1,h2⟩:=ho.aft ed vo hb;rw[<-h2];exact hA z hz h1
    rw[hr]at this;simp at this
  rcases Ji.1 hy with rfl|hy
  ·exact hx hc
  ·refine LN hF br hr r (A++[x]) (by rw[h];simp) ?_ y hy hc;intro z hz cM;rcases Jb.1 hz with k|k
   ·exact hA z k cM
   ·simp at k;subst k;exact hx cM
theorem LU {F:Fix}(hF:FixOk F){pre post:List Row}(hI:DInv F listed a w pre post e H g)(aI:Ib listed post)(hr:Region.ready .any F.ops listed=[]) :
  Post F.n F.H0 F.g0 F.w0 F.K a w:=by
 have cd:=LN hF hI.lsz hr F.L [] rfl ZC;rcases aI with rfl|⟨y,r,rfl,hy,hd⟩
 ·refine⟨e,H,g,hI.rest,hI.stp,λt=>?_,hI.defers,hI.size⟩;rcases hI.temps t with ⟨y',k1,k2,k3,k4⟩|⟨y',k1,_⟩|k
  ·exact absurd (cd y' (by rw[hI.split];simp[k1]) k2) k3
  ·simp at k1
  ·exact k
 ·exact absurd (cd y Za6 (Ft hy).1) hd
theorem YW {F:Fix}(hF:FixOk F){Q:Exit->Act->World->Prop}(hQ:∀a' w',Post F.n F.H0 F.g0 F.w0 F.K a' w'->Q .normal a' w')(hP:∀v a' w' H' g',F.KP v H'->Stp F.H0 F.g0 F.w0 H' g' w'->a'.defers=[]->a'.tmps.size=F.n->Q (.panic [{ v:=v,recovered:=false }]) a' w') :
  ∀(fuel:Nat) (listed:Array Bool) (a:Act) (w:World) (pre post:List Row) (e:Env) (H:Heap) (g:G),DInv F listed a w pre post e H g->Ib listed post->unl F listed<=fuel->
   wpAny F.P .any F.ops Q fuel listed a w:=by
 intro fuel
 induction fuel with
 |zero=>
  intro listed a w pre post e H g hI aI hu;have hr:Region.ready .any F.ops listed=[]:=by
   rw[List.eq_nil_iff_forall_not_mem];intro i hi;rw[mem_ready]at hi;obtain⟨h1,o,h2,h3⟩:=hi;have af:i<F.ops.size:=(Jn.1 h2).1;have:0<unl F listed:=by
    unfold unl;rw[List.countP_pos_iff];refine⟨i,by simp[af],?_⟩;have fC:i<listed.size:=(by rw[hI.lsz];exact af);rw[Jg,Ju fC]at h1⊢;simpa using h1
   omega
  exact⟨hr,hQ _ _ (LU hF hI aI hr)⟩
 |succ fuel ih=>
  intro listed a w pre post e H g hI aI hu;refine⟨λhr=>hQ _ _ (LU hF hI aI hr),?_⟩;intro i hi;rw[mem_ready]at hi;obtain⟨h1,o,h2,h3⟩:=hi;have af:i<F.ops.size:=(Jn.1 h2).1;have fC:i<listed.size:=by rw[hI.lsz];exact af
  have df:¬dn listed i:=by
   simp only[dn];rw[Jg,Ju fC]at h1⊢;simpa using h1
  have jk:unl F (listed.setIfInBounds i true)<=fuel:=by
   have:unl F (listed.setIfInBounds i true)<unl F listed:=by
    refine Nh _ ?_ ⟨i,by simp[af],?_,?_⟩
    ·intro j hj hq;by_cases hY:i=j
     ·subst hY;simp[fC]at hq
     ·rw[getD_set_ne false hY]at hq;exact hq
    ·simpa[dn]using df
    ·simp[fC]
   omega
  obtain⟨y,jD,ca,jC⟩:=hF.all i af;subst jC;obtain⟨A,B,nY⟩:=J2 jD;obtain⟨o',ho⟩:=hF.row nY ca;have jr:o'=o:=by have:=ho.op;rw[h2]at this;simpa using this.symm
  subst jr;have eO:∀j,F.anc y.1 j->dn listed j:=by
   intro j hj;obtain⟨ed,k1,k2,k3⟩:=ho.anc j hj;rcases k3 with k3|k3
   ·rw[<-k3];exact h3 ed k1 k2
   ·exact hI.closed _ (h3 ed k1 k2) j k3
  have cO:∀a' w' pre' post' e' H' g',DInv F (listed.setIfInBounds y.1 true) a' w' pre' post' e' H' g'->wpAny F.P .any F.ops Q fuel (listed.setIfInBounds y.1 true) a' w':=by
   intro a' w' pre' post' e' H' g' AF;obtain⟨p2,q2,e2,H2,AD,d9⟩:=Ik hF post' pre' e' H' AF;exact ih _ a' w' p2 q2 e2 H2 g' AD d9 jk
  have cr:y∈pre\/y∈post:=by
   have:y∈pre++post:=hI.split▸jD;exact Jb.1 this
  have sh:flo F.fa y.1=true->y∈post->wpOp F.P F.ops Q y.1 (wpAny F.P .any F.ops Q fuel (listed.setIfInBounds y.1 true)) a w:=by
   intro lP gL;refine Qaqd h2 ho.item (ho.isFa lP) hI.stp.sat (λl z hz=>hI.stp.le.io l z hz) hI.size (g0:=F.g0) λu w' g' k1 k2 k3=>?_;exact cO _ _ _ _ _ _ _ (hI.doneFa hF gL ca lP df eO k1 k2 k3)
  rcases cr with gL|gL
  ·
   have je:y.2.isFl=true:=by
    have hE:=hI.eDone y gL;revert hE ca;cases y.2 <;> simp_all[Item.isFl,Item.aR,Item.isE]
   rcases hI.pend y gL je df with h|h
   ·exfalso;rcases aI with rfl|⟨z,r,rfl,hz,_⟩
    ·simp[D9]at h
    ·have:=(Ke h).1;rw[(Ft hz).1]at this;simp at this
   ·obtain⟨o2,x,ei,v,p1,p2,p3,p4,p5,p6,p7,p8⟩:=h;rw[h2]at p1;simp only[Jf]at p1;subst p1;have b7:∀t,¬∃z,Ea F listed pre y t z:=by
     rintro t ⟨z,b1,b2,b3,b4,b5⟩;exact b3 (eO _ b5)
    refine Qa3u (n:=F.n) h2 p2 p6 hI.stp.sat ?_ λu w' g' k1 k2=>?_
    ·intro t;rw[Gj];split
     ·rename_i ht
      rw[p4]at ht;exact (p8 t ht).2 (b7 t)
     ·exact .unk _
    ·rw[p3];exact cO _ _ _ _ _ _ _ (hI.doneFl hF gL je df eO p7 k1 k2)
  ·by_cases lP:flo F.fa y.1=true
   ·exact sh lP gL
   ·rcases aI with rfl|⟨z,r,rfl,hz,fO⟩
    ·simp at gL
    ·have hyz:y=z:=by
      rcases Ji.1 gL with k|k
      ·exact k
      ·exfalso;have:=(hF.pair (GA hI.split k) (Ft hz).1 ca).ord hz lP;exact fO (eO _ this)
     subst hyz;have cf:=hI.rest;have zz:=ho.item;have Bj:=@DInv.passE;obtain⟨yi,yx⟩:=y
     cases yx with
     |e d gd op=>
      simp only[Js,DH]at cf;obtain⟨r1,r2,r3⟩:=cf;refine Qa2z (n:=F.n) h2 zz hI.stp.sat ?_ r1 r2 r3 (λx u w' H' g' k1 k2 k3=>?_) λv w' H' g' k1 k2=>hP v a w' H' g' k1 (hI.stp.trans k2) hI.defers hI.size
      ·intro t;rw[Gj];split
       ·rename_i ht
        rcases hI.temps t with ⟨y',b1,b2,b3,b4⟩|⟨y',b1,b2,b3,b4,b5⟩|k
        ·exfalso;exact b3 (eO _ ((hF.pair (Ei hI.split b1 ZC) b2 ca).raw t b4 ht))
        ·exfalso;rcases Ji.1 b1 with h|h
         ·subst h;exact df b4
         ·have:=(hF.pair (GA hI.split h) ca b2).war t b5 ht;exact df (hI.closed _ b4 _ this)
        ·exact k
       ·exact .unk _
      ·exact cO _ _ _ _ _ _ _ (hI.passE hF hz df lP eO (Ma k1 k3) k2 k3)
     |f=>simp[Item.isE]at hz
     |p=>simp[Item.isE]at hz
     |chk=>simp[Item.isE]at hz
theorem My (hs:Sat H g w)(k:Nat):Stp H g w H g { w with drawn:=k }:=by
 have aS:Le g w g { w with drawn:=k }:=⟨λ_ h=>⟨h,rfl⟩,λ_ _ h=>h,Jaz _,λ_ _ _ h=>h,rfl,rfl,rfl⟩;have hk:∀l,E5 g w g { w with drawn:=k } l:=λl b q hb=>⟨hb,rfl⟩;exact⟨aS,λl _ hn=>⟨hn,λb p hb=>⟨hb,rfl⟩⟩,hs.fresh,hs.names,hs.excl,hs.named,λl=>SatObj.keep_all hs aS hk l⟩
theorem Qaqc {n id:Nat}{K:Env->Heap->Prop}{Q:Exit->Act->World->Prop}(Co:P.follows .mixedOrders=true)(hm:HY P n ops fa ord its=true)(hs:Sat H g w)(he:EnvOk w g e a)(hn:a.tmps.size=n)(hd:a.defers=[])
  (hr:DH P its e H KP K) (hQ:∀a' w',Post n H g w K a' w'->Q .normal a' w') (hP:∀v a' w',Post n H g w (λ_ H'=>KP v H') a' w'->Q (.panic [{ v:=v,recovered:=false }]) a' w'):(Code.region id ops true).wp P Q a w:=by
 simp only[HY,Jj,beq_iff_eq,Jac,List.mem_range,Jak,J5]at hm;obtain⟨⟨⟨m1,m2⟩,m3⟩,m4⟩:=hm;let F:Fix:={ P,n,ops,ms:=HX ops.toList [],fa,L:=ord.zip its,H0:=H,g0:=g,w0:=w,KP,K };have hF:FixOk F:=⟨m3,λi hi=>m4 i hi⟩;have gu:(ord.zip its).map Prod.snd=its:=by
  rw[List.map_snd_zip];omega
 have aI:=My hs (w.drawn+1);have bF:∀i,¬dn (Array.replicate ops.size false) i:=by
  intro i h;simp only[dn,Jg,Array.getElem?_replicate]at h;split at h <;> simp at h
 have hI:DInv F (Array.replicate ops.size false) a { w with drawn:=w.drawn+1 } [] (ord.zip its) e H g:=by
  refine⟨rfl,by rw[gu];exact hr,aI,hn,hd,by simp[F],λi hi=>absurd hi (bF i),ZC,λy _ _ h=>absurd h (bF _),ZC,λt=>?_,λy _ z _ _ _ h=>absurd h (bF _)⟩;exact .inr (.inr ((he t).mono aI.le))
 obtain⟨p2,q2,e2,H2,AD,d9⟩:=Ik hF _ _ _ _ hI;refine wp_region_any Co ?_;refine YW hF hQ (λv a' w' H' g' k1 k2 k3 k4=>hP v a' w' ⟨[],H',g',k1,k2,λt=>.unk _,k3,k4⟩) ops.size _ a _ p2 q2 e2 H2 g AD d9 ?_;exact Nat.le_trans List.countP_le_length (by simp[F])
theorem Qar8 {c:Code}{Q:Exit->Act->World->Prop}(I:Nat->Act->World->Prop)(h₀:∃n,I n a w)
  (round:∀n a w,I n a w->c.wp P (Exit.then (λa' w'=>∃m,m<n/\I m a' w') Q) a w):(Code.loop c).wp P Q a w:=by
 intro b k cs;have key:∀n a w,I n a w->∃e a' w',Q e a' w'/\Arrives P (lone (b.at a (.code c::.inLoop c::k)) cs w) b k cs e a' w':=by
  intro n
  induction n using Nat.strongRecOn with
  |_ n ih=>
   intro a w hI;obtain⟨e,a₁,w₁,hq,eN⟩:=round n a w hI b (.inLoop c::k) cs
   cases e with
   |normal=>
    obtain⟨m,af,hI₁⟩:=hq;obtain⟨e₂,a₂,w₂,hq₂,v7⟩:=ih m af a₁ w₁ hI₁;exact⟨e₂,a₂,w₂,hq₂,.of_steps (Steps.trans eN (.one step_inLoop)) v7⟩
   |exit id=>exact⟨_,a₁,w₁,hq,.pass (x:=.inLoop c) rfl (λ_ _=>.inl ZC) eN⟩
   |goto l=>exact⟨_,a₁,w₁,hq,.pass (x:=.inLoop c) rfl (λ_ _=>.inl ZC) eN⟩
   |ret=>exact⟨_,a₁,w₁,hq,.pass (x:=.inLoop c) rfl (λ_ _=>.inl ZC) eN⟩
   |panic ch=>exact⟨_,a₁,w₁,hq,.pass (x:=.inLoop c) rfl (λ_ _=>.inl ZC) eN⟩
   |outgrown=>exact⟨_,a₁,w₁,hq,.pass (x:=.inLoop c) rfl (λ_ _=>.inl ZC) eN⟩
 obtain⟨n,hn⟩:=h₀;obtain⟨e,a',w',hq,eN⟩:=key n a w hn;exact⟨e,a',w',hq,.of_steps (.one step_loop) eN⟩
def xm:Exit->Option X
 |.normal=>some .nrm
 |.exit id=>some (.exit id)
 |.ret=>some .ret
 |.panic [{ v:=v,recovered:=false,goexit:=false }]=>some (.pan v)
 |_=>none
theorem FR {ch:List PanicEntry}{x:X}(h:xm (.panic ch)=some x):∃v,x=.pan v/\ch=[{ v:=v,recovered:=false }]:=by
 unfold xm at h;split at h <;> simp_all
def Fi (n:Nat)(H:Heap)(g:G)(w:World)(Q:X->Env->Heap->Prop)(x:Exit)(a:Act)(w':World):Prop:=
 ∃x',xm x=some x'/\Post n H g w (Q x') a w'
def mC (P:Program)(n:Nat):Code->SC->Bool
 |c,.seq .gh s=>mC P n c s
 |.skip,.skip=>true
 |.region _ ops false,.reg its _=>mIts P n ops 0 its
 |.region _ ops true,.kr fa ord its _=>HY P n ops fa ord its
 |.seq c d,.seq s t=>mC P n c s&&mC P n d t
 |.cond x c d,.cond y s t=>mO y x&&mC P n c s&&mC P n d t
 |.block i c,.block j s=>i == j&&mC P n c s
 |.loop c,.loop s=>mC P n c s
 |.exit i,.exit j=>i == j
 |.ret,.ret=>true
 |.scope c,.scope s=>mC P n c s
 |.label _,.skip=>true
 |_,_=>false
theorem K1(h:EnvOk w g e a):EnvOk w g (trim ks e) a:=by
 intro t;unfold trim
 induction ks with
 |nil=>exact .unk _
 |cons k ks ih=>
  simp only[Js,lk];split
  ·rename_i ht;subst ht;exact h t
  ·exact ih
theorem Post.trans {n:Nat}{H':Heap}{g':G}{w' w'':World}{K:Env->Heap->Prop}(h:Stp H g w H' g' w')(k:Post n H' g' w' K a w''):Post n H g w K a w'':=by
 obtain⟨e2,H2,g2,k1,k2,k3,k4,k5⟩:=k;exact⟨e2,H2,g2,k1,h.trans k2,k3,k4,k5⟩
theorem Qaqa (Co:P.follows .mixedOrders=true){n:Nat}:∀(s:SC) (c:Code) (Q:X->Env->Heap->Prop) (e:Env) (H:Heap),mC P n c s=true->Cr P s Q e H->
  ∀(g:G) (w:World) (a:Act),Sat H g w->EnvOk w g e a->a.defers=[]->a.tmps.size=n->c.wp P (Fi n H g w Q) a w:=by
 intro s
 induction s with
 |skip=>
  intro c Q e H hm hc g w a hs he hd hn
  cases c with
  |skip=>exact wp_skip ⟨.nrm,rfl,e,H,g,hc,.refl hs,he,hd,hn⟩
  |label l=>exact wp_label ⟨.nrm,rfl,e,H,g,hc,.refl hs,he,hd,hn⟩
  |_=>simp[mC]at hm
 |reg its keep=>
  intro c Q e H hm hc g w a hs he hd hn
  cases c with
  |region id ops dr'=>
   cases dr' with
   |true=>simp[mC]at hm
   |false=>
    simp only[mC]at hm;simp only[Cr]at hc;have hQ:∀a' w',Post n H g w (λe' H'=>Q .nrm (trim keep e') H') a' w'->Fi n H g w Q .normal a' w':=by
     rintro a' w' ⟨e2,H2,g2,k1,k2,k3,k4,k5⟩;exact⟨.nrm,rfl,_,H2,g2,k1,k2,K1 k3,k4,k5⟩
    have hP:∀v a' w',Post n H g w (λ_ H'=>X.panK Q v H') a' w'->Fi n H g w Q (.panic [{ v:=v,recovered:=false }]) a' w':=by
     rintro v a' w' ⟨e2,H2,g2,k1,k2,k3,k4,k5⟩;exact⟨.pan v,rfl,[],H2,g2,k1,k2,λt=>.unk _,k4,k5⟩
    have hl:=Ls its 0 hm;refine wp_region ?_;rw[List.range_eq_range',<-hl,Jav];exact Q1l hQ hP its 0 e H g w a hm (.refl hs) he hn hd hc
  |_=>simp[mC]at hm
 |kr fa ord its keep=>
  intro c Q e H hm hc g w a hs he hd hn
  cases c with
  |region id ops dr'=>
   cases dr' with
   |false=>simp[mC]at hm
   |true=>
    simp only[mC]at hm;simp only[Cr]at hc;have hQ:∀a' w',Post n H g w (λe' H'=>Q .nrm (trim keep e') H') a' w'->Fi n H g w Q .normal a' w':=by
     rintro a' w' ⟨e2,H2,g2,k1,k2,k3,k4,k5⟩;exact⟨.nrm,rfl,_,H2,g2,k1,k2,K1 k3,k4,k5⟩
    have hP:∀v a' w',Post n H g w (λ_ H'=>X.panK Q v H') a' w'->Fi n H g w Q (.panic [{ v:=v,recovered:=false }]) a' w':=by
     rintro v a' w' ⟨e2,H2,g2,k1,k2,k3,k4,k5⟩;exact⟨.pan v,rfl,[],H2,g2,k1,k2,λt=>.unk _,k4,k5⟩
    exact Qaqc Co hm hs he hn hd hc hQ hP
  |_=>simp[mC]at hm
 |seq s t ihs iht=>
  intro c Q e H hm hc g w a hs he hd hn;by_cases hg:s=.gh
  ·subst hg;have fg:mC P n c t=true:=by simpa[mC]using hm
   simp only[Cr]at hc;obtain⟨e1,H1,h1,h2⟩:=hc;obtain⟨g1,k1,k2⟩:=h1 g w (λt=>a.tmps.getD t undef) hs he;refine wp_mono (iht c Q e1 H1 fg h2 g1 w a k1.sat k2 hd hn) ?_;rintro x a' w' ⟨x',q1,q2⟩;exact⟨x',q1,q2.trans k1⟩
  ·cases c with
   |seq c d=>
    have fg:mC P n c s=true/\mC P n d t=true:=by
     cases s <;> first|(exact absurd rfl hg)|simpa[mC]using hm
    simp only[Cr]at hc;refine wp_seq (wp_mono (ihs c _ e H fg.1 hc g w a hs he hd hn) ?_);rintro x a' w' ⟨x',q1,e2,H2,g2,k1,k2,k3,k4,k5⟩
    cases x with
    |normal=>
     simp only[xm,Jf]at q1;subst q1;refine wp_mono (iht d Q e2 H2 fg.2 k1 g2 w' a' k2.sat k3 k4 k5) ?_;rintro x2 a2 w2 ⟨x2',r1,r2⟩;exact⟨x2',r1,r2.trans k2⟩
    |exit id=>
     simp only[xm,Jf]at q1;subst q1;exact⟨_,rfl,e2,H2,g2,k1,k2,k3,k4,k5⟩
    |ret=>
     simp only[xm,Jf]at q1;subst q1;exact⟨_,rfl,e2,H2,g2,k1,k2,k3,k4,k5⟩
    |panic ch=>
     obtain⟨v,rfl,rfl⟩:=FR q1;exact⟨_,rfl,e2,H2,g2,k1,k2,k3,k4,k5⟩
    |_=>simp[xm]at q1
   |_=>cases s <;> first|(exact absurd rfl hg)|simp[mC]at hm
 |cond y s t ihs iht=>
  intro c Q e H hm hc g w a hs he hd hn;cases c <;> simp[mC]at hm
  rename_i x c d
  obtain⟨⟨h1,h2⟩,h3⟩:=hm;simp only[Cr]at hc;obtain⟨b,k1,k2,k3⟩:=hc;have hr:=OD he h1;rw[k1]at hr;have hb:=hr.aN.bA;exact wp_cond_split hb (λpf=>ihs c Q e H h2 (k2 pf) g w a hs he hd hn) (λpf=>iht d Q e H h3 (k3 pf) g w a hs he hd hn)
 |block id s ih=>
  intro c Q e H hm hc g w a hs he hd hn;cases c <;> simp[mC]at hm
  rename_i id' c
  obtain⟨rfl,h2⟩:=hm;simp only[Cr]at hc;refine wp_block (wp_mono (ih c _ e H h2 hc g w a hs he hd hn) ?_);rintro x a' w' ⟨x',q1,e2,H2,g2,k1,k2⟩
  cases x with
  |normal=>
   simp only[xm,Jf]at q1;subst q1;exact⟨.nrm,rfl,e2,H2,g2,k1,k2⟩
  |exit id2=>
   simp only[xm,Jf]at q1;subst q1;simp only[X.inBlock]at k1;simp only[Exit.inBlock];split
   ·rename_i h;subst h;rw[if_pos rfl]at k1;exact⟨.nrm,rfl,e2,H2,g2,k1,k2⟩
   ·rename_i h;rw[if_neg h]at k1;exact⟨.exit id2,rfl,e2,H2,g2,k1,k2⟩
  |ret=>
   simp only[xm,Jf]at q1;subst q1;exact⟨.ret,rfl,e2,H2,g2,k1,k2⟩
  |panic ch=>
   obtain⟨v,rfl,rfl⟩:=FR q1;exact⟨.pan v,rfl,e2,H2,g2,k1,k2⟩
  |_=>simp[xm]at q1
 |loop s ih=>
  intro c Q e H hm hc g w a hs he hd hn;cases c <;> simp[mC]at hm
  rename_i c
  simp only[Cr]at hc;obtain⟨I,⟨m0,h0⟩,rk⟩:=hc;refine Qar8 (λm a' w'=>Post n H g w (I m) a' w') ⟨m0,e,H,g,h0,.refl hs,he,hd,hn⟩ ?_;rintro m a1 w1 ⟨e1,H1,g1,k1,k2,k3,k4,k5⟩;refine wp_mono (ih c _ e1 H1 hm (rk m e1 H1 k1) g1 w1 a1 k2.sat k3 k4 k5) ?_;rintro x a' w' ⟨x',q1,e2,H2,g2,r1,r2,r3,r4,r5⟩
  cases x with
  |normal=>
   simp only[xm,Jf]at q1;subst q1;obtain⟨m',af,hI⟩:=r1;exact⟨m',af,e2,H2,g2,hI,k2.trans r2,r3,r4,r5⟩
  |exit id=>
   simp only[xm,Jf]at q1;subst q1;exact⟨_,rfl,e2,H2,g2,r1,k2.trans r2,r3,r4,r5⟩
  |ret=>
   simp only[xm,Jf]at q1;subst q1;exact⟨_,rfl,e2,H2,g2,r1,k2.trans r2,r3,r4,r5⟩
  |panic ch=>
   obtain⟨v,rfl,rfl⟩:=FR q1;exact⟨_,rfl,e2,H2,g2,r1,k2.trans r2,r3,r4,r5⟩
  |_=>simp[xm]at q1
 |exit id=>
  intro c Q e H hm hc g w a hs he hd hn;cases c <;> simp[mC]at hm;subst hm;exact wp_exit ⟨.exit _,rfl,e,H,g,hc,.refl hs,he,hd,hn⟩
 |ret=>
  intro c Q e H hm hc g w a hs he hd hn;cases c <;> simp[mC]at hm;exact wp_ret ⟨.ret,rfl,e,H,g,hc,.refl hs,he,hd,hn⟩
 |gh=>
  intro c Q e H hm hc g w a hs he hd hn;cases c <;> simp[mC]at hm
 |scope s ih=>
  intro c Q e H hm hc g w a hs he hd hn;cases c <;> simp[mC]at hm
  rename_i c
  simp only[Cr]at hc;refine wp_scope_straight (wp_mono (ih c Q e H hm hc g w a hs he hd hn) ?_);rintro x a' w' ⟨x',q1,q2⟩
  cases x with
  |goto l=>simp[xm]at q1
  |_=>exact⟨x',q1,q2⟩
def mR (P:Program):ResultVar->RS->Bool
 |.tmp t,.tmp t'=>t == t'
 |.cell t ty,.cell t' n agg=>t == t'&&El P ty n agg
 |_,_=>false
def mRs (P:Program):List ResultVar->List RS->Bool
 |[],[]=>true
 |x::r,y::s=>mR P x y&&mRs P r s
 |_,_=>false
def mFn (P:Program)(f:FuncId)(nargs n:Nat)(s:SC)(rs:List RS):Bool:=
 fnOk P f&&(match P.funcs[f]? with
  |some fn=>(match fn.body with
   |some c=>fn.ntmps == n&&decide (nargs<=n)&&mC P n c s&&mRs P fn.results.toList rs
   |none=>false)
  |none=>false)
theorem Qa7d {n:Nat}{x:ResultVar}{y:RS}(hm:mR P x y=true)(hs:Sat H g w)(he:EnvOk w g e a)(ho:y.op.obl true e H) :
  ∃v,(match x with
   |.tmp t=>(pure (a.tmps.getD t undef):Sem Value)
   |.cell t ty=>do loadVar ty (<-asAddr (a.tmps.getD t undef))).run P w=.ok v w/\RepV w g (y.op.val e H) v:=by
 cases x with
 |tmp t=>
  cases y with
  |tmp t'=>
   simp[mR]at hm;subst hm;have hr:=Cz (x:=.t t) (y:=.tmp t) he (by simp[mO]) rfl ho;exact⟨a.tmps.getD t undef,rfl,hr⟩
  |cell=>simp[mR]at hm
 |cell t ty=>
  cases y with
  |tmp=>simp[mR]at hm
  |cell t' n agg=>
   simp only[mR,Jj,beq_iff_eq]at hm;obtain⟨rfl,h2⟩:=hm;obtain⟨d,i,k1,k2,k3,k4,k5⟩:=Kd h2;obtain ⟨v, w', g', r1, r2, r3, _⟩ := s_ld (o := { dst := none, op := .load ty (.tmp t), type := 0, pos := "", after := #[], guard := none }) (x := .t t) (x' := .tmp t) rfl k1 k2 k3 k4 k5 (by simp [mO]) hs he rfl ho
   simp only[RS.op,FOp.obl]at ho;obtain⟨o1,o2,o3,o4,o5⟩:=ho;have xV:=Cz (x:=.t t) (y:=.tmp t) he (by simp[mO]) rfl o1;rw[Dh o2]at xV;obtain⟨b,q,hv,_⟩:=Ob hs xV.aN o3;have iS:a.tmps.getD t undef=.pointer (some ⟨b,q,none⟩):=hv;have cj := Mf (P := P) (o := { dst := none, op := .load ty (.tmp t), type := 0, pos := "", after := #[], guard := none }) (x := .t t) (x' := .tmp t) rfl k1 k2 k3 k4 k5 (by simp [mO]) hs he rfl ⟨o1, o2, o3, o4, o5⟩
   obtain⟨v2,q1,q2⟩:=cj;refine⟨v2,?_,q2⟩;simp only[execOp,Instr.loadAt,Act.eval,iS,Instr.sureAddr,Sem.run_bind,Sem.run_pure,Result.andThen_ok]at q1;simp only[iS,asAddr,Sem.run_bind,Sem.run_pure,Result.andThen_ok]
   cases hl:(loadVar ty ⟨b,q,none⟩).run P w with
   |ok u w2=>rw[hl]at q1;simp at q1;obtain⟨rfl,rfl⟩:=q1;rfl
   |halt h w2=>rw[hl]at q1;simp at q1
def rRun (tmps:Array Value):ResultVar->Sem Value
 |.tmp t=>pure (tmps.getD t undef)
 |.cell a t=>do loadVar t (<-asAddr (tmps.getD a undef))
theorem Qamx{tmps:Array Value}:∀(l:List ResultVar) (vs:List Value),l.length=vs.length->
  (∀(j:Nat) (x:ResultVar) (v:Value),l[j]? = some x->vs[j]? = some v->(rRun tmps x).run P w=.ok v w)->(l.mapM (rRun tmps)).run P w=.ok vs w:=by
 intro l
 induction l with
 |nil=>intro vs hl _;cases vs with
  |nil=>simp
  |cons=>simp at hl
 |cons x r ih=>
  intro vs hl h
  cases vs with
  |nil=>simp at hl
  |cons v vs=>
   have h0:=h 0 x v rfl rfl;have ih':=ih vs Zag λj y u h1 h2=>h (j+1) y u ZX Zab;simp only[List.mapM_cons,Sem.run_bind,h0,Result.andThen_ok,ih',Sem.run_pure]
theorem Qa4p {n:Nat}:∀(l:List ResultVar) (rs:List RS),mRs P l rs=true->Sat H g w->EnvOk w g e a->(∀r∈rs,r.op.obl true e H)->
  ∃vs:List Value,l.length=vs.length/\vs.length=rs.length/\(∀(j:Nat) (x:ResultVar) (v:Value),l[j]? = some x->vs[j]? = some v->(rRun a.tmps x).run P w=.ok v w)/\
   (∀(j:Nat) (x:V) (u:Value),(rs.map λr=>r.op.val e H)[j]? = some x->vs[j]? = some u->RepV w g x u):=by
 intro l
 induction l with
 |nil=>
  intro rs hm hs he ho
  cases rs with
  |nil=>exact⟨[],rfl,rfl,ZC,ZC⟩
  |cons=>simp[mRs]at hm
 |cons x r ih=>
  intro rs hm hs he ho
  cases rs with
  |nil=>simp[mRs]at hm
  |cons y rs=>
   simp only[mRs,Jj]at hm;obtain⟨v,h1,h2⟩:=Qa7d (n:=n) hm.1 hs he (ho y ZC);obtain⟨vs,k1,k2,k3,k4⟩:=ih rs hm.2 hs he λz hz=>ho z Za5;refine⟨v::vs,ZaG,by simp[k2],?_,?_⟩
   ·intro j z u hz hu
    cases j with
    |zero=>
     simp at hz hu;subst hz;subst hu;exact h1
    |succ j=>exact k3 j z u ZaF (by simpa using hu)
   ·intro j z u hz hu
    cases j with
    |zero=>
     simp at hz hu;subst hz;subst hu;exact h2
    |succ j=>exact k4 j z u ZaF (by simpa using hu)
theorem Qarl {fn:Func}(hm:mRs P fn.results.toList rs=true)(hs:Sat H g w)(he:EnvOk w g e a){K:Uk}(ho:Cn rs e H K) :
  ∃v x,(results fn a.tmps).run P w=.ok v w/\K x H/\RepV w g x v:=by
 obtain⟨h1,h2⟩:=ho;obtain⟨vs,k1,k2,k3,k4⟩:=Qa4p (n:=0) _ _ hm hs he h1;have hr:=Qamx (P:=P) (w:=w) (tmps:=a.tmps) _ _ k1 k3;have cH:(results fn a.tmps).run P w=.ok (if h:vs.toArray.size=1 then vs.toArray[0]else .tuple vs.toArray) w:=by
  have:results fn a.tmps=(do let vs <-fn.results.mapM (rRun a.tmps);pure (if h:vs.size=1 then vs[0]else .tuple vs)):=by
   unfold results;rfl
  rw[this,Array.mapM_eq_mapM_toList];simp only[Sem.run_bind,Sem.run_map,hr,Result.andThen_ok,Sem.run_pure]
 by_cases hl:vs.length=1
 ·obtain⟨v,rfl⟩:∃v,vs=[v]:=Jam.mp hl;obtain⟨r,rfl⟩:∃r,rs=[r]:=Jam.mp ZA;exact⟨v,_,by simpa using cH,h2,k4 0 _ v ZC rfl⟩
 ·have br:¬vs.toArray.size=1:=Zag
  rw[dif_neg br]at cH;refine⟨_,.tup (rs.map λr=>r.op.val e H),cH,?_,.tup _ _ (by simp[k2]) k4⟩;split at h2
  ·rename_i r;simp at k2;omega
  ·exact h2
def Q5 (rs:List RS)(K:V->Heap->Prop):X->Env->Heap->Prop
 |.nrm,e,H=>Cn rs e H K
 |.ret,e,H=>Cn rs e H K
 |.exit _,_,_=>False
 |.pan v,_,H=>K (.pn v) H
theorem Qa58:∀(args:List V) (i t:Nat),lk t (zipE i args)=if i<=t then args.getD (t-i) .unk else .unk:=by
 intro args
 induction args with
 |nil=>intro i t;simp[zipE,lk]
 |cons v r ih=>
  intro i t;simp only[zipE,lk,ih];split
  ·rename_i h;subst h;simp
  ·rename_i h
   split
   ·rw[if_pos ZA];have:t-i=(t-(i+1))+1:=ZA;rw[this];simp
   ·rw[if_neg ZA]
theorem Qd (Co:P.follows .mixedOrders=true){n:Nat}{s:SC}{args:List V}
  (hm:mFn P f args.length n s rs=true) (hc:Cr P s (Q5 rs K) (zipE 0 args) H):Qu P f args H K:=by
 simp only[mFn,Jj]at hm;obtain⟨aq,hm⟩:=hm;refine⟨aq,?_⟩;intro g w vs hs hl hv
 cases hf:P.funcs[f]? with
 |none=>rw[hf]at hm;simp at hm
 |some fn=>
  rw[hf]at hm;simp only at hm
  cases hb:fn.body with
  |none=>rw[hb]at hm;simp at hm
  |some c=>
   rw[hb]at hm;simp only[Jj,beq_iff_eq,decide_eq_true_eq]at hm;obtain⟨⟨⟨h1,h2⟩,h3⟩,h4⟩:=hm;refine calls_of_wp hf hb ?_;have he:EnvOk w g (zipE 0 args) { tmps:=vs.toArray++Array.replicate (fn.ntmps-vs.toArray.size) undef,defers:=[] }:=by
    intro t;rw[Qa58,if_pos (Ja0 _),Nat.sub_zero];by_cases ht:t<args.length
    ·have Bc:t<vs.length:=ZA;have hg:(vs.toArray++Array.replicate (fn.ntmps-vs.toArray.size) undef).getD t undef=vs[t]:=by
      simp[Array.getD,Bc,Array.getElem_append];intro h;omega
     rw[hg];exact hv t _ _ (by rw[Je,Jq ht];rfl) (Jq Bc)
    ·rw[Je,List.getElem?_eq_none ZA];exact .unk _
   refine wp_mono (Qaqa Co s c _ (zipE 0 args) H h3 hc g w _ hs he rfl ZF) ?_;rintro x a' w' ⟨x',q1,e2,H2,g2,k1,k2,k3,k4,k5⟩;have key:Cn rs e2 H2 K->a'.defers=[]/\∃v,(results fn a'.tmps).run P w'=.ok v w'/\((∃v' x H' g',Ending.returned v=.returned v'/\K x H'/\Stp H g w H' g' w'/\RepV w' g' x v')\/(∃v' H' g',Ending.returned v=.panicked [{ v:=v',recovered:=false }]/\K (.pn v') H'/\Stp H g w H' g' w')):=by
    intro xX;obtain⟨v,x,r1,r2,r3⟩:=Qarl h4 k2.sat k3 xX;exact⟨k4,v,r1,.inl ⟨v,x,H2,g2,rfl,r2,k2,r3⟩⟩
   cases x with
   |normal=>
    simp only[xm,Jf]at q1;subst q1;exact key k1
   |ret=>
    simp only[xm,Jf]at q1;subst q1;exact key k1
   |exit id=>
    simp only[xm,Jf]at q1;subst q1;exact k1.elim
   |panic ch=>
    obtain⟨v,rfl,rfl⟩:=FR q1;exact⟨k4,.inr ⟨v,H2,g2,rfl,k1,k2⟩⟩
   |_=>simp[xm]at q1
end
variable{x:Nat}
section
variable{e:Env}
def X.sq (P:Program)(b:SC)(Q:X->Env->Heap->Prop):X->Env->Heap->Prop:=X.next (Cr P b Q) Q
theorem Qa5t{x:C}:DQ KP K (.c x) H=K (.c x) H:=rfl
theorem Qa1q{x:List C}:DQ KP K (.ag x) H=K (.ag x) H:=rfl
theorem HU{x:List V}:DQ KP K (.tup x) H=K (.tup x) H:=rfl
theorem Xr:DQ KP K .unk H=K .unk H:=rfl
theorem Qa1r{v:Value}:DQ KP K (.pn v) H=KP v H:=rfl
theorem Qa71:X.sq P b Q .nrm e H=Cr P b Q e H:=rfl
theorem Qa73:X.sq P b Q .ret e H=Q .ret e H:=rfl
theorem Qa5n:X.sq P b Q (.exit i) e H=Q (.exit i) e H:=rfl
theorem Qa6u:X.inBlock i Q .nrm e H=Q .nrm e H:=rfl
theorem Qa6w:X.inBlock i Q .ret e H=Q .ret e H:=rfl
theorem Qa3x:X.inBlock i Q (.exit i) e H=Q .nrm e H:=by simp[X.inBlock]
theorem HO {j:Nat}(h:(j == i)=false):X.inBlock i Q (.exit j) e H=Q (.exit j) e H:=by
 have:j≠i:=ZI
 simp[X.inBlock,this]
theorem Qa28 {a:SC}(h:Cr P a Q e H):Cr P (.scope a) Q e H:=h
theorem Qh {a:SC}(h:Cr P a (X.sq P b Q) e H):Cr P (.seq a b) Q e H:=h
theorem XD {K K':Env->Heap->Prop}:X.next K (X.next K' Q)=X.next K Q:=by
 funext x e H
 cases x <;> rfl
theorem Q1 {a c:SC}(h:Cr P (.seq a (.seq b c)) Q e H):Cr P (.seq (.seq a b) c) Q e H:=by
 simp only[Cr]at h⊢;rw[XD];exact h
theorem Qt{keep:List Nat}(h:regT P its e H (X.panK Q) λe' H'=>Q .nrm (trim keep e') H'):Cr P (.reg its keep) Q e H:=h
theorem C7{keep:List Nat}(h:DH P its e H (X.panK Q) λe' H'=>Q .nrm (trim keep e') H'):Cr P (.kr fa ord its keep) Q e H:=h
theorem Qa{keep:List Nat}(h:regT P its e H (X.panK Q) λe' H'=>Cr P b Q (trim keep e') H'):Cr P (.seq (.reg its keep) b) Q e H:=h
theorem Cv{keep:List Nat}(h:DH P its e H (X.panK Q) λe' H'=>Cr P b Q (trim keep e') H'):Cr P (.seq (.kr fa ord its keep) b) Q e H:=h
theorem Qf {t:Opd}{a:SC}{c:Bool}(hc:t.raw e=.c (.bool c))(h1:c=true->Cr P a Q e H)(h2:c=false->Cr P b Q e H):Cr P (.cond t a b) Q e H:=⟨c,hc,h1,h2⟩
theorem Qe{a:SC}(h:Cr P a (X.inBlock i Q) e H):Cr P (.block i a) Q e H:=h
theorem Qw(h:Q (.exit i) e H):Cr P (.exit i) Q e H:=h
theorem Ql(h:Q .ret e H):Cr P .ret Q e H:=h
theorem Qj(h:Q .nrm e H):Cr P .skip Q e H:=h
theorem Qy {a:SC}(I:Nat->Env->Heap->Prop)(n:Nat)(h0:I n e H)
  (h:∀n e1 H1,I n e1 H1->Cr P a (X.next (λe2 H2=>∃m,m<n/\I m e2 H2) Q) e1 H1):Cr P (.loop a) Q e H:=⟨I,⟨n,h0⟩,h⟩
theorem Vm:gdO e none=True:=rfl
theorem Vn:gdB e none=true:=rfl
theorem Vl {p:Bool}{v:V}:gdV none p v=v:=rfl
theorem Vk {p:Bool}{v:V}{x:Nat×Bool}:gdV (some x) p v=.gd p v:=rfl
theorem Qa1x:trim [] e=[]:=rfl
theorem VD {k:Nat}:trim (k::ks) e=(k,lk k e)::trim ks e:=rfl
theorem Qa1y:(true=true->a)=a:=ZC
theorem Qas2:(false=true->a)=True:=ZC
theorem VC:(true=false->a)=True:=ZC
theorem Qaqg:(false=false->a)=a:=ZC
theorem Qa8i:(a/\True)=a:=ZC
theorem Qa9m:(True/\a)=a:=ZC
theorem Qa9n:(True->a)=a:=ZC
theorem Qa8t:(a->True)=True:=ZC
theorem b_f {b:Bool}:(b == false) = !b:=by cases b <;> rfl
theorem b_t {b:Bool}:(b == true)=b:=by cases b <;> rfl
theorem Vg:(a->a)=True:=ZC
theorem YG {b:Prop}:(a->b->a)=True:=propext ⟨λ_=>trivial,λ_ h _=>h⟩
theorem YF {b:Prop}:(a->a/\b)=(a->b):=propext ⟨λh x=>(h x).2,λh x=>⟨x,h x⟩⟩
theorem Qa3z {b:Prop}:(a->a->b)=(a->b):=ZC
theorem Qamo{p:α->Prop}:(∀x∈([]:List α),p x)=True:=ZC
def Fl (H:Heap)(p:C)(vs:List C)(K:V->Heap->Prop):Prop:=
 match p with
 |.ptr l k=>match H l with
  |.st cells=>k+vs.length<=cells.length/\∀H',H'=H.set l (.st (Fx cells k vs))->K .unk H'
  |_=>False
 |.ep (.ah l sz st n) z i k=>match H l with
  |.vec y rows=>y=sz/\z=sz/\i<n/\st+n<=rows.length/\k+vs.length<=sz/\
    ∀H',H'=H.set l (.vec sz (rows.set (st+i) (Fx (rows.getD (st+i) []) k vs)))->K .unk H'
  |_=>False
 |_=>False
def appQ (H:Heap)(sz:Nat)(a b:C)(K:V->Heap->Prop):Prop:=
 aZ H b/\b.aQ=sz/\match a with
 |.sl true z rows=>z=sz/\(rows=[]\/rowsOf H b≠[])/\(∀r∈rows++rowsOf H b,am r=true)/\rows.length+ay b<=LIM/\
   ∀l,H l=.none->∀H',H'=H.set l (.vec sz (rows++rowsOf H b))->K (.c (.ah l sz 0 (rows.length+ay b))) H'
 |.ah l z st n=>match H l with
  |.vec y rows=>z=sz/\y=sz/\st+n<=rows.length/\(∀r∈rowsOf H b,am r=true)/\n+ay b<=LIM/\
    ∀l',(H.set l .none) l'=.none->∀H',H'=(H.set l .none).set l' (.vec sz ((rows.drop st).take n++rowsOf H b))->
     K (.c (.ah l' sz 0 (n+ay b))) H'
  |_=>False
 |_=>False
def updQ (H:Heap)(tag:Nat)(m k:C)(v:V)(K:V->Heap->Prop):Prop:=
 match m with
 |.mp l=>match H l with
  |.map n es=>DN tag k es/\es.length+1<=LIM/\∀H',H'=H.set l (.map (n+1) (updE k v es))->K .unk H'
  |_=>False
 |_=>False
def delQ (H:Heap)(tag:Nat)(m k:C)(K:V->Heap->Prop):Prop:=
 match m with
 |.mp l=>match H l with
  |.map n es=>DN tag k es/\∀H',H'=H.set l (.map (n+1) (delE k es))->K .unk H'
  |_=>False
 |.mnil=>DN tag k []/\K .unk H
 |_=>False
theorem D4{a:α}{p:α->Prop}:(∀x,x=a->p x)=p a:=propext ⟨λh=>h a rfl,λh x hx=>hx▸h⟩
section
variable{p:Bool}{K:Uk}
theorem Xq {a:C}{vs:List C}:En H a vs K=Fl H a vs K:=by
 cases a with
 |ptr l k=>simp only[En,Fl];cases hh:H l <;> simp only[hh,D4]
 |ep s z i k=>
  cases s with
  |ah l sz st n=>simp only[En,Fl];cases hh:H l <;> simp only[hh,D4]
  |_=>rfl
 |_=>rfl
theorem Qa21{a b:C}:appT H sz a b K=appQ H sz a b K:=by
 unfold appT appQ;refine congrArg (And _) (congrArg (And _) ?_)
 cases a with
 |sl fl z rows=>cases fl <;> simp only[D4]
 |ah l z st n=>simp only[];cases hh:H l <;> simp only[hh,D4]
 |_=>rfl
theorem Qa51{m k:C}{v:V}:updT H tag m k v K=updQ H tag m k v K:=by
 cases m with
 |mp l=>simp only[updT,updQ];cases hh:H l <;> simp only[hh,D4]
 |_=>rfl
theorem Qa3a{m k:C}:delT H tag m k K=delQ H tag m k K:=by
 cases m with
 |mp l=>simp only[delT,delQ];cases hh:H l <;> simp only[hh,D4]
 |_=>rfl
theorem YU {cells:List C}:(EOp.alloc cells).eff P p e H K=∀l,H l=.none->∀H',H'=H.set l (.st cells)->K (Up l) H':=Zaq
theorem VP {a:Opd}:(EOp.boxm a).eff P p e H K=(a.fine p e/\(a.v e).cells≠[]/\∀l,H l=.none->∀H',H'=H.set l (.st (a.v e).cells)->K (Up l) H'):=Zaq
theorem Qa3p {n:Nat}{a v:Opd}:(EOp.sto n a v).eff P p e H K=(a.fine p e/\v.fine p e/\(a.v e).isC/\(v.v e).cells.length=n/\0<n/\Fl H (a.v e).c1 (v.v e).cells K):=by simp only[EOp.eff,Xq]
theorem Qa3h{a b:Opd}:(EOp.app sz a b).eff P p e H K=(a.fine p e/\b.fine p e/\(a.v e).isC/\(b.v e).isC/\appQ H sz (a.v e).c1 (b.v e).c1 K):=by simp only[EOp.eff,Qa21]
theorem Qa3m{n:Opd}:(EOp.mks sz zero n).eff P p e H K=(n.fine p e/\DX (n.v e)/\0<=Ct (n.v e)/\Ct (n.v e)<=LIM/\
   ∀l,H l=.none->∀H',H'=H.set l (.vec sz (List.replicate (Ct (n.v e)).toNat zero))->K (.c (.ah l sz 0 (Ct (n.v e)).toNat)) H'):=Zaq
theorem Qa3l:EOp.mkm.eff P p e H K=∀l,H l=.none->∀H',H'=H.set l (.map 0 [])->K (.c (.mp l)) H':=Zaq
theorem Qa3q{m k v:Opd}:(EOp.upd tag m k v).eff P p e H K=(m.fine p e/\k.fine p e/\v.fine p e/\(m.v e).isC/\(k.v e).isC/\(v.v e).cells≠[]/\updQ H tag (m.v e).c1 (k.v e).c1 (v.v e) K):=by simp only[EOp.eff,Qa51]
theorem Qa3j{m k:Opd}:(EOp.del tag m k).eff P p e H K=(m.fine p e/\k.fine p e/\(m.v e).isC/\(k.v e).isC/\delQ H tag (m.v e).c1 (k.v e).c1 K):=by simp only[EOp.eff,Qa3a]
theorem VM {m:Opd}:(EOp.clrm m).eff P p e H K=(m.fine p e/\match m.v e with
  |.c (.mp l)=>match H l with
   |.map n _=>∀H',H'=H.set l (.map (n+1) [])->K .unk H'
   |_=>False
  |_=>False):=by
 simp only[EOp.eff];refine congrArg (And _) ?_
 cases m.v e with
 |c x=>cases x with
  |mp l=>simp only[];cases hh:H l <;> simp only[hh,D4]
  |_=>rfl
 |_=>rfl
theorem VL{m:Opd}:(EOp.clrs sz zero m).eff P p e H K=(m.fine p e/\match m.v e with
  |.c (.ah l z st n)=>z=sz/\match H l with
   |.vec y rows=>y=sz/\st+n<=rows.length/\∀H',H'=H.set l (.vec sz (rows.take st++List.replicate n zero++rows.drop (st+n)))->K .unk H'
   |_=>False
  |_=>False):=by
 simp only[EOp.eff];refine congrArg (And _) ?_
 cases m.v e with
 |c x=>cases x with
  |ah l z st n=>simp only[];refine congrArg (And _) ?_;cases hh:H l <;> simp only[hh,D4]
  |_=>rfl
 |_=>rfl
theorem VN{args:List Opd}:(EOp.call f args).eff P p e H K=((∀x∈args,x.fine p e)/\Qu P f (args.map λx=>x.v e) H K):=rfl
theorem YT {f:Opd}{args:List Opd}:(EOp.fN f args).eff P p e H K=(f.fine p e/\(∀x∈args,x.fine p e)/\match f.v e with
  |.c (.fn n caps)=>Qu P n ((args.map λx=>x.v e)++caps.map .c) H K
  |_=>False):=rfl
theorem Qa3o {m:Opd}:(EOp.rng m).eff P p e H K=(m.fine p e/\match m.v e with
  |.c (.mp l)=>match H l with
   |.map n es=>es.Nodup/\∀i,H i=.none->∀H',H'=H.set i (.iter (some (l,n)) es none)->K (.c (.itr i)) H'
   |_=>False
  |.c .mnil=>∀i,H i=.none->∀H',H'=H.set i (.iter none [] none)->K (.c (.itr i)) H'
  |_=>False):=by
 simp only[EOp.eff];refine congrArg (And _) ?_
 cases m.v e with
 |c x=>cases x with
  |mp l=>simp only[];cases hh:H l <;> simp only[hh,D4]
  |mnil=>simp only[D4]
  |_=>rfl
 |_=>rfl
theorem VI {a:Opd}:(EOp.rngs a).eff P p e H K=(a.fine p e/\match a.v e with
  |.c (.str s)=>∀i,H i=.none->∀H',H'=H.set i (.sit s 0)->K (.c (.itr i)) H'
  |_=>False):=by
 simp only[EOp.eff];refine congrArg (And _) ?_
 cases a.v e with
 |c x=>cases x with
  |str s=>simp only[D4]
  |_=>rfl
 |_=>rfl
theorem VJ:(EOp.nxts it).eff P p e H K=(it.fine p e/\match it.v e with
  |.c (.itr i)=>match H i with
   |.sit s q=>(s.length<=q->K (.tup [.c (.bool false)]) H)/\
     ∀(c:Int) (wd:Nat),q<s.length->1<=wd->((s.getD q 0).toNat<128->c=((s.getD q 0).toNat:Int)/\wd=1)->(128<=(s.getD q 0).toNat->128<=c)->
      ∀H',H'=H.set i (.sit s (q+wd))->K (.tup [.c (.bool true),Uv q,.c (.int .i32 c)]) H'
   |_=>False
  |_=>False):=by
 simp only[EOp.eff];refine congrArg (And _) ?_
 cases it.v e with
 |c x=>cases x with
  |itr i=>
   simp only[];cases hh:H i <;> simp only[D4]
  |_=>rfl
 |_=>rfl
theorem Qa3n:(EOp.nxt it).eff P p e H K=(it.fine p e/\match it.v e with
  |.c (.itr i)=>match H i with
   |.iter none left _=>K (.tup [.c (.bool false)]) H
   |.iter (some (l,n)) left cur=>(∃es,H l=.map n es)/\(left=[]->K (.tup [.c (.bool false)]) H)/\
     ∀x left',x∈left->(∀y,y∈left'↔y∈left/\y≠x)->left'.Nodup->left'.length+1=left.length->
      ∀H',H'=H.set i (.iter (some (l,n)) left' (some x))->K (.tup [.c (.bool true),.c x.1,x.2]) H'
   |_=>False
  |_=>False):=by
 simp only[EOp.eff];refine congrArg (And _) ?_
 cases it.v e with
 |c x=>cases x with
  |itr i=>
   simp only[]
   cases hh:H i with
   |iter m left cur=>cases m with
    |none=>rfl
    |some y=>simp only[D4]
   |_=>rfl
  |_=>rfl
 |_=>rfl
theorem Qa3k:(EOp.ent it).eff P p e H K=(it.fine p e/\match it.v e with
  |.c (.itr i)=>match H i with
   |.iter (some (l,n)) left (some x)=>(∃es,H l=.map n es)/\K (.tup [.c x.1,x.2]) H
   |_=>False
  |_=>False):=rfl
def cpyQ (H:Heap)(sz:Nat)(a b:C)(K:V->Heap->Prop):Prop:=
 aZ H b/\b.aQ=sz/\match a with
 |.ah l z st n=>match H l with
  |.vec y rows=>z=sz/\y=sz/\st+n<=rows.length/\ay b<=n/\(∀r∈rowsOf H b,am r=true)/\
    ∀H',H'=H.set l (.vec sz (rows.take st++rowsOf H b++rows.drop (st+ay b)))->K (.c (.int .i64 (ay b))) H'
  |_=>False
 |_=>False
theorem Qa29{a b:C}:cpyT H sz a b K=cpyQ H sz a b K:=by
 unfold cpyT cpyQ;refine congrArg (And _) (congrArg (And _) ?_)
 cases a with
 |ah l z st n=>simp only[];cases hh:H l <;> simp only[hh,D4]
 |_=>rfl
theorem Qa3i{a b:Opd}:(EOp.cpy sz a b).eff P p e H K=(a.fine p e/\b.fine p e/\(a.v e).isC/\(b.v e).isC/\cpyQ H sz (a.v e).c1 (b.v e).c1 K):=by simp only[EOp.eff,Qa29]
theorem VO{parts:List Opd}:(EOp.bslm sz parts).eff P p e H K=((∀x∈parts,x.fine p e/\(x.v e).cells.length=sz)/\∀l,H l=.none->∀H',H'=H.set l (.vec sz (parts.map λx=>(x.v e).cells))->K (.c (.ah l sz 0 parts.length)) H'):=Zaq
theorem VK {a:Opd}:(EOp.nilq a).eff P p e H K=(a.fine p e/\match a.v e with
  |.c (.sl _ _ rows)=>∀b:Bool,(b=true->rows=[])->K (.c (.bool b)) H
  |_=>False):=rfl
end
theorem Vc {k:IntKind}{n:Int}:(C.int k n).ai=false:=rfl
theorem YD {b:Bool}:(C.bool b).ai=false:=rfl
theorem TX {s:List UInt8}:(C.str s).ai=false:=rfl
theorem Qa39 {f:Bool}{r:List (List C)}:(C.sl f sz r).ai=false:=rfl
theorem Qa38 {c:List C}:(C.pp c).ai=false:=rfl
theorem Qa34 {c:C}{a k:Nat}:(C.ep c a i k).ai=false:=rfl
theorem YA:C.pnil.ai=false:=rfl
theorem Va {l k:Nat}:(C.ptr l k).ai=false:=rfl
theorem G1 {l a b c:Nat}:(C.ah l a b c).ai=false:=rfl
theorem Qa36 {l:Nat}:(C.mp l).ai=false:=rfl
theorem YB:C.mnil.ai=false:=rfl
theorem TY {n:Nat}:(C.stb n).ai=false:=rfl
theorem TZ {n:Nat}:(C.slb n).ai=false:=rfl
theorem Qa33 {a:Bool}{k:List C}{r:List (List C)}:(C.cm a k r).ai=false:=rfl
theorem Qa35{c:List C}:(C.fn f c).ai=false:=rfl
theorem YC:C.fnil.ai=false:=rfl
theorem Vb {l:Nat}:(C.itr l).ai=false:=rfl
theorem TW:C.unk.ai=false:=rfl
theorem Qa37{r:List (List C)}:(C.ow sz r).ai=true:=rfl
theorem Qa4j {f:Bool}{r:List (List C)}:ay (.sl f sz r)=r.length:=rfl
theorem T4 {l a b c:Nat}:ay (.ah l a b c)=c:=rfl
theorem Qas0 {f:Bool}{r:List (List C)}:(C.sl f sz r).aQ=sz:=rfl
theorem Qaqe {l a b c:Nat}:(C.ah l a b c).aQ=a:=rfl
theorem XW {f:Bool}{r:List (List C)}:rowsOf H (.sl f sz r)=r:=rfl
theorem Qaro {l a st n:Nat}:rowsOf H (.ah l a st n)=match H l with
  |.vec _ rows=>(rows.drop st).take n
  |_=>[]:=rfl
theorem Qa4y {f:Bool}{r:List (List C)}:aZ H (.sl f sz r)=True:=rfl
theorem Qa0f {l st n:Nat}:aZ H (.ah l sz st n)=match H l with
  |.vec z rows=>z=sz/\st+n<=rows.length
  |_=>False:=rfl
section
theorem Qa22 {z:Nat}{rows:List (List C)}{b:C}:appQ H sz (.sl true z rows) b K=(aZ H b/\b.aQ=sz/\z=sz/\(rows=[]\/rowsOf H b≠[])/\(∀r∈rows++rowsOf H b,am r=true)/\rows.length+ay b<=LIM/\
   ∀l,H l=.none->∀H',H'=H.set l (.vec sz (rows++rowsOf H b))->K (.c (.ah l sz 0 (rows.length+ay b))) H'):=rfl
theorem V9 {l z st n:Nat}{b:C}:appQ H sz (.ah l z st n) b K=(aZ H b/\b.aQ=sz/\match H l with
  |.vec y rows=>z=sz/\y=sz/\st+n<=rows.length/\(∀r∈rowsOf H b,am r=true)/\n+ay b<=LIM/\
    ∀l',(H.set l .none) l'=.none->∀H',H'=(H.set l .none).set l' (.vec sz ((rows.drop st).take n++rowsOf H b))->
     K (.c (.ah l' sz 0 (n+ay b))) H'
  |_=>False):=rfl
end
theorem Qa5m {lo hi:Option Int}{rows:List (List C)}:sliC lo hi (.sl fl sz rows)=.sl (fl&&(hi.isNone || rows.isEmpty)) sz ((rows.take (hi.getD rows.length).toNat).drop (lo.getD 0).toNat):=rfl
theorem Qa1n {lo hi:Option Int}{l st n:Nat}:sliC lo hi (.ah l sz st n)=.ah l sz (st+(lo.getD 0).toNat) ((hi.getD n).toNat-(lo.getD 0).toNat):=rfl
attribute [go_sem] Qa3i cpyQ Qa5t Qa1q HU Xr Qa1r b_f b_t Vg YG YF Qa3z regT DH Df lk Vm Vn Vl Vk gdO gdB Opd.v Opd.raw Opd.fine V.bare V.fine FOp.val FOp.obl FOp.fct YU VP Qa3p Qa3h Qa3m Qa3l Qa3q Qa3j VM VL VN YT Qa3o Qa3n VI VJ Qa3k VK VO Qa1x VD
 V.c1 V.isC V.isAg V.cells Et EF fadC binC binO Em am Fl Qa22 V9 updQ delQ zipE IN Qa5m Qa1n bnds Qa4y Qa0f Qa4j T4 XW Qaro Qas0 Qaqe Vc YD TX Qa39 Qa38 Qa34 YA Va G1 Qa36 YB TY TZ Qa33 Qa35 YC Vb TW Qa37 DX FL Ct Gx Qa1y Qas2 VC Qaqg Qa8i Qa9m Qa9n Qa8t
 Qa71 Qa73 Qa5n Qa6u Qa6w Qa3x Js Jaa Fx List.take_succ_cons List.take_zero List.take_nil List.drop_succ_cons Jah List.drop_nil
 List.length_cons Jao J6 J9 List.headD_cons Bool.not_false Bool.not_true Bool.and_true Bool.true_and Bool.and_false Bool.false_and and_self eq_self Bool.false_eq_true J0 Jt Ja0 Jaz not_true_eq_false not_false_eq_true ite_true ite_false ne_eq Option.map_some Option.map_none Option.getD_some Option.getD_none Option.isNone_some Option.isNone_none List.isEmpty_nil List.isEmpty_cons Bool.or_true Bool.true_or Bool.or_false Bool.false_or optI optF Int.toNat_natCast Int.natCast_nonneg Int.add_sub_cancel List.forall_mem_cons Qamo
end
section
abbrev fI (d : Nat) (o : FOp) : Item := .f (some d) none o
abbrev eI (d : Nat) (o : EOp) : Item := .e (some d) none o
abbrev gT (d t : Nat) (o : FOp) : Item := .f (some d) (some (t, true)) o
abbrev gF (d t : Nat) (o : FOp) : Item := .f (some d) (some (t, false)) o
abbrev kI (n : Int) : Opd := .k (.c (.int .i64 n))
abbrev mJ (d a : Nat) : Item := .f (some d) none (.mv (.t a))
abbrev fJ (d n a : Nat) : Item := .f (some d) none (.fad n (.t a))
abbrev lJ (d a : Nat) : Item := .f (some d) none (.ld 1 false (.t a))
abbrev tJ (d n a : Nat) : Item := .f (some d) none (.ld n true (.t a))
abbrev nJ (d a : Nat) : Item := .f (some d) none (.len (.t a))
abbrev kJ (d a : Nat) : Item := .f (some d) none (.nck (.t a))
abbrev oJ (d a : Nat) : Item := .f (some d) none (.not (.t a))
abbrev iJ (d n a b : Nat) : Item := .f (some d) none (.iad n (.t a) (.t b))
abbrev bJ (d : Nat) (o : BinOp) (a b : Nat) : Item := .f (some d) none (.bin 0 o (.t a) (.t b))
abbrev cJ (d : Nat) (o : BinOp) (a : Nat) (n : Int) : Item := .f (some d) none (.bin 0 o (.t a) (.k (.c (.int .i64 n))))
abbrev gTm (d g a : Nat) : Item := .f (some d) (some (g, true)) (.mv (.t a))
abbrev gFm (d g a : Nat) : Item := .f (some d) (some (g, false)) (.mv (.t a))
abbrev gTf (d g n a : Nat) : Item := .f (some d) (some (g, true)) (.fad n (.t a))
abbrev gFf (d g n a : Nat) : Item := .f (some d) (some (g, false)) (.fad n (.t a))
abbrev gTl (d g a : Nat) : Item := .f (some d) (some (g, true)) (.ld 1 false (.t a))
abbrev gFl (d g a : Nat) : Item := .f (some d) (some (g, false)) (.ld 1 false (.t a))
abbrev aJ (d f : Nat) (l : List Opd) : Item := .e (some d) none (.call f l)
abbrev sJ (k a b : Nat) : Item := .e none none (.sto k (.t a) (.t b))
abbrev fB (d : Nat) (b : Bool) : Item := .f (some d) none (.mv (.k (.c (.bool b))))
abbrev zJ (d : Nat) (n : Int) : Item := .f (some d) none (.mv (.k (.c (.int .i64 n))))
abbrev hJ (d a : Nat) : Item := .chk d none (.ld 1 false (.t a))
abbrev pT (d a b : Nat) : Item := .f (some d) none (.pick (.t a) (.k (.c (.bool true))) (.t b))
abbrev pF (d a b : Nat) : Item := .f (some d) none (.pick (.t a) (.t b) (.k (.c (.bool false))))
abbrev xJ (d k a b : Nat) : Item := .e (some d) none (.app k (.t a) (.t b))
abbrev vJ (d a : Nat) : Item := .f (some d) none (.box (.t a))
abbrev sR (l : List Item) (k : List Nat) (n : SC) : SC := .seq (.reg l k) n
abbrev cX (t i : Nat) (n : SC) : SC := .seq (.cond (.t t) .skip (.exit i)) n
abbrev bL (i : Nat) (l : SC) : SC := .block i (.loop l)
abbrev cT (t : Nat) (a b : SC) : SC := .cond (.t t) a b
theorem Qa79 : Int.toNat 0 = 0 := rfl
theorem Qa8a : Int.toNat 1 = 1 := rfl
theorem Qa5u : Int.toNat 2000 = 2000 := rfl
attribute [go_sem] sJ fB zJ hJ pT pF xJ vJ mJ fJ lJ tJ nJ kJ oJ iJ bJ cJ gTm gFm gTf gFf gTl gFl aJ fI eI gT gF kI false_implies Qa79 Qa8a Qa5u
universe u
variable{α:Sort u}
def fc (n:Nat)(k:Nat->α):α:=
 match n with
 |0=>k 0
 |m+1=>k (m+1)
def dK (n:Nat)(k:Opd->Nat->α):α:=fc n λn=>
 match n % 16 with
 |0=>k (.k (.c (.int .i64 0))) (n / 16)
 |1=>k (.k (.c (.int .i64 1))) (n / 16)
 |2=>k (.k (.c (.bool false))) (n / 16)
 |3=>k (.k (.c (.bool true))) (n / 16)
 |4=>k (.k (.c (.sl true (n / 16 % 16) []))) (n / 256)
 |5=>k (.t (n / 16 % 256)) (n / 4096)
 |6=>k (.k (.c (.int .i64 (n / 16 % 256:Nat)))) (n / 4096)
 |7=>k (.k (.c (.int .i64 (-1)))) (n / 16)
 |8=>k (.k (.c .pnil)) (n / 16)
 |9=>k (.k (.c (.int .i64 (n / 16 % 65536:Nat)))) (n / 1048576)
 |10=>k (.k (.c .fnil)) (n / 16)
 |_=>k (.k (.c .mnil)) (n / 16)
def dO (d n:Nat)(k:Opd->Nat->α):α:=fc n λn=>
 match n / 8 % 2 with
 |0=>k (.t (d-1-n % 8)) (n / 16)
 |_=>match n % 8 with
  |0=>k (.t (n / 16 % 16)) (n / 256)
  |1=>k (.t (16+n / 16 % 16)) (n / 256)
  |2=>k (.t (32+n / 16 % 16)) (n / 256)
  |3=>k (.t (48+n / 16 % 16)) (n / 256)
  |4=>k (.t (64+n / 16 % 16)) (n / 256)
  |5=>k (.t (80+n / 16 % 16)) (n / 256)
  |6=>k (.t (96+n / 16 % 16)) (n / 256)
  |_=>dK (n / 16) k
def dOs:Nat->Nat->Nat->(List Opd->Nat->α)->α
 |0,_,n,k=>k [] n
 |c+1,d,n,k=>dO d n λx n=>dOs c d n λl n=>k (x::l) n
def dP (n:Nat)(k:BinOp->α):α:=
 match n % 16 with
 |0=>k .add
 |1=>k .sub
 |2=>k .eql
 |3=>k .neq
 |4=>k .lss
 |5=>k .leq
 |6=>k .gtr
 |7=>k .geq
 |8=>k .mul
 |9=>k .quo
 |10=>k .rem
 |11=>k .and
 |12=>k .or
 |_=>k .xor
def dC:Nat->Nat->(List C->Nat->α)->α
 |0,n,k=>k [] n
 |c+1,n,k=>fc n λn=>match n % 16 with
  |0=>dC c (n / 16) λl n=>k (.int .i64 0::l) n
  |1=>dC c (n / 16) λl n=>k (.str []::l) n
  |2=>dC c (n / 16) λl n=>k (.bool false::l) n
  |3=>dC c (n / 16) λl n=>k (.pnil::l) n
  |4=>dC c (n / 16) λl n=>k (.mnil::l) n
  |5=>dC c (n / 16) λl n=>k (.fnil::l) n
  |6=>dC c (n / 16) λl n=>k (.int .u8 0::l) n
  |_=>dC c (n / 256) λl m=>k (.sl true (n / 16 % 16) []::l) m
def dPt:Nat->Nat->Nat->(List (Nat×Nat×Opd)->Nat->α)->α
 |0,_,n,k=>k [] n
 |c+1,d,n,k=>dO d (n / 256) λx m=>dPt c d m λl m=>k ((n % 16,n / 16 % 16,x)::l) m
def dF (t d n:Nat)(k:FOp->Nat->α):α:=fc n λn=>
 match t with
 |0=>dO d n λa n=>k (.mv a) n
 |1=>dO d n λa n=>k (.ld 1 false a) n
 |2=>dO d (n / 16) λa m=>k (.fad (n % 16) a) m
 |3=>dO d (n / 16) λa m=>dO d m λi m=>k (.iad (n % 16) a i) m
 |4=>dO d (n / 16) λa m=>dO d m λb m=>dP n λo=>k (.bin 0 o a b) m
 |5=>dO d n λa n=>k (.len a) n
 |6=>dO d (n / 16) λa m=>k (.ld (n % 16) true a) m
 |7=>dO d n λa n=>k (.nck a) n
 |8=>dO d n λa n=>k (.not a) n
 |9=>dO d n λa n=>k (.box a) n
 |10=>dO d n λa n=>dO d n λb n=>dO d n λc n=>k (.pick a b c) n
 |11=>dO d (n / 16) λa m=>k (.ext a (n % 16)) m
 |12=>dOs (n / 16 % 16) d (n / 256) λl m=>k (.lz (n % 16) l) m
 |13=>dC (n % 16) (n / 16) λz m=>dPt (m % 16) d (m / 16) λl m=>k (.bld z l) m
 |14=>dOs (n / 256 % 16) d (n / 4096) λl m=>k (.mkf (n % 256) l) m
 |_=>dO d (n / 256) λa m=>dO d m λb m=>dP (n / 16) λo=>k (.bin (n % 16) o a b) m
def dE (t d n:Nat)(k:EOp->Nat->α):α:=fc n λn=>
 match t with
 |0=>dOs (n / 256 % 16) d (n / 4096) λl m=>k (.call (n % 256) l) m
 |1=>dO d (n / 16) λa m=>dO d m λb m=>k (.sto (n % 16) a b) m
 |2=>dO d (n / 16) λa m=>dO d m λb m=>k (.app (n % 16) a b) m
 |3=>dC (n % 16) (n / 16) λz m=>k (.alloc z) m
 |4=>dO d (n / 16) λa m=>dOs (n % 16) d m λl m=>k (.fN a l) m
 |_=>dO d n λa m=>k (.boxm a) m
def gdD (n:Nat):Option (Nat×Bool):=some (n / 2,match n % 2 with
 |0=>false
 |_=>true)
def gx {β:Type}(d:β):List β->Nat->β
 |[],_=>d
 |x::_,0=>x
 |_::l,n+1=>gx d l n
def dI (is:List Item)(d n:Nat)(k:Item->Nat->Nat->α):α:=fc n λn=>
 match n % 16 with
 |13=>dE 0 d (n / 16) λo m=>k (.e (some d) none o) (d+1) m
 |14=>dE 1 d (n / 16) λo m=>k (.e none none o) d m
 |15=>match n / 16 % 16 with
  |0=>dF (n / 256 % 16) d (n / 2^20) λo m=>k (.f (some d) (gdD (n / 4096 % 256)) o) (d+1) m
  |1=>dF (n / 256 % 16) d (n / 2^12) λo m=>k (.f (some d) none o) (d+1) m
  |2=>dE (n / 256 % 16) d (n / 2^12) λo m=>k (.e (some d) none o) (d+1) m
  |3=>dE (n / 256 % 16) d (n / 2^20) λo m=>k (.e (some d) (gdD (n / 4096 % 256)) o) (d+1) m
  |4=>dF (n / 256 % 16) d (n / 2^20) λo m=>k (.chk (n / 4096 % 256) none o) d m
  |5=>dF (n / 256 % 16) d (n / 2^28) λo m=>k (.chk (n / 4096 % 256) (gdD (n / 2^20 % 256)) o) d m
  |6=>dE (n / 256 % 16) d (n / 2^20) λo m=>k (.e none (gdD (n / 4096 % 256)) o) d m
  |7=>k (gx (.e none none .mkm) is (n / 256 % 16)) d (n / 4096)
  |_=>k (gx (.e none none .mkm) is (n / 256 % 16)) (d+1) (n / 4096)
 |t=>dF t d (n / 16) λo m=>k (.f (some d) none o) (d+1) m
def dJ (is:List Item)(d n:Nat)(k:Item->Nat->Nat->α):α:=fc n λn=>
 match n % 256 with
 |159=>dI is (n / 256 % 256) (n / 65536) k
 |_=>dI is d n k
def dL (ts:List (List Item))(is:List Item):Nat->Nat->Nat->(List Item->Nat->α)->α
 |0,_,n,k=>match n % 16 with
  |0=>k [] (n / 16)
  |t=>k (gx [] ts (t-1)) (n / 16)
 |c+1,d,n,k=>dJ is d n λx d n=>dL ts is c d n λl n=>k (x::l) n
def dQ (n:Nat)(k:Nat->Nat->α):α:=fc n λn=>
 match n % 16 with
 |15=>k (n / 16 % 256) (n / 4096)
 |c=>k c (n / 16)
def dLs (ts:List (List Item))(is:List Item)(n:Nat)(k:List Item->Nat->α):α:=
 dQ n λc n=>dL ts is c (n % 256) (n / 256) k
def dN:Nat->Nat->Nat->(List Nat->Nat->α)->α
 |0,_,n,k=>k [] n
 |c+1,d,n,k=>fc n λn=>match n % 16 with
  |15=>dN c (n / 16 % 256+1) (n / 4096) λl m=>k ((n / 16 % 256)::l) m
  |x=>dN c (d+x+1) (n / 16) λl m=>k ((d+x)::l) m
def dR:Nat->Nat->List Nat
 |0,_=>[]
 |c+1,i=>i::dR c (i+1)
def dX:Nat->Nat->(List Nat->Nat->α)->α
 |0,n,k=>k [] n
 |c+1,n,k=>fc n λn=>dX c (n / 256) λl m=>k ((n % 256)::l) m
def dS (cs:List SC)(ts:List (List Item))(is:List Item):Nat->Nat->(SC->Nat->α)->α
 |0,n,k=>k .skip n
 |f+1,n,k=>fc n λn=>match n % 16 with
  |0=>dLs ts is (n / 16) λl m=>dQ m λc m=>dN c 0 m λkp m=>k (.reg l kp) m
  |1=>dLs ts is (n / 16) λl m=>dQ m λc m=>dN c 0 m λkp m=>dS cs ts is f m λb m=>k (.seq (.reg l kp) b) m
  |2=>dS cs ts is f (n / 16) λa m=>dS cs ts is f m λb m=>k (.seq a b) m
  |3=>dS cs ts is f (n / 4096) λa m=>dS cs ts is f m λb m=>k (.cond (.t (n / 16 % 256)) a b) m
  |4=>dS cs ts is f (n / 4096) λa m=>k (.block (n / 16 % 256) a) m
  |5=>dS cs ts is f (n / 16) λa m=>k (.loop a) m
  |6=>k (.exit (n / 16 % 256)) (n / 4096)
  |7=>k .ret (n / 16)
  |8=>k .skip (n / 16)
  |9=>k (gx .skip cs (n / 16 % 16)) (n / 256)
  |10=>dX (n / 4096 % 256) (n / 2^20) λo m=>dLs ts is m λl m=>dQ m λc m=>dN c 0 m λkp m=>k (.kr (n / 16 % 256) o l kp) m
  |11=>dS cs ts is f (n / 2^20) λb m=>k (.seq (.cond (.t (n / 16 % 256)) .skip (.exit (n / 4096 % 256))) b) m
  |12=>dS cs ts is f (n / 16) λa m=>k (.scope a) m
  |13=>k .gh (n / 16)
  |15=>dQ (n / 4096) λc m=>dLs ts is m λl m=>dQ m λc' m=>dN c' 0 m λkp m=>k (.kr (n / 16 % 256) (dR c 0) l kp) m
  |_=>dOs 1 0 (n / 16) λt m=>dS cs ts is f m λa m=>dS cs ts is f m λb m=>k (.cond (t.headD (.t 0)) a b) m
def Pz (a b:α):Prop:=a=b
theorem dcI {n:Nat}:((no_index (OfNat.ofNat n):Nat):Int)=OfNat.ofNat n:=rfl
abbrev dW (n:Nat)(cs:List SC)(ts:List (List Item))(is:List Item:=[]){c:SC}
  (h:Pz (dS cs ts is 40 n (λc _=>c)) c:=by
   conv=>arg 1;whnf
   dsimp only[gdD,gx,dR,List.headD_cons,Nat.reduceMod,Nat.reduceDiv,Nat.reduceAdd,Nat.reduceSub,Nat.reducePow,dcI];exact rfl):SC:=c
abbrev dZ (n:Nat)(a:SC:=.skip)(t:List Item:=[])(b:SC:=.skip){c:SC}
  (h:Pz (dS [a,b] [t] [] 40 n (λc _=>c)) c:=by
   conv=>arg 1;whnf
   dsimp only[gdD,gx,dR,List.headD_cons,Nat.reduceMod,Nat.reduceDiv,Nat.reduceAdd,Nat.reduceSub,Nat.reducePow,dcI];exact rfl):SC:=c
abbrev dY (n:Nat)(t:List Item:=[])(is:List Item:=[]){c:List Item}
  (h:Pz (dLs [t] is n (λc _=>c)) c:=by
   conv=>arg 1;whnf
   dsimp only[gdD,gx,dR,List.headD_cons,Nat.reduceMod,Nat.reduceDiv,Nat.reduceAdd,Nat.reduceSub,Nat.reducePow,dcI];exact rfl):List Item:=c
attribute [go_sem] dZ dY dW
end
section
variable{g:G}{w:World}{e:Env}
def Obj.used:Obj->Bool
 |.none=>false
 |_=>true
def Heap.frz (H:Heap)(S:Nat->Bool):Heap:=λl=>if S l then .none else H l
def G.frz (g:G)(H:Heap)(S:Nat->Bool):G:=
 { g with
  per:=λb=>g.per b || (match g.own b with
   |some (l,_)=>S l&&(H l).used
   |none=>false)
  own:=λb=>match g.own b with
   |some (l,p)=>if S l&&(H l).used then none else some (l,p)
   |none=>none }
theorem OK (H:Heap)(S:Nat->Bool)(g:G)(w:World):Le g w (g.frz H S) w:=
 ⟨λb h=>⟨by simp[G.frz,h],rfl⟩,λ_ _ h=>h,Jaz _,λ_ _ _ h=>h,rfl,rfl,rfl⟩
theorem IZ{m:Nat}(hm:¬(S m=true/\(H m).used=true)):E5 g w (g.frz H S) w m:=by
 intro b q hb;refine⟨?_,rfl⟩;have:¬(S m&&(H m).used)=true:=ZaX
 simp only[G.frz,hb];rw[if_neg this]
theorem Gd (hs:Sat H g w)(S:Nat->Bool):Stp H g w (H.frz S) (g.frz H S) w:=by
 have aS:=OK H S g w;refine⟨aS,λm hm hn=>?_,⟨λb hb=>?_,hs.names,λb x hb=>?_,λb m p hb=>?_,λm=>?_⟩⟩
 ·refine⟨by simp only[Heap.frz,hn];split <;> rfl,?_⟩;exact IZ (by rw[hn];simp[Obj.used])
 ·obtain⟨h1,h2⟩:=hs.fresh b hb;simp[G.frz,h1,h2]
 ·have aW:(match g.own b with
   |some (l,p)=>if S l&&(H l).used then none else some (l,p)
   |none=>none)=some x:=hb
  show (g.per b || (match g.own b with
   |some (l,_)=>S l&&(H l).used
   |none=>false))=false
  cases ho:g.own b with
  |none=>rw[ho]at aW;simp at aW
  |some y=>
   obtain⟨l,p⟩:=y;rw[ho]at aW;simp only at aW⊢;have:=hs.excl b _ ho;by_cases hx:(S l&&(H l).used)=true
   ·rw[if_pos hx]at aW;simp at aW
   ·simp[this,hx]
 ·have aW:(match g.own b with
   |some (l,p)=>if S l&&(H l).used then none else some (l,p)
   |none=>none)=some (m,p):=hb
  cases ho:g.own b with
  |none=>rw[ho]at aW;simp at aW
  |some y=>
   obtain⟨l,q⟩:=y;rw[ho]at aW;simp only at aW;by_cases hx:(S l&&(H l).used)=true
   ·rw[if_pos hx]at aW;simp at aW
   ·rw[if_neg hx]at aW;simp at aW;obtain⟨rfl,rfl⟩:=aW;exact hs.named b _ _ ho
 ·by_cases hS:S m=true
  ·simp[Heap.frz,hS,SatObj]
  ·have ey:H.frz S m=H m:=by simp[Heap.frz,hS]
   have hk:E5 g w (g.frz H S) w m:=IZ (by simp[hS]);refine SatObj.keep (H':=H.frz S) hs aS hk ey λm' v left cur hc v' es hv=>?_;by_cases nE:S m'=true
   ·simp[Heap.frz,nE]at hv
   ·have:H.frz S m'=H m':=(by simp[Heap.frz,nE]);rw[this]at hv;exact .inl ⟨hv,IZ (by simp[nE])⟩
inductive FrzC (H:Heap)(S:Nat->Bool):C->C->Prop
 |same (c:C) (h:c.ai=false):FrzC H S c c
 |sl (fl:Bool) (sz:Nat) (rows rows':List (List C)) (hl:rows'.length=rows.length) (hr:∀(i:Nat) (r r':List C),rows[i]? = some r->rows'[i]? = some r'->r'.length=r.length)
   (hc:∀(i:Nat) (r r':List C) (j:Nat) (c c':C),rows[i]? = some r->rows'[i]? = some r'->r[j]? = some c->r'[j]? = some c'->FrzC H S c c'):FrzC H S (.sl fl sz rows) (.sl false sz rows')
 |pp (cells cells':List C) (hl:cells'.length=cells.length) (hc:∀(j:Nat) (c c':C),cells[j]? = some c->cells'[j]? = some c'->FrzC H S c c'):FrzC H S (.pp cells) (.pp cells')
 |ah (l sz st n:Nat) (all rows rows':List (List C)) (hS:S l=true) (hH:H l=.vec sz all) (hb:st+n<=all.length) (b9:rows=(all.drop st).take n)
   (hl:rows'.length=rows.length) (hr:∀(i:Nat) (r r':List C),rows[i]? = some r->rows'[i]? = some r'->r'.length=r.length)
   (hc:∀(i:Nat) (r r':List C) (j:Nat) (c c':C),rows[i]? = some r->rows'[i]? = some r'->r[j]? = some c->r'[j]? = some c'->FrzC H S c c'):FrzC H S (.ah l sz st n) (.sl false sz rows')
 |ptr (l k:Nat) (all cells cells':List C) (hS:S l=true) (hH:H l=.st all) (nu:cells=all.drop k) (hl:cells'.length=cells.length)
   (hc:∀(j:Nat) (c c':C),cells[j]? = some c->cells'[j]? = some c'->FrzC H S c c'):FrzC H S (.ptr l k) (.pp cells')
 |ow (sz:Nat) (rows rows':List (List C)) (hl:rows'.length=rows.length) (hr:∀(i:Nat) (r r':List C),rows[i]? = some r->rows'[i]? = some r'->r'.length=r.length)
   (hc:∀(i:Nat) (r r':List C) (j:Nat) (c c':C),rows[i]? = some r->rows'[i]? = some r'->r[j]? = some c->r'[j]? = some c'->FrzC H S c c'):FrzC H S (.ow sz rows) (.sl false sz rows')
theorem CY{l l':List α}(h:l'.length=l.length){x:α}(hx:l'[i]? = some x):∃y,l[i]? = some y:=by
 have:i<l'.length:=(Jx.1 hx).1;exact⟨l[i]'ZA,Jq ZA⟩
theorem Hz{b l:Nat}{p:List Nat}(ho:g.own b=some (l,p))(hS:S l=true)(hu:(H l).used=true):(g.frz H S).per b=true:=by
 simp[G.frz,ho,hS,hu]
theorem Hy (hs:Sat H g w){c c':C}(h:FrzC H S c c') :
  (∀v,RepC w g c v->RepC w (g.frz H S) c' v)/\∀l p v,S l=true->(H l).used=true->RepO w g l p c v->RepC w (g.frz H S) c' v:=by
 have aS:=OK H S g w
 induction h with
 |same c h=>
  refine⟨λv hv=>hv.mono aS,λl p v _ _ hv=>?_⟩;exact (hv.plain_of λsz rows hc=>by subst hc;simp[C.ai]at h).mono aS
 |sl fl sz rows rows' hl hr hc ih=>
  have key:∀v,RepC w g (.sl fl sz rows) v->RepC w (g.frz H S) (.sl false sz rows') v:=by
   intro v hv
   cases hv with
   |ce _ _ ad=>
    have:rows'=[]:=Jz.1 Zag;subst this;exact .ce _ _ _
   |sl _ _ _ b off cap val h1 h2 h3 h4 h5 h6 h7=>
    rw[<-hl]at h1 h2 h3⊢;refine .sl false sz rows' b off cap val h1 ZC h3 (aS.per b h4).1 (λi r' bd=>?_) (λi r' j c' bd cA=>?_) (λi r' j c' bd cA=>?_)
    ·obtain⟨r,bI⟩:=CY hl bd;rw[hr i r r' bI bd];exact h5 i r bI
    ·obtain⟨r,bI⟩:=CY hl bd;obtain⟨c,dk⟩:=CY (hr i r r' bI bd) cA;exact h6 i r j c bI dk
    ·obtain⟨r,bI⟩:=CY hl bd;obtain⟨c,dk⟩:=CY (hr i r r' bI bd) cA;exact (ih i r r' j c c' bI bd dk cA).1 _ (h7 i r j c bI dk)
  exact⟨key,λl p v _ _ hv=>key v (hv.plain_of λ_ _ hc=>Zbr)⟩
 |pp cells cells' hl hc ih=>
  have key:∀v,RepC w g (.pp cells) v->RepC w (g.frz H S) (.pp cells') v:=by
   intro v hv
   cases hv with
   |pp _ b off val h1 h2 h3=>
    refine .pp cells' b off val (aS.per b h1).1 (λj c' cA=>?_) (λj c' cA=>?_)
    ·obtain⟨c,dk⟩:=CY hl cA;exact h2 j c dk
    ·obtain⟨c,dk⟩:=CY hl cA;exact (ih j c c' dk cA).1 _ (h3 j c dk)
  exact⟨key,λl p v _ _ hv=>key v (hv.plain_of λ_ _ hc=>Zbr)⟩
 |ah l sz st n all rows rows' hS hH hb b9 hl hr hc ih=>
  have key:∀v,RepC w g (.ah l sz st n) v->RepC w (g.frz H S) (.sl false sz rows') v:=by
   intro v hv;have ak:rows.length=n:=by rw[b9];simp;omega
   cases hv with
   |bO _ _ _ ad=>
    have:rows'=[]:=Jz.1 ZA;subst this;exact .ce _ _ _
   |ah _ _ _ _ cap b base T m h1 h2 h3 h4=>
    have bf:=hs.objs l;rw[hH]at bf;obtain⟨b',base',T',cs,val,r1,r2,r3,r4,r5,r6,r7,r8⟩:=SatVec.of bf h1;rw[h1]at r1;simp only[Jf,Jaj,true_and]at r1;obtain⟨rfl,rfl⟩:=r1;have du:=Hz (g:=g) (H:=H) r2 hS Zbs;have bC:∀(i:Nat) (r:List C),rows[i]? = some r->all[st+i]? = some r:=by
     intro i r hi;rw[b9,List.getElem?_take]at hi;split at hi
     ·rw[Jas]at hi;exact hi
     ·simp at hi
    have hn:n=rows'.length:=ZA;rw[hn]at h2⊢;refine .sl false sz rows' b (base+st * sz) cap (λi j=>val (st+i) j) ZA ZC h2 du (λi r' bd=>?_) (λi r' j c' bd cA=>?_) (λi r' j c' bd cA=>?_)
    ·obtain⟨r,bI⟩:=CY hl bd;rw[hr i r r' bI bd];exact r6 _ r (bC i r bI)
    ·obtain⟨r,bI⟩:=CY hl bd;obtain⟨c,dk⟩:=CY (hr i r r' bI bd) cA;rw[FJ r3,show base+st * sz+i * sz+j=base+(st+i) * sz+j by rw[Nat.add_mul];omega];exact r7 _ r j c (bC i r bI) dk
    ·obtain⟨r,bI⟩:=CY hl bd;obtain⟨c,dk⟩:=CY (hr i r r' bI bd) cA;exact (ih i r r' j c c' bI bd dk cA).2 l _ _ hS Zbs (r8 _ r j c (bC i r bI) dk)
  exact⟨key,λl p v _ _ hv=>key v (hv.plain_of λ_ _ hc=>Zbr)⟩
 |ptr l k all cells cells' hS hH nu hl hc ih=>
  have key:∀v,RepC w g (.ptr l k) v->RepC w (g.frz H S) (.pp cells') v:=by
   intro v hv
   cases hv with
   |ptr _ _ b sz base h1=>
    have bf:=hs.objs l;rw[hH]at bf;obtain⟨b',sz',T,cs,r1,r2,r3,r4,r5⟩:=bf;rw[h1]at r1;simp only[Jf,Jaj]at r1;obtain⟨rfl,rfl,rfl⟩:=r1;have du:=Hz (g:=g) (H:=H) r2 hS Zbs;have bC:∀(j:Nat) (c:C),cells[j]? = some c->all[k+j]? = some c:=by
     intro j c hj;rw[nu,Jas]at hj;exact hj
    have lQ:∀(j:Nat) (c:C),all[j]? = some c->cs[j]? = some (cs.getD j undef):=by
     intro j c hj;have af:j<cs.size:=(by rw[r4];exact (Jx.1 hj).1);rw[Ju af,Jg,Ju af];rfl
    refine .pp cells' b (0+k) (λj=>cs.getD (k+j) undef) du (λj c' cA=>?_) (λj c' cA=>?_)
    ·obtain⟨c,dk⟩:=CY hl cA;rw[FJ r3,show 0+k+j=k+j by omega];exact lQ _ c (bC j c dk)
    ·obtain⟨c,dk⟩:=CY hl cA;exact (ih j c c' dk cA).2 l _ _ hS Zbs (r5 _ c _ (bC j c dk) (lQ _ c (bC j c dk)))
  exact⟨key,λl p v _ _ hv=>key v (hv.plain_of λ_ _ hc=>Zbr)⟩
 |ow sz rows rows' hl hr hc ih=>
  refine⟨λv hv=>(by cases hv),λl p v hS hu hv=>?_⟩
  cases hv with
  |plain _ _ _ h=>cases h
  |ownil _ _ ad=>
   have:rows'=[]:=Jz.1 Zag;subst this;exact .ce _ _ _
  |ow _ _ _ b off cap T cs val h1 h2 h3 h4 h5 h6 h7 h8=>
   have du:=Hz (g:=g) (H:=H) h3 hS hu;rw[<-hl]at h1 h2⊢;refine .sl false sz rows' b off cap val h1 ZC h2 du (λi r' bd=>?_) (λi r' j c' bd cA=>?_) (λi r' j c' bd cA=>?_)
   ·obtain⟨r,bI⟩:=CY hl bd;rw[hr i r r' bI bd];exact h6 i r bI
   ·obtain⟨r,bI⟩:=CY hl bd;obtain⟨c,dk⟩:=CY (hr i r r' bI bd) cA;rw[FJ h4];exact h7 i r j c bI dk
   ·obtain⟨r,bI⟩:=CY hl bd;obtain⟨c,dk⟩:=CY (hr i r r' bI bd) cA;exact (ih i r r' j c c' bI bd dk cA).2 l _ _ hS hu (h8 i r j c bI dk)
inductive FrzV (H:Heap)(S:Nat->Bool):V->V->Prop
 |c (a b:C) (h:FrzC H S a b):FrzV H S (.c a) (.c b)
 |ag (cs cs':List C) (hl:cs'.length=cs.length) (h:∀(j:Nat) (c c':C),cs[j]? = some c->cs'[j]? = some c'->FrzC H S c c'):FrzV H S (.ag cs) (.ag cs')
 |tup (xs xs':List V) (hl:xs'.length=xs.length) (h:∀(j:Nat) (x x':V),xs[j]? = some x->xs'[j]? = some x'->FrzV H S x x'):FrzV H S (.tup xs) (.tup xs')
 |unk (x:V):FrzV H S x .unk
theorem Rr (hs:Sat H g w){x x':V}(h:FrzV H S x x'):∀v,RepV w g x v->RepV w (g.frz H S) x' v:=by
 induction h with
 |c a b h=>
  intro v hv;exact .c _ _ ((Hy hs h).1 v hv.aN)
 |ag cs cs' hl h=>
  intro v hv
  cases hv with
  |ag _ vs h1 h2=>
   refine .ag cs' vs ZA λj c' u cA hu=>?_;obtain⟨c,hc⟩:=CY hl cA;exact (Hy hs (h j c c' hc cA)).1 u (h2 j c u hc hu)
 |tup xs xs' hl h ih=>
  intro v hv
  cases hv with
  |tup _ vs h1 h2=>
   refine .tup xs' vs ZA λj x' u gP hu=>?_;obtain⟨x,hx⟩:=CY hl gP;exact ih j x x' hx gP u (h2 j x u hx hu)
 |unk x=>exact λv _=>.unk v
abbrev frzK (K:V->Heap->Prop):V->Heap->Prop
 |.pn v,H'=>∃S,K (.pn v) (H'.frz S)
 |x,H'=>∃S x',FrzV H' S x x'/\K x' (H'.frz S)
theorem Vo{x:V}{v:Value}(h:frzK K x H)(hr:RepV w g x v):∃S x',FrzV H S x x'/\K x' (H.frz S):=by
 cases hr <;> exact h
theorem Qasg{args:List V}(h:Qu P f args H (frzK K)):Qu P f args H K:=by
 refine⟨h.1,λg w vs hs hl hv=>?_⟩;refine Calls.mono (h.2 g w vs hs hl hv) ?_;rintro e w' (⟨v,x,H',g',he,hx,aI,hr⟩|⟨v,H',g',he,hx,aI⟩)
 ·obtain⟨S,x',hf,hk⟩:=Vo hx hr;exact .inl ⟨v,x',H'.frz S,g'.frz H' S,he,hk,aI.trans (Gd aI.sat S),Rr aI.sat hf v hr⟩
 ·obtain⟨S,hk⟩:∃S,K (.pn v) (H'.frz S):=hx;exact .inr ⟨v,H'.frz S,g'.frz H' S,he,hk,aI.trans (Gd aI.sat S)⟩
theorem Qapz{args:List V}{K':V->Heap->Prop}(h:Qu P f args H K)(hk:∀x H',K x H'->K' x H'):Qu P f args H K':=by
 refine⟨h.1,λg w vs hs hl hv=>?_⟩;refine Calls.mono (h.2 g w vs hs hl hv) ?_;rintro e w' (⟨v,x,H',g',he,hx,aI,hr⟩|⟨v,H',g',he,hx,aI⟩)
 ·exact .inl ⟨v,x,H',g',he,hk x H' hx,aI,hr⟩
 ·exact .inr ⟨v,H',g',he,hk _ H' hx,aI⟩
theorem YH {e':Env}(S:Nat->Bool)(h:∀t,FrzV H S (lk t e) (lk t e')):FO e H e' (H.frz S):=by
 intro g w tmps hs hr;exact⟨g.frz H S,Gd hs S,λt=>Rr hs (h t) _ (hr t)⟩
def FrzK (H:Heap)(S:Nat->Bool)(c c':C):Prop:=c'=c\/(c.ai=false/\FrzC H S c c')
inductive FrzO (H:Heap)(S:Nat->Bool):Obj->Obj->Prop
 |same (o:Obj):FrzO H S o o
 |st (cells cells':List C) (hl:cells'.length=cells.length) (h:∀(j:Nat) (c c':C),cells[j]? = some c->cells'[j]? = some c'->FrzK H S c c'):FrzO H S (.st cells) (.st cells')
 |vec (sz:Nat) (rows rows':List (List C)) (hl:rows'.length=rows.length) (hr:∀(i:Nat) (r r':List C),rows[i]? = some r->rows'[i]? = some r'->r'.length=r.length)
   (h:∀(i:Nat) (r r':List C) (j:Nat) (c c':C),rows[i]? = some r->rows'[i]? = some r'->r[j]? = some c->r'[j]? = some c'->FrzK H S c c'):FrzO H S (.vec sz rows) (.vec sz rows')
def FrzH (H:Heap)(S:Nat->Bool)(H':Heap):Prop:=∀m,(S m=true/\H' m=.none)\/(S m=false/\FrzO H S (H m) (H' m))
theorem E9 (H:Heap)(S:Nat->Bool):FrzH H S (H.frz S):=λm=>by
 cases h:S m with
 |true=>exact .inl ⟨rfl,by simp[Heap.frz,h]⟩
 |false=>exact .inr ⟨rfl,by simp[Heap.frz,h];exact .same _⟩
theorem FrzH.set {S:Nat->Bool}{H':Heap}(h:FrzH H S H'){l:Nat}{o:Obj}(hl:S l=false)(ho:FrzO H S (H l) o):FrzH H S (H'.set l o):=λm=>by
 by_cases hm:m=l
 ·subst hm;rw[Heap.aF];exact .inr ⟨hl,ho⟩
 ·rw[Heap.aj _ _ hm];exact h m
theorem KZ (hs:Sat H g w)(h:FrzH H S H'):Stp H g w H' (g.frz H S) w:=by
 have h0:=Gd hs S;have aS:=h0.le;have eL:∀m,S m=false->E5 g w (g.frz H S) w m:=λm hm=>IZ (by simp[hm]);have wr:∀(l:Nat) (p:List Nat) (c c':C) (v:Value),S l=false->FrzK H S c c'->RepO w g l p c v->RepO w (g.frz H S) l p c' v:=by
  intro l p c c' v hl hk hr;rcases hk with rfl|⟨h1,h2⟩
  ·exact hr.move aS λq b hb=>⟨(eL l hl b _ hb).1,rfl⟩
  ·exact .plain _ _ _ _ ((Hy hs h2).1 v (hr.plain_of λsz rows hc=>by subst hc;simp[C.ai]at h1))
 refine⟨aS,λm hm hn=>?_,⟨h0.sat.fresh,h0.sat.names,h0.sat.excl,h0.sat.named,λm=>?_⟩⟩
 ·refine⟨?_,IZ (by rw[hn];simp[Obj.used])⟩;rcases h m with ⟨_,h1⟩|⟨_,h1⟩
  ·exact h1
  ·rw[hn]at h1;generalize H' m=o at h1;cases h1;rfl
 ·rcases h m with ⟨_,h1⟩|⟨hS,h1⟩
  ·rw[h1];exact trivial
  ·have ho:=hs.objs m;generalize hA:H m=A at h1 ho;generalize hB:H' m=B at h1
   cases h1 with
   |same=>
    have:=SatObj.keep (H':=H') hs aS (eL m hS) (hB.trans hA.symm) λm' v left cur hc v' es hv=>?_
    ·rw[hB]at this;exact this
    ·rcases h m' with ⟨_,h2⟩|⟨nE,h2⟩
     ·rw[h2]at hv;simp at hv
     ·rw[hv]at h2;generalize hA':H m'=A' at h2;cases h2;exact .inl ⟨rfl,eL m' nE⟩
   |st cells cells' hl hc=>
    obtain⟨b,sz,T,cs,r1,r2,r3,r4,r5⟩:=ho;refine⟨b,sz,T,cs,r1,(eL m hS b _ r2).1,r3,by rw[hl];exact r4,λk c' v cA hv=>?_⟩;obtain⟨c,dk⟩:=CY hl cA;exact wr _ _ c c' v hS (hc k c c' dk cA) (r5 k c v dk hv)
   |vec sz rows rows' hl hr hc=>
    rcases ho with ⟨r1,r2⟩|⟨b,base,T,cs,val,r1,r2,r3,r4,r5,r6,r7,r8⟩
    ·refine .inl ⟨?_,r2⟩;subst r1;exact Jz.1 hl
    ·refine .inr ⟨b,base,T,cs,val,r1,(eL m hS b _ r2).1,r3,by rw[hl];exact r4,by rw[hl];exact r5,λi r' bd=>?_,λi r' j c' bd cA=>?_,λi r' j c' bd cA=>?_⟩
     ·obtain⟨r,bI⟩:=CY hl bd;rw[hr i r r' bI bd];exact r6 i r bI
     ·obtain⟨r,bI⟩:=CY hl bd;obtain⟨c,dk⟩:=CY (hr i r r' bI bd) cA;exact r7 i r j c bI dk
     ·obtain⟨r,bI⟩:=CY hl bd;obtain⟨c,dk⟩:=CY (hr i r r' bI bd) cA;exact wr _ _ c c' _ hS (hc i r r' j c c' bI bd dk cA) (r8 i r j c bI dk)
abbrev finK (K:V->Heap->Prop):V->Heap->Prop
 |.pn v,H'=>K (.pn v) H'
 |x,H'=>∃S x' H2,FrzV H' S x x'/\FrzH H' S H2/\K x' H2
theorem Qa6t {K:Uk}{x:C}:finK K (.c x) H=∃S x' H2,FrzV H S (.c x) x'/\FrzH H S H2/\K x' H2:=rfl
theorem Qa3s {K:Uk}{x:List C}:finK K (.ag x) H=∃S x' H2,FrzV H S (.ag x) x'/\FrzH H S H2/\K x' H2:=rfl
theorem VG {K:Uk}{x:List V}:finK K (.tup x) H=∃S x' H2,FrzV H S (.tup x) x'/\FrzH H S H2/\K x' H2:=rfl
theorem Qa3t{v:Value}:finK K (.pn v) H=K (.pn v) H:=rfl
attribute [go_sem] Qa6t Qa3s VG Qa3t
theorem Vs{x:V}{v:Value}(h:finK K x H)(hr:RepV w g x v):∃S x' H2,FrzV H S x x'/\FrzH H S H2/\K x' H2:=by
 cases hr <;> exact h
theorem EB{args:List V}(h:Qu P f args H (finK K)):Qu P f args H K:=by
 refine⟨h.1,λg w vs hs hl hv=>?_⟩;refine Calls.mono (h.2 g w vs hs hl hv) ?_;rintro e w' (⟨v,x,H',g',he,hx,aI,hr⟩|⟨v,H',g',he,hx,aI⟩)
 ·obtain⟨S,x',H2,hf,hh,hk⟩:=Vs hx hr;exact .inl ⟨v,x',H2,g'.frz H' S,he,hk,aI.trans (KZ aI.sat hh),Rr aI.sat hf v hr⟩
 ·exact .inr ⟨v,H',g',he,hx,aI⟩
theorem Fe {e':Env}(S:Nat->Bool)(h:∀t,FrzV H S (lk t e) (lk t e'))(hh:FrzH H S H2):FO e H e' H2:=by
 intro g w tmps hs hr;exact⟨g.frz H S,KZ hs hh,λt=>Rr hs (h t) _ (hr t)⟩
def un (H:Heap)(m:Nat):Bool:=!(H m).used
theorem Hn {m:Nat}(h:H m≠.none):un H m=false:=by
 unfold un;cases hm:H m <;> first|rfl|exact absurd hm h
theorem Ef {m:Nat}(h:H m=.none):un H m=true:=by simp[un,h,Obj.used]
theorem Hh{m:Nat}(h:H m≠.none):H'.frz (un H) m=H' m:=by simp[Heap.frz,Hn h]
def C.plain:C->Bool
 |.int _ _|.bool _|.str _|.sl _ _ _|.pp _|.pnil|.mnil|.slb _|.stb _|.cm _ _ _|.fnil|.unk=>true
 |_=>false
theorem Qg{c:C}(h:c.plain=true):FrzC H S c c:=.same c (by cases c <;> simp_all[C.plain,C.ai])
theorem HP{l n:Nat}{rows:List (List C)}(hS:S l=true)(hH:H l=.vec sz rows)(hn:n=rows.length)(hr:∀r∈rows,∀c∈r,c.ai=false):FrzC H S (.ah l sz 0 n) (.sl false sz rows):=by
 subst hn;refine .ah l sz 0 rows.length rows rows rows hS hH ZA ZC rfl (λi r r' h1 h2=>by rw[h1]at h2;simp at h2;rw[h2]) (λi r r' j c c' h1 h2 h3 h4=>?_);rw[h1]at h2;simp at h2;subst h2;rw[h3]at h4;simp at h4;subst h4;exact .same _ (hr r (Ja h1) c (Ja h3))
theorem Gt{rows:List (List C)}(hr:∀r∈rows,∀c∈r,c.ai=false):FrzC H S (.sl fl sz rows) (.sl false sz rows):=by
 refine .sl fl sz rows rows rfl (λi r r' h1 h2=>by rw[h1]at h2;simp at h2;rw[h2]) (λi r r' j c c' h1 h2 h3 h4=>?_);rw[h1]at h2;simp at h2;subst h2;rw[h3]at h4;simp at h4;subst h4;exact .same _ (hr r (Ja h1) c (Ja h3))
inductive FrzL (H:Heap)(S:Nat->Bool):List C->List C->Prop
 |nil:FrzL H S [] []
 |cons {c c':C} {l l':List C} (h:FrzC H S c c') (t:FrzL H S l l'):FrzL H S (c::l) (c'::l')
theorem FrzL.spec{l l':List C}(h:FrzL H S l l'):l'.length=l.length/\∀(j:Nat) (c c':C),l[j]? = some c->l'[j]? = some c'->FrzC H S c c':=by
 induction h with
 |nil=>exact⟨rfl,λj c c' h=>ZH⟩
 |cons h t ih=>
  refine⟨Zbt,λj c c' h1 h2=>?_⟩
  cases j with
  |zero=>simp at h1 h2;subst h1;subst h2;exact h
  |succ j=>simp at h1 h2;exact ih.2 j c c' h1 h2
theorem FrzL.ag {S:Nat->Bool}{l l':List C}(h:FrzL H S l l'):FrzV H S (.ag l) (.ag l'):=.ag _ _ h.spec.1 h.spec.2
inductive FrzKL (H:Heap)(S:Nat->Bool):List C->List C->Prop
 |nil:FrzKL H S [] []
 |same {c:C} {l l':List C} (t:FrzKL H S l l'):FrzKL H S (c::l) (c::l')
 |cons {c c':C} {l l':List C} (h:c.ai=false) (h':FrzC H S c c') (t:FrzKL H S l l'):FrzKL H S (c::l) (c'::l')
theorem FrzKL.st {S:Nat->Bool}{l l':List C}(h:FrzKL H S l l'):FrzO H S (.st l) (.st l'):=by
 have:l'.length=l.length/\∀(j:Nat) (c c':C),l[j]? = some c->l'[j]? = some c'->FrzK H S c c':=by
  induction h with
  |nil=>exact⟨rfl,λj c c' h=>ZH⟩
  |same t ih=>
   refine⟨Zbt,λj c c' h1 h2=>?_⟩
   cases j with
   |zero=>simp at h1 h2;subst h1;subst h2;exact .inl rfl
   |succ j=>simp at h1 h2;exact ih.2 j c c' h1 h2
  |cons h h' t ih=>
   refine⟨Zbt,λj c c' h1 h2=>?_⟩
   cases j with
   |zero=>simp at h1 h2;subst h1;subst h2;exact .inr ⟨h,h'⟩
   |succ j=>simp at h1 h2;exact ih.2 j c c' h1 h2
 exact .st _ _ this.1 this.2
end
variable{K:Uk}
section
variable{E L:Ul}
structure Kn (H0 H:Heap)(E L:Ul):Prop where
 get:∀p∈E++L,H p.1=p.2/\p.2≠.none
 ext:∀p∈E,H0 p.1≠.none
 loc:∀p∈L,H0 p.1=.none
 dE:(E.map Prod.fst).Nodup
 dL:(L.map Prod.fst).Nodup
 chg:∀m,H0 m≠.none->m∉E.map Prod.fst->H m=H0 m
def Upd (H H':Heap)(U:List (Nat×Obj)):Prop:=(∀p∈U,H' p.1=p.2)/\∀m,H m≠.none->m∉U.map Prod.fst->H' m=H m
theorem Kn.an (H:Heap):Kn H H [] []:=⟨ZC,ZC,ZC,ZC,ZC,λ_ _ _=>rfl⟩
theorem Kn.start1 {l:Nat}{o:Obj}(h:H l=o)(ho:o≠.none):Kn H H [(l,o)] []:=
 ⟨by simp[h,ho],by simp[h,ho],ZC,ZC,ZC,λ_ _ _=>rfl⟩
theorem Kn.start2 {l m:Nat}{o q:Obj}(h:H l=o)(ho:o≠.none)(h2:H m=q)(hq:q≠.none)(hn:l≠m):Kn H H [(l,o),(m,q)] []:=
 ⟨by simp[h,ho,h2,hq],by simp[h,ho,h2,hq],ZC,ZaS,ZC,λ_ _ _=>rfl⟩
theorem Kn.e (hk:Kn H0 H E L)(i:Nat){l:Nat}{o:Obj}(h:E[i]? = some (l,o)):H l=o:=
 (hk.get (l,o) (Jc _ (Ja h))).1
theorem Kn.l (hk:Kn H0 H E L)(i:Nat){l:Nat}{o:Obj}(h:L[i]? = some (l,o)):H l=o:=
 (hk.get (l,o) (Jd _ (Ja h))).1
theorem Kn.free (hk:Kn H0 H E L)(i:Nat){l:Nat}{o:Obj}(h:L[i]? = some (l,o)):H0 l=.none:=hk.loc (l,o) (Ja h)
theorem Kn.un (hk:Kn H0 H E L)(i:Nat){l:Nat}{o:Obj}(h:L[i]? = some (l,o)):un H0 l=true:=Ef (hk.free i h)
theorem Kn.usedE (hk:Kn H0 H E L)(i:Nat){l:Nat}{o:Obj}(h:E[i]? = some (l,o)):H0 l≠.none:=hk.ext (l,o) (Ja h)
theorem Kn.ne (hk:Kn H0 H E L)(i j:Nat){l m:Nat}{o q:Obj}(h:E[i]? = some (l,o))(h2:L[j]? = some (m,q)):l≠m:=λhh=>by
 subst hh;exact hk.usedE i h (hk.free j h2)
theorem CD(h:p∈L):p.1∈L.map Prod.fst:=List.mem_map_of_mem h
theorem Ev(hd:(L.map Prod.fst).Nodup){j:Nat}{q:Nat×Obj}(hi:L[i]? = some p)(hj:L[j]? = some q)(h:p.1=q.1):i=j:=by
 have h1:(L.map Prod.fst)[i]? = some p.1:=by simp[hi]
 have h2:(L.map Prod.fst)[j]? = some q.1:=by simp[hj]
 have af:i<(L.map Prod.fst).length:=(Jx.1 h1).1;exact (List.getElem?_inj af hd).1 (by rw[h1,h2,h])
theorem Kn.neL (hk:Kn H0 H E L)(i j:Nat){l m:Nat}{o q:Obj}(h:L[i]? = some (l,o))(h2:L[j]? = some (m,q))(hY:i≠j):l≠m:=λhh=>
 hY (Ev hk.dL h h2 hh)
theorem Kn.newFree (hk:Kn H0 H E L)(hx:H x=.none):H0 x=.none/\x∉E.map Prod.fst/\x∉L.map Prod.fst:=by
 have b7:∀p∈E++L,p.1≠x:=λp hp hh=>by
  obtain⟨h1,h2⟩:=hk.get p hp;rw[hh,hx]at h1;exact h2 h1.symm
 have hE:x∉E.map Prod.fst:=λh=>by
  obtain⟨p,hp,hh⟩:=Jh.1 h;exact b7 p (Jc _ hp) hh
 refine⟨?_,hE,λh=>?_⟩
 ·cases h0:H0 x with
  |none=>rfl
  |_=>have:=hk.chg x (by rw[h0];simp) hE;rw[hx,h0]at this;simp at this
 ·obtain⟨p,hp,hh⟩:=Jh.1 h;exact b7 p (Jd _ hp) hh
theorem Kn.alloc (hk:Kn H0 H E L){o:Obj}(hx:H x=.none)(ho:o≠.none):Kn H0 (H.set x o) E (L++[(x,o)]):=by
 obtain⟨h1,h2,h3⟩:=hk.newFree hx;refine⟨λp hp=>?_,hk.ext,λp hp=>?_,hk.dE,?_,λm hm hn=>?_⟩
 ·rw[<-Jl]at hp;rcases Jb.1 hp with hp|hp
  ·have:p.1≠x:=λhh=>by
    rcases Jb.1 hp with hp|hp
    ·exact h2 (hh▸CD hp)
    ·exact h3 (hh▸CD hp)
   rw[Heap.aj _ _ this];exact hk.get p hp
  ·simp at hp;subst hp;exact⟨Heap.aF _ _ _,ho⟩
 ·rcases Jb.1 hp with hp|hp
  ·exact hk.loc p hp
  ·simp at hp;subst hp;exact h1
 ·rw[Jo];refine Jk.2 ⟨hk.dL,ZC,λa ha b hb=>?_⟩;simp at hb;subst hb;exact λhh=>h3 (hh▸ha)
 ·have:m≠x:=λhh=>by subst hh;exact hm h1
  rw[Heap.aj _ _ this];exact hk.chg m hm hn
theorem F9{o:Obj}(h:L[i]? = some (x,o)):(L.set i (x,o')).map Prod.fst=L.map Prod.fst:=by
 rw[Jab];refine List.ext_getElem? λj=>?_;rw[J8];split
 ·rename_i hY
  subst hY;have af:=(Jx.1 h).1;rw[if_pos (by simpa using af)];simp[h]
 ·rfl
theorem Ew{L:List α}{x p:α}(h:p∈L.set i x):p=x\/∃j,j≠i/\L[j]? = some p:=by
 obtain⟨j,hj⟩:=List.getElem?_of_mem h;rw[J8]at hj;split at hj
 ·split at hj
  ·simp at hj;exact .inl hj.symm
  ·simp at hj
 ·rename_i hn;exact .inr ⟨j,λh=>hn h.symm,hj⟩
theorem Kn.setL (hk:Kn H0 H E L)(i:Nat){o:Obj}(h:L[i]? = some (x,o))(ho:o'≠.none):Kn H0 (H.set x o') E (L.set i (x,o')):=by
 have hf:=hk.free i h;refine⟨λp hp=>?_,hk.ext,λp hp=>?_,hk.dE,by rw[F9 h];exact hk.dL,λm hm hn=>?_⟩
 ·rcases Jb.1 hp with hp|hp
  ·have:p.1≠x:=λhh=>hk.ext p hp (hh▸hf);rw[Heap.aj _ _ this];exact hk.get p (Jc _ hp)
  ·rcases Ew hp with rfl|⟨j,hj,hp⟩
   ·exact⟨Heap.aF _ _ _,ho⟩
   ·have:p.1≠x:=λhh=>hj (Ev hk.dL hp h hh);rw[Heap.aj _ _ this];exact hk.get p (Jd _ (Ja hp))
 ·rcases Ew hp with rfl|⟨j,hj,hp⟩
  ·exact hf
  ·exact hk.loc p (Ja hp)
 ·have:m≠x:=λhh=>by subst hh;exact hm hf
  rw[Heap.aj _ _ this];exact hk.chg m hm hn
theorem Kn.setE (hk:Kn H0 H E L)(i:Nat){o:Obj}(h:E[i]? = some (x,o))(ho:o'≠.none):Kn H0 (H.set x o') (E.set i (x,o')) L:=by
 have hf:=hk.usedE i h;refine⟨λp hp=>?_,λp hp=>?_,hk.loc,by rw[F9 h];exact hk.dE,hk.dL,λm hm hn=>?_⟩
 ·rcases Jb.1 hp with hp|hp
  ·rcases Ew hp with rfl|⟨j,hj,hp⟩
   ·exact⟨Heap.aF _ _ _,ho⟩
   ·have:p.1≠x:=λhh=>hj (Ev hk.dE hp h hh);rw[Heap.aj _ _ this];exact hk.get p (Jc _ (Ja hp))
  ·have:p.1≠x:=λhh=>hf (hh▸hk.loc p hp);rw[Heap.aj _ _ this];exact hk.get p (Jd _ hp)
 ·rcases Ew hp with rfl|⟨j,hj,hp⟩
  ·exact hf
  ·exact hk.ext p (Ja hp)
 ·rw[F9 h]at hn;have:m≠x:=λhh=>by subst hh;exact hn (CD (p:=(m,o)) (Ja h))
  rw[Heap.aj _ _ this];exact hk.chg m hm hn
theorem Kn.app (hk:Kn H0 H E L)(i:Nat){y':Nat}{o:Obj}(h:L[i]? = some (y,o))(hy:(H.set y .none) y'=.none)(ho:o'≠.none) :
  Kn H0 ((H.set y .none).set y' o') E (L.set i (y',o')):=by
 have hf:=hk.free i h;have q9:H0 y'=.none/\y'∉E.map Prod.fst/\∀(j:Nat) (p:Nat×Obj),j≠i->L[j]? = some p->p.1≠y':=by
  by_cases AP:y'=y
  ·subst AP;refine⟨hf,λhh=>?_,λj p hj hp hh=>hj (Ev hk.dL hp h hh)⟩;obtain⟨p,hp,hh⟩:=Jh.1 hh;exact hk.ext p hp (hh▸hf)
  ·rw[Heap.aj _ _ AP]at hy;obtain⟨h1,h2,h3⟩:=hk.newFree hy;exact⟨h1,h2,λj p hj hp hh=>h3 (hh▸CD (Ja hp))⟩
 obtain⟨h1,h2,h3⟩:=q9;refine⟨λp hp=>?_,hk.ext,λp hp=>?_,hk.dE,?_,λm hm hn=>?_⟩
 ·rcases Jb.1 hp with hp|hp
  ·have a1:p.1≠y:=λhh=>hk.ext p hp (hh▸hf);have a2:p.1≠y':=λhh=>hk.ext p hp (hh▸h1);rw[Heap.aj _ _ a2,Heap.aj _ _ a1];exact hk.get p (Jc _ hp)
  ·rcases Ew hp with rfl|⟨j,hj,hp⟩
   ·exact⟨Heap.aF _ _ _,ho⟩
   ·have a1:p.1≠y:=λhh=>hj (Ev hk.dL hp h hh);rw[Heap.aj _ _ (h3 j p hj hp),Heap.aj _ _ a1];exact hk.get p (Jd _ (Ja hp))
 ·rcases Ew hp with rfl|⟨j,hj,hp⟩
  ·exact h1
  ·exact hk.loc p (Ja hp)
 ·rw[Jab];refine Jai.2 λa b ha hb eP=>?_;rw[List.length_set,J4]at ha hb;have gl:∀(j:Nat) (hj:j<L.length),j≠i->L[j].1≠y':=λj hj hji=>h3 j L[j] hji (Jq hj);have hd:=Jai.1 hk.dL a b ZaH Zac eP;simp only[Jad,List.getElem_map]at hd⊢;by_cases e1:i=a
  ·subst e1;rw[if_pos rfl,if_neg ZA];exact λhh=>gl b hb ZA hh.symm
  ·rw[if_neg e1];by_cases e2:i=b
   ·subst e2;rw[if_pos rfl];exact gl a ha ZA
   ·rw[if_neg e2];exact hd
 ·have a1:m≠y:=λhh=>by subst hh;exact hm hf
  have a2:m≠y':=λhh=>by subst hh;exact hm h1
  rw[Heap.aj _ _ a2,Heap.aj _ _ a1];exact hk.chg m hm hn
theorem Kn.callg (hk:Kn H0 H E L){U E2 L2:Ul}(hu:Upd H H' U)(hE:E2.map Prod.fst=E.map Prod.fst)(hL:L2.map Prod.fst=L.map Prod.fst)
  (h:∀p∈E2++L2,p.2≠.none/\(p∈U\/(p∈E++L/\p.1∉U.map Prod.fst))) (hU:∀u∈U,u.1∈E.map Prod.fst\/u.1∈L.map Prod.fst):Kn H0 H' E2 L2:=by
 have bT:∀{A B:Ul} {p:Nat×Obj},B.map Prod.fst=A.map Prod.fst->p∈B->∃q∈A,q.1=p.1:=λnY hp=>by
  have:=CD hp;rw[nY]at this;obtain⟨q,h1,h2⟩:=Jh.1 this;exact⟨q,h1,h2⟩
 refine⟨λp hp=>?_,λp hp=>?_,λp hp=>?_,by rw[hE];exact hk.dE,by rw[hL];exact hk.dL,λm hm hn=>?_⟩
 ·obtain⟨h1,h2⟩:=h p hp;refine⟨?_,h1⟩;rcases h2 with h2|⟨h2,h3⟩
  ·exact hu.1 p h2
  ·obtain⟨a1,a2⟩:=hk.get p h2;rw[hu.2 p.1 (by rw[a1];exact a2) h3,a1]
 ·obtain⟨q,hq,hh⟩:=bT hE hp;rw[<-hh];exact hk.ext q hq
 ·obtain⟨q,hq,hh⟩:=bT hL hp;rw[<-hh];exact hk.loc q hq
 ·rw[hE]at hn;have h0:=hk.chg m hm hn;rw[hu.2 m (by rw[h0];exact hm) (λhh=>?_),h0];obtain⟨u,Bb,eV⟩:=Jh.1 hh;rcases hU u Bb with a|a
  ·exact hn (eV▸a)
  ·obtain⟨q,hq,hh⟩:=Jh.1 a;exact hm (by rw[<-eV,<-hh];exact hk.loc q hq)
theorem Kn.au (hk:Kn H0 H E L)(hu:Upd H H' []):Kn H0 H' E L:=hk.callg hu rfl rfl (λp hp=>⟨(hk.get p hp).2,.inr ⟨hp,ZC⟩⟩) ZC
theorem Kn.aw (hk:Kn H0 H E L)(i:Nat){l:Nat}{o:Obj}(h:E[i]? = some (l,o))(hu:Upd H H' [(l,o')])(ho:o'≠.none):Kn H0 H' (E.set i (l,o')) L:=by
 refine hk.callg hu (F9 h) rfl (λp hp=>?_) (λu hu=>by simp at hu;subst hu;exact .inl (CD (p:=(l,o)) (Ja h)));rcases Jb.1 hp with hp|hp
 ·rcases Ew hp with rfl|⟨j,hj,hp⟩
  ·exact⟨ho,.inl ZC⟩
  ·have hm:=Jc L (Ja hp);exact⟨(hk.get p hm).2,.inr ⟨hm,by simp;exact λhh=>hj (Ev hk.dE hp h hh)⟩⟩
 ·have hm:=Jd E hp;exact⟨(hk.get p hm).2,.inr ⟨hm,by simp;exact λhh=>hk.usedE i h (hh▸hk.loc p hp)⟩⟩
theorem Kn.callL (hk:Kn H0 H E L)(i:Nat){l:Nat}{o:Obj}(h:L[i]? = some (l,o))(hu:Upd H H' [(l,o')])(ho:o'≠.none):Kn H0 H' E (L.set i (l,o')):=by
 refine hk.callg hu rfl (F9 h) (λp hp=>?_) (λu hu=>by simp at hu;subst hu;exact .inr (CD (p:=(l,o)) (Ja h)));rcases Jb.1 hp with hp|hp
 ·have hm:=Jc L hp;exact⟨(hk.get p hm).2,.inr ⟨hm,by simp;exact λhh=>hk.ext p hp (hh▸hk.free i h)⟩⟩
 ·rcases Ew hp with rfl|⟨j,hj,hp⟩
  ·exact⟨ho,.inl ZC⟩
  ·have hm:=Jd E (Ja hp);exact⟨(hk.get p hm).2,.inr ⟨hm,by simp;exact λhh=>hj (Ev hk.dL hp h hh)⟩⟩
theorem Kn.callEE (hk:Kn H0 H E L)(i j:Nat){l m:Nat}{o q q':Obj}(h:E[i]? = some (l,o))(h2:E[j]? = some (m,q))(hY:i≠j)(hu:Upd H H' [(l,o'),(m,q')])(ho:o'≠.none)(hq:q'≠.none) :
  Kn H0 H' ((E.set i (l,o')).set j (m,q')) L:=by
 have tx:(E.set i (l,o'))[j]? = some (m,q):=by rw[J8];rw[if_neg hY];exact h2
 refine hk.callg hu ((F9 tx).trans (F9 h)) rfl (λp hp=>?_) (λu hu=>?_)
 ·rcases Jb.1 hp with hp|hp
  ·rcases Ew hp with rfl|⟨b,hb,hp⟩
   ·exact⟨hq,.inl ZC⟩
   ·rcases Ew (Ja hp)with rfl|⟨c,hc,bV⟩
    ·exact⟨ho,.inl ZC⟩
    ·have hm:=Jc L (Ja bV);rw[J8]at hp;split at hp
     ·rename_i wx
      split at hp
      ·simp at hp;subst hp;exact⟨ho,.inl ZC⟩
      ·simp at hp
     ·rename_i wx
      refine⟨(hk.get p hm).2,.inr ⟨hm,?_⟩⟩;simp only[Js,Jaa,Ji,Jae,or_false,not_or];exact⟨λhh=>wx (Ev hk.dE hp h hh).symm,λhh=>hb (Ev hk.dE hp h2 hh)⟩
  ·have hm:=Jd E hp;refine⟨(hk.get p hm).2,.inr ⟨hm,?_⟩⟩;simp only[Js,Jaa,Ji,Jae,or_false,not_or];exact⟨λhh=>hk.usedE i h (hh▸hk.loc p hp),λhh=>hk.usedE j h2 (hh▸hk.loc p hp)⟩
 ·simp at hu;rcases hu with rfl|rfl
  ·exact .inl (CD (p:=(l,o)) (Ja h))
  ·exact .inl (CD (p:=(m,q)) (Ja h2))
theorem Kn.fin (hk:Kn H0 H E L):Upd H0 (H.frz (Go.AE.un H0)) E:=by
 refine⟨λp hp=>?_,λm hm hn=>?_⟩
 ·rw[Hh (hk.ext p hp)];exact (hk.get p (Jc _ hp)).1
 ·rw[Hh hm];exact hk.chg m hm hn
abbrev unK (H:Heap)(K:V->Heap->Prop):V->Heap->Prop
 |.pn v,H'=>K (.pn v) (H'.frz (un H))
 |x,H'=>∃x',FrzV H' (un H) x x'/\K x' (H'.frz (un H))
theorem Qa9o{x:C}:unK H0 K (.c x) H=∃x',FrzV H (un H0) (.c x) x'/\K x' (H.frz (un H0)):=rfl
theorem Qa8c{x:List C}:unK H0 K (.ag x) H=∃x',FrzV H (un H0) (.ag x) x'/\K x' (H.frz (un H0)):=rfl
theorem Qa5x{x:List V}:unK H0 K (.tup x) H=∃x',FrzV H (un H0) (.tup x) x'/\K x' (H.frz (un H0)):=rfl
theorem Qa5y:unK H0 K .unk H=∃x',FrzV H (un H0) .unk x'/\K x' (H.frz (un H0)):=rfl
theorem Qa8d {K:V->Heap->Prop}{v:Value}:unK H0 K (.pn v) H=K (.pn v) (H.frz (un H0)):=rfl
attribute [go_sem] Qa9o Qa8c Qa5x Qa5y Qa8d
theorem Q0{args:List V}(h:Qu P f args H (unK H K)):Qu P f args H K:=
 Qasg (Qapz h λx H' hx=>by
  cases x with
  |pn v=>exact⟨un H,hx⟩
  |_=>
   obtain⟨x',h1,h2⟩:=hx;exact⟨un H,x',h1,h2⟩)
theorem Kn.al (hk:Kn H0 H E L){o:Obj}(hx:H x=.none)(h1:H'=H.set x o)(ho:o≠.none:=by nofun):Kn H0 H' E (L++[(x,o)]):=h1▸hk.alloc hx ho
theorem Kn.az (hk:Kn H0 H E L)(i:Nat){o:Obj}(h:L[i]? = some (x,o))(h1:H'=H.set x o')(ho:o'≠.none:=by nofun):Kn H0 H' E (L.set i (x,o')):=h1▸hk.setL i h ho
theorem Kn.stE (hk:Kn H0 H E L)(i:Nat){o:Obj}(h:E[i]? = some (x,o))(h1:H'=H.set x o')(ho:o'≠.none:=by nofun):Kn H0 H' (E.set i (x,o')) L:=h1▸hk.setE i h ho
theorem Kn.ap (hk:Kn H0 H E L)(i:Nat){y':Nat}{o:Obj}(h:L[i]? = some (y,o))(hy:(H.set y .none) y'=.none)(h1:H'=(H.set y .none).set y' o')(ho:o'≠.none:=by nofun):Kn H0 H' E (L.set i (y',o')):=h1▸hk.app i h hy ho
end
namespace Y
theorem Qv {x:Int}(h1:-(2^63)<=x:=by omega)(h2:x<2^63:=by omega):inR .i64 x:=by
 unfold inR;have a1:IntKind.min .i64=-(2^63):=ZN
 have a2:IntKind.max .i64=2^63-1:=ZN
 rw[a1,a2];omega
theorem LX (b:UInt8):inR .i64 (b.toNat:Int):=Qv ZA (by have:=b.toNat_lt;omega)
def Di (bs:List UInt8):List (List C):=bs.map λb=>[.int .u8 b.toNat]
theorem Fg (bs:List UInt8):(Di bs).length=bs.length:=by simp[Di]
theorem Q0o (bs:List UInt8)(i:Nat)(h:i<bs.length):(Di bs).getD i []=[.int .u8 (bs.getD i 0).toNat]:=by
 simp[Di,Je,h]
theorem Qa55 {a b:Int}(ha:0<=a)(hb:0<=b)(BK:a<2^62)(aW:b<2^62):0<=EJ .xor .i64 a b:=by
 obtain⟨m,rfl⟩:=Jy ha;obtain⟨n,rfl⟩:=Jy hb;have hm:m<2^62:=ZA
 have hn:n<2^62:=ZA
 have hx:m ^^^ n<2^62:=Nat.xor_lt_two_pow hm hn;have h1:(BitVec.ofInt (IntKind.bits .i64) (m:Int) ^^^ BitVec.ofInt (IntKind.bits .i64) (n:Int)).toNat=m ^^^ n:=by
  have hb:IntKind.bits .i64=64:=rfl;rw[hb,BitVec.toNat_xor];have e1:(BitVec.ofInt 64 (m:Int)).toNat=m:=ZF
  have e2:(BitVec.ofInt 64 (n:Int)).toNat=n:=ZF
  rw[e1,e2]
 simp only[EJ];rw[h1];simp only[IntKind.wrap];have hb:IntKind.bits .i64=64:=rfl;have hm:((m ^^^ n:Nat):Int) % 2 ^ 64=(m ^^^ n:Nat):=Int.emod_eq_of_lt ZA ZA;rw[hb,hm];rw[if_neg]
 ·omega
 ·simp only[Jj,decide_eq_true_eq,not_and];intro _;omega
structure Rdr where
 l:Nat
 fl:Bool
 bs:List UInt8
def Rdr.o (R:Rdr)(k:Nat):Obj:=.st [.sl R.fl 1 (Di R.bs),.int .i64 k]
theorem Rdr.ao (R:Rdr)(k:Nat):R.o k≠.none:=by simp[Rdr.o]
def Qb (ns:List Int):List (List C):=ns.map λn=>[.int .i64 n]
theorem Qc (ns:List Int):(Qb ns).length=ns.length:=Zap
theorem Qk (ns:List Int)(i:Nat)(h:i<ns.length):(Qb ns).getD i []=[Ui (ns.getD i 0)]:=by
 simp[Qb,Je,h]
theorem Ec (a b:List Int):Qb (a++b)=Qb a++Qb b:=Zap
theorem Qr (ns:List Int):∀r∈Qb ns,am r=true:=by
 intro r hr;simp[Qb]at hr;obtain⟨n,_,rfl⟩:=hr;rfl
def CO (ss:List (List UInt8)):List (List C):=ss.map λs=>[.str s]
theorem D1 (ss:List (List UInt8)):(CO ss).length=ss.length:=by simp[CO]
theorem Kj (ss:List (List UInt8))(i:Nat)(h:i<ss.length):(CO ss).getD i []=[.str (ss.getD i [])]:=by
 simp[CO,Je,h]
theorem Qar6:CO []=[]:=rfl
theorem Qant (a:List (List UInt8))(n:List UInt8):CO a++[[.str n]]=CO (a++[n]):=by simp[CO]
theorem Pn (ns:List (List UInt8)):∀r∈CO ns,am r=true:=by
 intro r hr;simp[CO]at hr;obtain⟨n,_,rfl⟩:=hr;rfl
theorem noOw_mem {rows:List (List C)}(h:∀r∈rows,am r=true):∀r∈rows,∀c∈r,c.ai=false:=λr hr c hc=>by
 have:=h r hr;simp only[am,Jac]at this;simpa using this c hc
theorem Qa0e {a b:List (List C)}(ha:∀r∈a,am r=true)(hb:∀r∈b,am r=true):∀r∈a++b,am r=true:=λr hr=>by
 rcases Jb.1 hr with h|h
 ·exact ha r h
 ·exact hb r h
inductive Ex where
 |mk (op n:Int) (name:List UInt8) (kids:List Ex)
def Ex.op:Ex->Int|.mk op _ _ _=>op
def Ex.n:Ex->Int|.mk _ n _ _=>n
def Ex.name:Ex->List UInt8|.mk _ _ s _=>s
def Ex.kids:Ex->List Ex|.mk _ _ _ k=>k
mutual
def Ex.cells:Ex->List C
 |.mk op n name kids=>[.int .i64 op,.int .i64 n,.str name,.sl false 4 (C5 kids)]
def C5:List Ex->List (List C)
 |[]=>[]
 |x::r=>x.cells::C5 r
end
theorem Ex.aG (x:Ex):x.cells=[Ui x.op,Ui x.n,.str x.name,.sl false 4 (C5 x.kids)]:=by
 cases x;simp[Ex.cells,Ex.op,Ex.n,Ex.name,Ex.kids]
theorem Pe (l:List Ex):C5 l=l.map Ex.cells:=by
 induction l with
 |nil=>simp[C5]
 |cons x r ih=>simp[C5,ih]
theorem DC (l:List Ex):(C5 l).length=l.length:=by simp[Pe]
theorem GU (l:List Ex)(i:Nat)(h:i<l.length):(C5 l).getD i []=(l[i]'h).cells:=by
 simp[Pe,Je,h]
theorem Qaqf (a:List Ex)(x:Ex):C5 a++[x.cells]=C5 (a++[x]):=by simp[Pe]
theorem Ex.am (x:Ex):Go.AE.am x.cells=true:=Zba
theorem Kh (l:List Ex):∀r∈C5 l,Go.AE.am r=true:=by
 intro r hr;rw[Pe]at hr;obtain⟨x,_,rfl⟩:=Jh.1 hr;exact x.am
theorem Ex.aA (x:Ex):x.cells.length=4:=Zba
mutual
def Ex.size:Ex->Nat
 |.mk _ _ _ kids=>1+C8 kids
def C8:List Ex->Nat
 |[]=>0
 |x::r=>x.size+C8 r
end
mutual
def Ex.ok:Ex->Prop
 |.mk op _ _ kids=>(op=10->kids.length=2)/\CT kids
def CT:List Ex->Prop
 |[]=>True
 |x::r=>x.ok/\CT r
end
theorem Q5d {l:List Ex}(h:CT l):∀x∈l,x.ok:=by
 induction l with
 |nil=>simp
 |cons y r ih=>
  simp only[CT]at h;intro x hx;rcases Ji.1 hx with rfl|hx
  ·exact h.1
  ·exact ih h.2 x hx
theorem Qas1 {a b:List Ex}(ha:CT a)(hb:CT b):CT (a++b):=by
 induction a with
 |nil=>exact hb
 |cons x r ih=>simp only[CT]at ha;exact⟨ha.1,ih ha.2⟩
theorem RT (a b:List Ex):C8 (a++b)=C8 a+C8 b:=by
 induction a with
 |nil=>simp[C8]
 |cons x r ih=>simp[C8,ih];omega
theorem Ex.size_pos (x:Ex):1<=x.size:=by cases x;simp[Ex.size]
theorem I7 {l:List Ex}{x:Ex}(h:x∈l):x.size<=C8 l:=by
 induction l with
 |nil=>simp at h
 |cons y r ih=>
  simp only[C8];rcases Ji.1 h with rfl|h
  ·omega
  ·have:=ih h;omega
theorem Ex.size_kids (x:Ex):x.size=1+C8 x.kids:=by cases x;simp[Ex.size,Ex.kids]
theorem Ex.ok_kids {x:Ex}(h:x.ok):CT x.kids:=by cases x;simp only[Ex.ok]at h;exact h.2
theorem Ex.ok_and {x:Ex}(h:x.ok)(h1:x.op=10):x.kids.length=2:=by cases x;simp only[Ex.ok]at h;exact h.1 h1
theorem Ex.frz(x:Ex):FrzV H S (.ag [Ui x.op,Ui x.n,.str x.name,.sl fl 4 (C5 x.kids)]) (.ag x.cells):=by
 rw[x.aG];exact (FrzL.cons (Qg rfl) (FrzL.cons (Qg rfl) (FrzL.cons (Qg rfl) (FrzL.cons (Gt (noOw_mem (Kh _))) FrzL.nil)))).ag
inductive FrzR (H:Heap)(S:Nat->Bool):List (List C)->List (List C)->Prop
 |nil:FrzR H S [] []
 |cons {r r':List C} {l l':List (List C)} (h:FrzL H S r r') (t:FrzR H S l l'):FrzR H S (r::l) (r'::l')
theorem FrzR.spec {l l':List (List C)}(h:FrzR H S l l'):l'.length=l.length/\∀(i:Nat) (r r':List C),l[i]? = some r->l'[i]? = some r'->FrzL H S r r':=by
 induction h with
 |nil=>exact⟨rfl,λj c c' h=>ZH⟩
 |cons h t ih=>
  refine⟨Zbt,λj c c' h1 h2=>?_⟩
  cases j with
  |zero=>simp at h1 h2;subst h1;subst h2;exact h
  |succ j=>simp at h1 h2;exact ih.2 j c c' h1 h2
theorem FrzR.sl {fl:Bool}{sz:Nat}{l l':List (List C)}(h:FrzR H S l l'):FrzC H S (.sl fl sz l) (.sl false sz l'):=
 .sl fl sz l l' h.spec.1 (λi r r' h1 h2=>(h.spec.2 i r r' h1 h2).spec.1) λi r r' j c c' h1 h2 h3 h4=>(h.spec.2 i r r' h1 h2).spec.2 j c c' h3 h4
theorem FrzR.ah {l sz n:Nat}{rows rows':List (List C)}(hS:S l=true)(hH:H l=.vec sz rows)(hn:n=rows.length)(h:FrzR H S rows rows'):FrzC H S (.ah l sz 0 n) (.sl false sz rows'):=by
 subst hn;exact .ah l sz 0 rows.length rows rows rows' hS hH ZA ZC h.spec.1 (λi r r' h1 h2=>(h.spec.2 i r r' h1 h2).spec.1) λi r r' j c c' h1 h2 h3 h4=>(h.spec.2 i r r' h1 h2).spec.2 j c c' h3 h4
end Y
variable{R:Y.Rdr}
section
open Go.AE.Y
theorem FrzL.same {l:List C}(h:am l=true):FrzL H S l l:=by
 induction l with
 |nil=>exact .nil
 |cons c r ih=>
  simp only[am,J6,Jj,J5]at h ih;exact .cons (.same _ h.1) (ih (by simpa using h.2))
end
namespace Y
theorem FrzR.same {l:List (List C)}(h:∀r∈l,am r=true):FrzR H S l l:=by
 induction l with
 |nil=>exact .nil
 |cons c r ih=>exact .cons (.same (h _ Jw)) (ih λx hx=>h x (Jv _ hx))
theorem FrzR.app {a a' b b':List (List C)}(h:FrzR H S a a')(k:FrzR H S b b'):FrzR H S (a++b) (a'++b'):=by
 induction h with
 |nil=>exact k
 |cons h t ih=>exact .cons h ih
end Y
section
open Go.AE.Y
theorem Upd.set2{a b:Nat}{oa ob o:Obj}(h:Upd H H' [(a,oa),(b,ob)])(hn:a≠b):Upd H (H'.set b o) [(a,oa),(b,o)]:=by
 refine⟨λp hp=>?_,λm hm hx=>?_⟩
 ·simp at hp;rcases hp with rfl|rfl
  ·show (H'.set b o) a=oa;rw[Heap.aj _ _ hn];exact h.1 (a,oa) ZC
  ·exact Heap.aF _ _ _
 ·have:m≠b:=by simp at hx;exact hx.2
  rw[Heap.aj _ _ this];exact h.2 m hm ZaY
end
namespace Y
inductive St where
 |mk (op:Int) (name:List UInt8) (args:List Ex) (body els:List St)
def St.op:St->Int|.mk op _ _ _ _=>op
def St.name:St->List UInt8|.mk _ s _ _ _=>s
def St.args:St->List Ex|.mk _ _ a _ _=>a
def St.body:St->List St|.mk _ _ _ b _=>b
def St.els:St->List St|.mk _ _ _ _ e=>e
mutual
def St.cells:St->List C
 |.mk op name args body els=>[.int .i64 op,.str name,.sl false 4 (C5 args),.sl false 5 (Cw body),.sl false 5 (Cw els)]
def Cw:List St->List (List C)
 |[]=>[]
 |x::r=>x.cells::Cw r
end
theorem St.aG (x:St):x.cells=[Ui x.op,.str x.name,.sl false 4 (C5 x.args),.sl false 5 (Cw x.body),.sl false 5 (Cw x.els)]:=by
 cases x;simp[St.cells,St.op,St.name,St.args,St.body,St.els]
theorem OT (l:List St):Cw l=l.map St.cells:=by
 induction l with
 |nil=>simp[Cw]
 |cons x r ih=>simp[Cw,ih]
theorem DK (l:List St):(Cw l).length=l.length:=by simp[OT]
theorem GR (l:List St)(i:Nat)(h:i<l.length):(Cw l).getD i []=(l[i]'h).cells:=by
 simp[OT,Je,h]
theorem HT (a b:List St):Cw a++Cw b=Cw (a++b):=by simp[OT]
theorem St.am (x:St):Go.AE.am x.cells=true:=Zba
theorem I2 (l:List St):∀r∈Cw l,Go.AE.am r=true:=by
 intro r hr;rw[OT]at hr;obtain⟨x,_,rfl⟩:=Jh.1 hr;exact x.am
theorem St.aA (x:St):x.cells.length=5:=Zba
mutual
def St.size:St->Nat
 |.mk _ _ args body els=>1+C8 args+Q9 body+Q9 els
def Q9:List St->Nat
 |[]=>0
 |x::r=>x.size+Q9 r
end
mutual
def St.ok:St->Prop
 |.mk _ _ args body els=>0<args.length/\CT args/\CJ body/\CJ els
def CJ:List St->Prop
 |[]=>True
 |x::r=>x.ok/\CJ r
end
theorem VF {l:List St}(h:CJ l):∀x∈l,x.ok:=by
 induction l with
 |nil=>simp
 |cons y r ih=>
  simp only[CJ]at h;intro x hx;rcases Ji.1 hx with rfl|hx
  ·exact h.1
  ·exact ih h.2 x hx
theorem HS {a b:List St}(ha:CJ a)(hb:CJ b):CJ (a++b):=by
 induction a with
 |nil=>exact hb
 |cons x r ih=>simp only[CJ]at ha;exact⟨ha.1,ih ha.2⟩
theorem Ki (a b:List St):Q9 (a++b)=Q9 a+Q9 b:=by
 induction a with
 |nil=>simp[Q9]
 |cons x r ih=>simp[Q9,ih];omega
theorem St.size_eq (x:St):x.size=1+C8 x.args+Q9 x.body+Q9 x.els:=by cases x;simp[St.size,St.args,St.body,St.els]
theorem St.ok_eq (x:St):x.ok=(0<x.args.length/\CT x.args/\CJ x.body/\CJ x.els):=by cases x;simp[St.ok,St.args,St.body,St.els]
theorem Pm {l:List St}{x:St}(h:x∈l):x.size<=Q9 l:=by
 induction l with
 |nil=>simp at h
 |cons y r ih=>
  simp only[Q9];rcases Ji.1 h with rfl|h
  ·omega
  ·have:=ih h;omega
structure Fn where
 name:List UInt8
 params:List (List UInt8)
 body:List St
def Fn.cells (f:Fn):List C:=[.str f.name,.sl false 1 (CO f.params),.sl false 5 (Cw f.body)]
def CC (l:List Fn):List (List C):=l.map Fn.cells
theorem Eb (l:List Fn):(CC l).length=l.length:=by simp[CC]
theorem I5 (l:List Fn)(i:Nat)(h:i<l.length):(CC l).getD i []=(l[i]'h).cells:=by
 simp[CC,Je,h]
theorem NB (a:List Fn)(x:Fn):CC a++[x.cells]=CC (a++[x]):=by simp[CC]
theorem Fn.am (x:Fn):Go.AE.am x.cells=true:=rfl
theorem Fn.aA (x:Fn):x.cells.length=3:=rfl
theorem ND (l:List Fn):∀r∈CC l,Go.AE.am r=true:=by
 intro r hr;obtain⟨x,_,rfl⟩:=Jh.1 hr;exact x.am
structure GS where
 fns:List Fn
 ffl:C×Ul
 vars:List (List UInt8)
 vfl:Bool
 next:Int
 left:Int
def GS.o (s:GS)(R:Rdr):Obj:=.st [.ptr R.l 0,s.ffl.1,.sl s.vfl 1 (CO s.vars),.int .i64 s.next,.int .i64 s.left]
theorem GS.ao (s:GS)(R:Rdr):s.o R≠.none:=by simp[GS.o]
structure GS.ok (s:GS)(k:Nat):Prop where
 n0:-1<=s.next
 n1:s.next<=k+10
 l0:-(4 * (k:Int)+10)<=s.left
 l1:s.left<=100
 v:s.vars.length<=k+10
 f:∀f∈s.fns,f.params.length<=3
 fn:s.fns.length<=3
theorem GS.ok.mono {s:GS}{k k':Nat}(h:s.ok k)(hk:k<=k'):s.ok k':=
 ⟨h.n0,by have:=h.n1;omega,by have:=h.l0;omega,h.l1,by have:=h.v;omega,h.f,h.fn⟩
end Y
section
variable{E L B:Ul}
theorem Upd.drop2{a b:Nat}{oa ob:Obj}(h:Upd H H' [(a,oa),(b,ob)])(hb:H b=ob):Upd H H' [(a,oa)]:=by
 refine⟨λp hp=>h.1 p (by simp at hp;subst hp;simp),λm hm hx=>?_⟩;by_cases iW:m=b
 ·subst iW;rw[hb];exact h.1 (m,ob) ZC
 ·exact h.2 m hm (by simp at hx⊢;exact⟨hx,iW⟩)
theorem Upd.drop1{a:Nat}{oa:Obj}(h:Upd H H' [(a,oa)])(ha:H a=oa):Upd H H' []:=by
 refine⟨ZC,λm hm hx=>?_⟩;by_cases iW:m=a
 ·subst iW;rw[ha];exact h.1 (m,oa) ZC
 ·exact h.2 m hm (by simpa using iW)
theorem Kn.perm {L':Ul}(h:Kn H0 H E L)(hp:L.Perm L'):Kn H0 H E L':=
 ⟨λp bV=>h.get p (by
   rcases Jb.1 bV with a|a
   ·exact Jc _ a
   ·exact Jd _ (hp.mem_iff.2 a)),h.ext,λp bV=>h.loc p (hp.mem_iff.2 bV),h.dE,(hp.map Prod.fst).nodup_iff.1 h.dL,h.chg⟩
def Gr (Lg:List (Nat×Obj))(sz:Nat)(rows:List (List C))(c:C):Prop:=
 (c=.sl true sz []/\rows=[]/\Lg=[])\/∃y,c=.ah y sz 0 rows.length/\Lg=[(y,.vec sz rows)]
theorem Gr.nil (sz:Nat):Gr [] sz [] (.sl true sz []):=.inl ⟨rfl,Rf0⟩
theorem Gr.mk (y sz:Nat)(rows:List (List C)){n:Nat}(hn:n=rows.length):Gr [(y,.vec sz rows)] sz rows (.ah y sz 0 n):=.inr ⟨y,by rw[hn],rfl⟩
variable{rows:List (List C)}{c:C}
theorem Gr.ai (h:Gr Lg sz rows c):c.ai=false:=by rcases h with ⟨rfl,_⟩|⟨y,rfl,_⟩ <;> rfl
theorem Gr.aQ (h:Gr Lg sz rows c):c.aQ=sz:=by rcases h with ⟨rfl,_⟩|⟨y,rfl,_⟩ <;> rfl
theorem Gr.ay (h:Gr Lg sz rows c):ay c=rows.length:=by
 rcases h with ⟨rfl,rfl,_⟩|⟨y,rfl,_⟩ <;> rfl
theorem Gr.get (h:Gr Lg sz rows c)(kn:Kn H0 H E (B++Lg)):aZ H c/\rowsOf H c=rows:=by
 rcases h with ⟨rfl,rfl,_⟩|⟨y,rfl,rfl⟩
 ·exact⟨trivial,rfl⟩
 ·have hy:H y=.vec sz rows:=(kn.get (y,.vec sz rows) ZC).1;refine⟨?_,?_⟩
  ·simp[aZ,hy]
  ·simp[rowsOf,hy]
theorem Gr.aZ (h:Gr Lg sz rows c)(kn:Kn H0 H E (B++Lg)):Go.AE.aZ H c:=(h.get kn).1
theorem Gr.rowsOf (h:Gr Lg sz rows c)(kn:Kn H0 H E (B++Lg)):Go.AE.rowsOf H c=rows:=(h.get kn).2
theorem Gr.frz (h:Gr Lg sz rows c)(kn:Kn H0 H E (B++Lg))(hr:∀r∈rows,am r=true):FrzC H (un H0) c (.sl false sz rows):=by
 rcases h with ⟨rfl,rfl,_⟩|⟨y,rfl,rfl⟩
 ·exact Y.FrzR.nil.sl
 ·exact (Y.FrzR.same hr).ah (Ef (kn.loc (y,.vec sz rows) ZC)) (kn.get (y,.vec sz rows) ZC).1 rfl
theorem Gr.frzR {rows':List (List C)}(h:Gr Lg sz rows c)(kn:Kn H0 H E (B++Lg))(hr:Y.FrzR H (un H0) rows rows'):FrzC H (un H0) c (.sl false sz rows'):=by
 rcases h with ⟨rfl,rfl,_⟩|⟨y,rfl,rfl⟩
 ·cases hr;exact Y.FrzR.nil.sl
 ·exact hr.ah (Ef (kn.loc (y,.vec sz rows) ZC)) (kn.get (y,.vec sz rows) ZC).1 rfl
structure Slc (H:Heap)(sz:Nat)(rws:List (List C))(b:C):Prop where
 ok:aZ H b
 sz:b.aQ=sz
 rows:rowsOf H b=rws
 len:Go.AE.ay b=rws.length
theorem Slc.mk' (H:Heap)(fl:Bool)(sz:Nat)(rows:List (List C)):Slc H sz rows (.sl fl sz rows):=⟨trivial,rfl,rfl,rfl⟩
theorem Kn.grow{new:List (List C)}{b:C}(kn:Kn H0 H E (B++Lg))(hc:Gr Lg sz rows c)(hb:Slc H sz new b)
  (h1:∀r∈new,am r=true) (h2:rows.length+new.length<=LIM)
  (h:∀y' H',Kn H0 H' E (B++[(y',.vec sz (rows++new))])->K (.c (.ah y' sz 0 (rows.length+new.length))) H'):appQ H sz c b K:=by
 refine⟨hb.ok,hb.sz,?_⟩;rcases hc with ⟨rfl,rfl,rfl⟩|⟨y,rfl,rfl⟩
 ·simp only[hb.rows,hb.len,Jt,Jao,Jav];refine⟨trivial,.inl trivial,h1,Zab,λl hl H' ey=>?_⟩;rw[Jan]at kn;have:=h l H' (by simpa using kn.al hl ey);simpa using this
 ·have hy:H y=.vec sz rows:=(kn.get (y,.vec sz rows) ZC).1;simp only[hy,hb.rows,hb.len,Jah,List.take_length];refine⟨trivial,trivial,ZA,h1,h2,λl' dq H' ey=>?_⟩;refine h l' H' ?_;have:=kn.ap B.length (y:=y) (o:=.vec sz rows) ZC dq ey;simpa using this
end
namespace Y
variable{gl:Nat}{s s':GS}{L:Ul}{o q:Obj}
def FnsOk (H:Heap)(R:Rdr)(gl:Nat)(s:GS):Prop:=Gr s.ffl.2 3 (CC s.fns) s.ffl.1/\∀p∈s.ffl.2,H p.1=p.2/\p.1≠R.l/\p.1≠gl
theorem FnsOk.keep (h:FnsOk H R gl s)(kn:Kn H H' [(R.l,o),(gl,q)] L)(h1:s'.fns=s.fns)(h2:s'.ffl=s.ffl):FnsOk H' R gl s':=by
 refine⟨by rw[h1,h2];exact h.1,λp hp=>?_⟩;rw[h2]at hp;obtain⟨a1,a2,a3⟩:=h.2 p hp;refine⟨?_,a2,a3⟩;have hn:p.2≠.none:=by
  rcases h.1 with ⟨_,_,hx⟩|⟨y,_,hx⟩
  ·rw[hx]at hp;simp at hp
  ·rw[hx]at hp;simp at hp;subst hp;simp
 rw[kn.chg p.1 (by rw[a1];exact hn) (by simp[a2,a3]),a1]
theorem FnsOk.rd (h:FnsOk H R gl s):aZ H s.ffl.1=True/\rowsOf H s.ffl.1=CC s.fns:=by
 rcases h.1 with ⟨h1,h2,h3⟩|⟨y,h1,h3⟩
 ·rw[h1,h2];exact⟨rfl,rfl⟩
 ·have hy:H y=.vec 3 (CC s.fns):=(h.2 (y,.vec 3 (CC s.fns)) (by rw[h3];simp)).1;rw[h1];exact⟨by simp[aZ,hy],by simp[rowsOf,hy]⟩
theorem FnsOk.ok (h:FnsOk H R gl s)(kn:Kn H H' [(R.l,o),(gl,q)] L):aZ H' s.ffl.1=True:=(h.keep kn rfl rfl).rd.1
theorem FnsOk.rows (h:FnsOk H R gl s)(kn:Kn H H' [(R.l,o),(gl,q)] L):rowsOf H' s.ffl.1=CC s.fns:=(h.keep kn rfl rfl).rd.2
theorem FnsOk.len (h:FnsOk H R gl s):ay s.ffl.1=s.fns.length:=by rw[h.1.ay,Eb]
theorem FnsOk.esz (h:FnsOk H R gl s):s.ffl.1.aQ=3:=h.1.aQ
theorem FnsOk.ow (h:FnsOk H R gl s):s.ffl.1.ai=false:=h.1.ai
end Y
section
variable{E L B E0 L0:Ul}
def New (H H':Heap)(N:List (Nat×Obj)):Prop:=∀p∈N,H p.1=.none/\H' p.1=p.2
theorem Kn.add1 (kn0:Kn H0 H E0 L0)(kn:Kn H0 H' E L)(hE:E.map Prod.fst=E0.map Prod.fst)(hL:L.map Prod.fst=L0.map Prod.fst){o:Obj}(hx:H x=.none)(gP:H' x=o)(ho:o≠.none):Kn H0 H' E (L++[(x,o)]):=by
 obtain⟨h1,h2,h3⟩:=kn0.newFree hx;refine⟨λp hp=>?_,kn.ext,λp hp=>?_,kn.dE,?_,kn.chg⟩
 ·rw[<-Jl]at hp;rcases Jb.1 hp with hp|hp
  ·exact kn.get p hp
  ·simp at hp;subst hp;exact⟨gP,ho⟩
 ·rcases Jb.1 hp with hp|hp
  ·exact kn.loc p hp
  ·simp at hp;subst hp;exact h1
 ·rw[Jo];refine Jk.2 ⟨kn.dL,ZC,λa ha b hb=>?_⟩;simp at hb;subst hb;rw[hL]at ha;exact λhh=>h3 (hh▸ha)
theorem Kn.addGr{rows:List (List C)}{c:C}(kn0:Kn H0 H E0 L0)(kn:Kn H0 H' E L)(hE:E.map Prod.fst=E0.map Prod.fst)(hL:L.map Prod.fst=L0.map Prod.fst)(hg:Gr Lg sz rows c)(hn:New H H' Lg):Kn H0 H' E (L++Lg):=by
 rcases hg with ⟨_,_,rfl⟩|⟨y,_,rfl⟩
 ·simpa using kn
 ·obtain⟨h1,h2⟩:=hn (y,.vec sz rows) ZC;exact kn0.add1 kn hE hL h1 h2 ZC
def unx (H:Heap)(Lg:List (Nat×Obj))(m:Nat):Bool:=un H m&&!(Lg.map Prod.fst).contains m
theorem KV {m:Nat}(h:H m≠.none):unx H Lg m=false:=by simp[unx,Hn h]
theorem Qa50(h:p∈Lg):unx H Lg p.1=false:=by
 have:p.1∈Lg.map Prod.fst:=CD h;simp only[unx,Bool.and_eq_false_iff,Bool.not_eq_false'];exact .inr (List.contains_iff_mem.2 this)
theorem Kn.finx (hk:Kn H0 H E (B++Lg)):Upd H0 (H.frz (Go.AE.unx H0 Lg)) E/\New H0 (H.frz (Go.AE.unx H0 Lg)) Lg:=by
 refine⟨⟨λp hp=>?_,λm hm hn=>?_⟩,λp hp=>⟨hk.loc p (Jd _ hp),?_⟩⟩
 ·have:H.frz (Go.AE.unx H0 Lg) p.1=H p.1:=by simp[Heap.frz,KV (hk.ext p hp)]
  rw[this];exact (hk.get p (Jc _ hp)).1
 ·have:H.frz (Go.AE.unx H0 Lg) m=H m:=by simp[Heap.frz,KV hm]
  rw[this];exact hk.chg m hm hn
 ·have:H.frz (Go.AE.unx H0 Lg) p.1=H p.1:=by simp only[Heap.frz];rw[Qa50 hp];rfl
  rw[this];exact (hk.get p (Jd _ (Jd _ hp))).1
end
namespace Y
theorem CS {b:Bool}(h:(!b)=false):b=true:=ZI
theorem DE {b:Bool}(h:(!b)=true):b=false:=ZI
theorem Ex.ne_nil (x:Ex):(x.cells=[])=False:=by rw[x.aG];simp
theorem Ex.cG (x:Ex):x.cells.take 4=x.cells:=J1 (by rw[x.aA];omega)
theorem Ex.b6 (x:Ex):(x.cells.all λc=>!c.ai)=true:=x.am
theorem St.take5 (x:St):x.cells.take 5=x.cells:=J1 (by rw[x.aA];omega)
theorem St.b6 (x:St):(x.cells.all λc=>!c.ai)=true:=x.am
theorem Fn.take3 (x:Fn):x.cells.take 3=x.cells:=J1 (by rw[x.aA];omega)
theorem Fn.b6 (x:Fn):(x.cells.all λc=>!c.ai)=true:=x.am
end Y
section
variable{E L B A:Ul}
theorem c_gh{e e':Env}(h:FO e H e' H')(hb:Cr P b Q e' H'):Cr P (.seq .gh b) Q e H:=⟨e',H',h,hb⟩
theorem Kn.drop (kn:Kn H0 H E (A++B)):Kn H0 H E A:=
 ⟨λp hp=>kn.get p (by
   rcases Jb.1 hp with h|h
   ·exact Jc _ h
   ·exact Jd _ (Jc _ h)),kn.ext,λp hp=>kn.loc p (Jc _ hp),kn.dE,by
   have:=kn.dL;rw[Jo]at this;exact (Jk.1 this).1,kn.chg⟩
theorem Kn.freeze {z gl:Nat}{o og og':Obj}(kn:Kn H0 H E (B++[(z,o)]))(i:Nat)(hB:B[i]? = some (gl,og))(hO:FrzO H (λm=>m == z) og og')(hn:og'≠.none) :
  FrzH H (λm=>m == z) ((H.frz λm=>m == z).set gl og')/\Kn H0 ((H.frz λm=>m == z).set gl og') E (B.set i (gl,og')):=by
 have fk:H0 z=.none:=kn.loc (z,o) ZC;have df:=kn.dL;rw[Jo]at df;have be:∀p∈B,p.1≠z:=λp hp hh=>(Jk.1 df).2.2 _ (CD hp) z ZC hh;have rG:∀p∈E,p.1≠z:=λp hp hh=>kn.ext p hp (hh▸fk);have cW:=be _ (Ja hB);have hH:H gl=og:=(kn.get (gl,og) (Jd _ (Jc _ (Ja hB)))).1;refine⟨(E9 _ _).set (by simpa using cW) (by rw[hH];exact hO),?_⟩;have kn1:Kn H0 (H.frz λm=>m == z) E B:=by
  refine⟨λp hp=>?_,kn.ext,λp hp=>kn.loc p (Jc _ hp),kn.dE,(Jk.1 df).1,λm hm hx=>?_⟩
  ·have:p.1≠z:=by
    rcases Jb.1 hp with h|h
    ·exact rG p h
    ·exact be p h
   have h2:(H.frz λm=>m == z) p.1=H p.1:=by simp[Heap.frz,this]
   rw[h2];refine kn.get p ?_;rcases Jb.1 hp with h|h
   ·exact Jc _ h
   ·exact Jd _ (Jc _ h)
  ·have:m≠z:=λh=>hm (h▸fk);have h2:(H.frz λm=>m == z) m=H m:=by simp[Heap.frz,this]
   rw[h2];exact kn.chg m hm hx
 exact kn1.setL i hB hn
theorem Kn.callEL (hk:Kn H0 H E L)(i j:Nat){l m:Nat}{o q q':Obj}(h:E[i]? = some (l,o))(h2:L[j]? = some (m,q))(hu:Upd H H' [(l,o'),(m,q')])(ho:o'≠.none)(hq:q'≠.none) :
  Kn H0 H' (E.set i (l,o')) (L.set j (m,q')):=by
 refine hk.callg hu (F9 h) (F9 h2) (λp hp=>?_) (λu hu=>?_)
 ·rcases Jb.1 hp with hp|hp
  ·rcases Ew hp with rfl|⟨b,hb,hp⟩
   ·exact⟨ho,.inl ZC⟩
   ·have hm:=Jc L (Ja hp);refine⟨(hk.get p hm).2,.inr ⟨hm,?_⟩⟩;simp only[Js,Jaa,Ji,Jae,or_false,not_or];exact⟨λhh=>hb (Ev hk.dE hp h hh),λhh=>hk.ext p (Ja hp) (hh▸hk.free j h2)⟩
  ·rcases Ew hp with rfl|⟨b,hb,hp⟩
   ·exact⟨hq,.inl ZC⟩
   ·have hm:=Jd E (Ja hp);refine⟨(hk.get p hm).2,.inr ⟨hm,?_⟩⟩;simp only[Js,Jaa,Ji,Jae,or_false,not_or];exact⟨λhh=>hk.usedE i h (hh▸hk.loc p (Ja hp)),λhh=>hb (Ev hk.dL hp h2 hh)⟩
 ·simp at hu;rcases hu with rfl|rfl
  ·exact .inl (CD (p:=(l,o)) (Ja h))
  ·exact .inr (CD (p:=(m,q)) (Ja h2))
end
namespace Y
structure Blk where
 ic:C
 aX:List (List C)
 lg:Ul
 jump:Int
 on:Int
 nfl:Bool
 next:List Int
def Blk.row (b:Blk):List C:=[.sl true 2 [],b.ic,.int .i64 b.jump,.int .i64 b.on,.sl b.nfl 1 (Qb b.next)]
structure LS where
 fns:List Fn
 pfl:Bool
 params:Int
 ae:Int
 bc:C
 lb:Ul
 blocks:List Blk
 at_:Nat
 vc:C
 lv:Ul
 vars:List (List C)
 next:Int
def LS.o (s:LS):Obj:=.st [.sl s.pfl 3 (CC s.fns),.int .i64 s.params,.int .i64 s.ae,s.bc,.int .i64 s.at_,s.vc,.int .i64 s.next,.sl true 1 []]
def LS.L (s:LS)(w:Nat):List (Nat×Obj):=[(w,s.o)]++(s.lb++(s.lv++s.blocks.flatMap Blk.lg))
def InsRow (r:List C):Prop:=∃(op to n:Int) (fl:Bool) (args:List Int),r=[.int .i64 op,.int .i64 to,.sl fl 1 (Qb args),.int .i64 n]
def VarRow (r:List C):Prop:=∃(s:List UInt8) (a b:Int),r=[.str s,.int .i64 a,.int .i64 b]
def VGr (lv:List (Nat×Obj))(vars:List (List C))(c:C):Prop:=
 (c=.sl true 3 []/\vars=[]/\lv=[])\/∃y all n,c=.ah y 3 0 n/\n<=all.length/\vars=all.take n/\lv=[(y,.vec 3 all)]
structure LInv (F H:Heap)(w:Nat)(s:LS):Prop where
 kn:Kn F H [] (s.L w)
 gb:Gr s.lb 5 (s.blocks.map Blk.row) s.bc
 gv:VGr s.lv s.vars s.vc
 gi:∀b∈s.blocks,Gr b.lg 4 b.aX b.ic
 ri:∀b∈s.blocks,∀r∈b.aX,InsRow r
 rv:∀r∈s.vars,VarRow r
structure LS.ok (s:LS)(N:Nat):Prop where
 r0:0<=s.ae
 r1:s.ae<=N
 n0:0<=s.next
 n1:s.next<=N
 b1:s.blocks.length<=N
 i1:∀b∈s.blocks,b.aX.length<=N
 v1:s.vars.length<=N
theorem LS.ok.mono {s:LS}{M:Nat}(h:s.ok N)(hm:N<=M):s.ok M:=
 ⟨h.r0,by have:=h.r1;omega,h.n0,by have:=h.n1;omega,by have:=h.b1;omega,λb hb=>by have:=h.i1 b hb;omega,by have:=h.v1;omega⟩
theorem InsRow.am {r:List C}(h:InsRow r):Go.AE.am r=true:=by obtain⟨_,_,_,_,_,rfl⟩:=h;rfl
theorem VarRow.am {r:List C}(h:VarRow r):Go.AE.am r=true:=by obtain⟨_,_,_,rfl⟩:=h;rfl
theorem VGr.ai {lv:Ul}{vars:List (List C)}{c:C}(h:VGr lv vars c):c.ai=false:=by
 rcases h with ⟨rfl,_⟩|⟨_,_,_,rfl,_⟩ <;> rfl
theorem VGr.aQ {lv:Ul}{vars:List (List C)}{c:C}(h:VGr lv vars c):c.aQ=3:=by
 rcases h with ⟨rfl,_⟩|⟨_,_,_,rfl,_⟩ <;> rfl
theorem VGr.ay {lv:Ul}{vars:List (List C)}{c:C}(h:VGr lv vars c):Go.AE.ay c=vars.length:=by
 rcases h with ⟨rfl,rfl,_⟩|⟨_,_,_,rfl,h,rfl,_⟩
 ·rfl
 ·simp[Go.AE.ay];omega
variable{F:Heap}{w:Nat}{s:LS}
theorem LInv.hw (h:LInv F H w s):H w=s.o:=h.kn.l 0 rfl
theorem LInv.vget (h:LInv F H w s):aZ H s.vc=True/\rowsOf H s.vc=s.vars:=by
 rcases h.gv with ⟨h1,h2,_⟩|⟨y,all,n,h1,h2,h3,h4⟩
 ·rw[h1,h2];exact⟨rfl,rfl⟩
 ·have hy:H y=.vec 3 all:=(h.kn.get (y,.vec 3 all) (by simp[LS.L,h4])).1;rw[h1];refine⟨eq_true ?_,?_⟩
  ·simp only[Go.AE.aZ,hy];exact⟨trivial,ZA⟩
  ·simp only[Go.AE.rowsOf,hy,Jah,h3]
theorem LInv.bvec (h:LInv F H w s)(hb:0<s.blocks.length):∃y,s.bc=.ah y 5 0 s.blocks.length/\s.lb=[(y,.vec 5 (s.blocks.map Blk.row))]/\H y=.vec 5 (s.blocks.map Blk.row):=by
 rcases h.gb with ⟨_,h2,_⟩|⟨y,h1,h2⟩
 ·simp at h2;rw[h2]at hb;simp at hb
 ·refine⟨y,by rw[h1];simp,h2,?_⟩;exact (h.kn.get (y,.vec 5 (s.blocks.map Blk.row)) (by simp[LS.L,h2])).1
theorem LInv.setw {s':LS}(h:LInv F H w s)(h1:H'=H.set w s'.o)(a1:s'.lb=s.lb)(a2:s'.lv=s.lv)(a3:s'.blocks=s.blocks)(a4:s'.bc=s.bc)(a5:VGr s.lv s'.vars s'.vc)(a6:∀r∈s'.vars,VarRow r):LInv F H' w s':=by
 refine⟨?_,by rw[a1,a3,a4];exact h.gb,by rw[a2];exact a5,by rw[a3];exact h.gi,by rw[a3];exact h.ri,a6⟩;have:=h.kn.az 0 (x:=w) (o:=s.o) rfl h1 (by simp[LS.o]);simp only[LS.L,a1,a2,a3];exact this
theorem Qa0k{A X Y:List α}:(A++(X++Y)).Perm ((A++Y)++X):=by
 rw[Jl];exact .append_left _ Jr
theorem LInv.addBlk{b:Blk}(h:LInv F H w s)(hl:s.blocks.length+1<=LIM)(b1:b.lg=[])(b2:b.ic=.sl true 4 [])(b3:b.aX=[])
  (hK:∀(y:Nat) (H1:Heap),H1 w=s.o->(∀H2,H2=H1.set w (LS.o { s with bc:=.ah y 5 0 (s.blocks.length+1) })->
   LInv F H2 w { s with bc:=.ah y 5 0 (s.blocks.length+1),lb:=[(y,.vec 5 ((s.blocks++[b]).map Blk.row))],blocks:=s.blocks++[b] })->K (.c (.ah y 5 0 (s.blocks.length+1))) H1) :
  appQ H 5 s.bc (.sl fl 5 [b.row]) K:=by
 have kn:=h.kn;have kn:Kn F H [] (([(w,s.o)]++(s.lv++s.blocks.flatMap Blk.lg))++s.lb):=kn.perm Qa0k;refine kn.grow h.gb (.mk' _ _ _ _) (by
  intro r hr;simp only[Jm]at hr;subst hr;simp only[Blk.row,b2];rfl) Zag λy H1 kn=>?_
 have e1:(s.blocks.map Blk.row).length+[b.row].length=s.blocks.length+1:=ZC
 rw[e1];refine hK y H1 (kn.l 0 rfl) λH2 h2=>⟨?_,?_,h.gv,?_,?_,h.rv⟩
 ·have:=kn.az 0 (x:=w) (o:=s.o) rfl h2 (by simp[LS.o]);simp only[LS.L,Jaq,List.flatMap_cons,List.flatMap_nil,b1,Jan,Jo,Js,Jaa];simp only[J0,Jt,Jat]at this⊢;refine this.perm (.cons _ ?_);exact Jr
 ·exact .mk _ _ _ ZC
 ·intro b' aW;rcases Jb.1 aW with aW|aW
  ·exact h.gi b' aW
  ·simp at aW;subst aW;rw[b1,b2,b3];exact .nil 4
 ·intro b' aW;rcases Jb.1 aW with aW|aW
  ·exact h.ri b' aW
  ·simp at aW;subst aW;rw[b3];simp
theorem F4 {β:Type}(f:α->List β)(l:List α)(i:Nat)(hi:i<l.length):(l.flatMap f).Perm (f l[i]++(l.eraseIdx i).flatMap f):=by
 have h1:(l[i]::l.eraseIdx i).Perm l:=by
  rw[List.eraseIdx_eq_take_drop_succ];refine List.perm_middle.symm.trans ?_;rw[<-List.drop_eq_getElem_cons hi,List.take_append_drop]
 have h2:=h1.symm.flatMap_right f;simpa using h2
theorem FF {β:Type}(f:α->List β)(l:List α)(i:Nat)(x:α)(hi:i<l.length):((l.set i x).flatMap f).Perm (f x++(l.eraseIdx i).flatMap f):=by
 have:=F4 f (l.set i x) i ZV;simpa[List.eraseIdx_set_eq]using this
theorem Q6f (l:List Blk)(i:Nat)(b:Blk):(l.map Blk.row).set i b.row=(l.set i b).map Blk.row:=by rw[Jab]
theorem I9 {l:List Blk}{b x:Blk}(h:x∈l.set i b):x=b\/x∈l:=by
 rcases Ew h with h|⟨j,_,h⟩
 ·exact .inl h
 ·exact .inr (Ja h)
theorem LInv.setBlk {b':Blk}(h:LInv F H w s)(hi:i<s.blocks.length)(dV:s.bc=.ah y 5 0 s.blocks.length)(qe:s.lb=[(y,.vec 5 (s.blocks.map Blk.row))])
  (h1:H'=H.set y (.vec 5 ((s.blocks.set i b').map Blk.row))) (a1:b'.lg=s.blocks[i].lg) (a2:b'.ic=s.blocks[i].ic) (a3:b'.aX=s.blocks[i].aX) :
  LInv F H' w { s with lb:=[(y,.vec 5 ((s.blocks.set i b').map Blk.row))],blocks:=s.blocks.set i b' }:=by
 have hm:=J7 hi;refine⟨?_,?_,h.gv,λb hb=>?_,λb hb=>?_,h.rv⟩
 ·have kn:=h.kn;simp only[LS.L,qe]at kn;have kn:=kn.az 1 (x:=y) rfl h1;refine kn.perm ?_;simp only[LS.L,J0,Jt,Jat,List.set_cons_succ];refine .cons _ (.cons _ (.append_left _ ?_));refine (F4 Blk.lg s.blocks i hi).trans ?_;rw[<-a1];exact (FF Blk.lg s.blocks i b' hi).symm
 ·simp only[dV];exact .mk _ _ _ ZC
 ·rcases I9 hb with rfl|hb
  ·rw[a1,a2,a3];exact h.gi _ hm
  ·exact h.gi b hb
 ·rcases I9 hb with rfl|hb
  ·rw[a3];exact h.ri _ hm
  ·exact h.ri b hb
theorem LInv.addIns{r:List C}(h:LInv F H w s)(hi:i<s.blocks.length)(dV:s.bc=.ah y 5 0 s.blocks.length)(qe:s.lb=[(y,.vec 5 (s.blocks.map Blk.row))])
  (hr:InsRow r) (hl:s.blocks[i].aX.length+1<=LIM)
  (hK:∀(z:Nat) (H1:Heap),H1 w=s.o->H1 y=.vec 5 (s.blocks.map Blk.row)->
   (∀H2,H2=H1.set y (.vec 5 ((s.blocks.map Blk.row).set i (Blk.row { s.blocks[i]with ic:=.ah z 4 0 (s.blocks[i].aX.length+1) })))->
    ∃b':Blk,b'.aX.length=s.blocks[i].aX.length+1/\LInv F H2 w { s with lb:=[(y,.vec 5 ((s.blocks.set i b').map Blk.row))],blocks:=s.blocks.set i b' })->K (.c (.ah z 4 0 (s.blocks[i].aX.length+1))) H1) :
  appQ H 4 s.blocks[i].ic (.sl fl 4 [r]) K:=by
 have hm:=J7 hi;have kn:=h.kn;simp only[LS.L]at kn;have kn:Kn F H [] (([(w,s.o)]++(s.lb++(s.lv++(s.blocks.eraseIdx i).flatMap Blk.lg)))++s.blocks[i].lg):=kn.perm (by
  have h1:(s.blocks.flatMap Blk.lg).Perm ((s.blocks.eraseIdx i).flatMap Blk.lg++s.blocks[i].lg):=(F4 Blk.lg s.blocks i hi).trans Jr;refine ((h1.append_left _).append_left _ |>.append_left _).trans ?_;simp only[Jl];exact .refl _)
 refine kn.grow (h.gi _ hm) (.mk' _ _ _ _) (by intro r' bd;simp only[Jm]at bd;subst bd;exact hr.am) Zag λz H1 kn=>?_;have e1:s.blocks[i].aX.length+[r].length=s.blocks[i].aX.length+1:=ZC
 rw[e1];simp only[qe]at kn;refine hK z H1 (kn.l 0 rfl) (kn.l 1 rfl) λH2 h2=>?_;refine⟨{ s.blocks[i]with ic:=.ah z 4 0 (s.blocks[i].aX.length+1),aX:=s.blocks[i].aX++[r],lg:=[(z,.vec 4 (s.blocks[i].aX++[r]))] },ZC,?_⟩;have aD:Blk.row { s.blocks[i]with ic:=.ah z 4 0 (s.blocks[i].aX.length+1) }=Blk.row { s.blocks[i]with ic:=.ah z 4 0 (s.blocks[i].aX.length+1),aX:=s.blocks[i].aX++[r],lg:=[(z,.vec 4 (s.blocks[i].aX++[r]))] }:=rfl;rw[aD,Q6f]at h2;refine⟨?_,?_,h.gv,λb hb=>?_,λb hb=>?_,h.rv⟩
 ·have kn:=kn.az 1 (x:=y) rfl h2;refine kn.perm ?_;simp only[LS.L];have h1:=(FF Blk.lg s.blocks i { s.blocks[i]with ic:=.ah z 4 0 (s.blocks[i].aX.length+1),aX:=s.blocks[i].aX++[r],lg:=[(z,.vec 4 (s.blocks[i].aX++[r]))] } hi).symm;have h3:=(Jr.trans h1).append_left ([(w,s.o)]++([(y,Obj.vec 5 ((s.blocks.set i { s.blocks[i]with ic:=.ah z 4 0 (s.blocks[i].aX.length+1),aX:=s.blocks[i].aX++[r],lg:=[(z,.vec 4 (s.blocks[i].aX++[r]))] }).map Blk.row))]++s.lv));refine List.Perm.trans ?_ (h3.trans ?_)
  ·simp only[List.set,J0,Jt,Jl];exact .refl _
  ·simp only[J0,Jt];exact .refl _
 ·simp only[dV];exact .mk _ _ _ ZC
 ·rcases I9 hb with rfl|hb
  ·exact .mk _ _ _ ZC
  ·exact h.gi b hb
 ·rcases I9 hb with rfl|hb
  ·intro r' bd;rcases Jb.1 bd with bd|bd
   ·exact h.ri _ hm r' bd
   ·simp at bd;subst bd;exact hr
  ·exact h.ri b hb
theorem LInv.addVar{r:List C}(h:LInv F H w s)(hr:VarRow r)(hl:s.vars.length+1<=LIM)
  (hK:∀(y:Nat) (H1:Heap),H1 w=s.o->(∀H2,H2=H1.set w (LS.o { s with vc:=.ah y 3 0 (s.vars.length+1) })->
   LInv F H2 w { s with vc:=.ah y 3 0 (s.vars.length+1),lv:=[(y,.vec 3 (s.vars++[r]))],vars:=s.vars++[r] })->K (.c (.ah y 3 0 (s.vars.length+1))) H1) :
  appQ H 3 s.vc (.sl fl 3 [r]) K:=by
 have xT:∀r'∈s.vars++[r],VarRow r':=λr' bd=>by
  rcases Jb.1 bd with h1|h1
  ·exact h.rv r' h1
  ·simp at h1;subst h1;exact hr
 have kn:=h.kn;have kn:Kn F H [] (([(w,s.o)]++(s.lb++s.blocks.flatMap Blk.lg))++s.lv):=kn.perm (by
  simp only[LS.L];refine List.Perm.trans (.append_left _ (.append_left _ Jr)) ?_;simp only[Jl];exact .refl _)
 have fin:∀(y:Nat) (H1:Heap),Kn F H1 [] (([(w,s.o)]++(s.lb++s.blocks.flatMap Blk.lg))++[(y,.vec 3 (s.vars++[r]))])->K (.c (.ah y 3 0 (s.vars.length+1))) H1:=by
  intro y H1 kn;refine hK y H1 (kn.l 0 rfl) λH2 h2=>⟨?_,h.gb,.inr ⟨y,s.vars++[r],s.vars.length+1,rfl,ZC,by rw[J1 ZC],rfl⟩,h.gi,h.ri,xT⟩;have kn:=kn.az 0 (x:=w) (o:=s.o) rfl h2 (by simp[LS.o]);refine kn.perm ?_;simp only[LS.L,List.set,J0,Jt,Jl];refine .cons _ (.append_left _ ?_);exact Jr
 refine⟨trivial,rfl,?_⟩;rcases h.gv with ⟨h1,h2,h3⟩|⟨y,all,n,h1,h2,h3,h4⟩
 ·rw[h1];rw[h3,Jan]at kn;simp only[rowsOf,Go.AE.ay,Jt,Jao,Jav,Jap];refine⟨trivial,.inl trivial,by intro r' bd;simp only[Jm]at bd;subst bd;exact hr.am,by simp only[LIM];omega,λl hl H' ey=>?_⟩;have:=fin l H' (by rw[h2];simpa using kn.al hl ey);rw[h2]at this;exact this
 ·rw[h4]at kn;have hy:H y=.vec 3 all:=(kn.get (y,.vec 3 all) ZC).1;have hn:s.vars.length=n:=by rw[h3];simp;omega
  rw[h1];simp only[hy,rowsOf,Go.AE.ay,Jah,Jap];refine⟨trivial,trivial,ZA,by intro r' bd;simp only[Jm]at bd;subst bd;exact hr.am,ZA,λl' dq H' ey=>?_⟩;rw[<-hn]at ey⊢;rw[hn,<-h3]at ey;refine fin l' H' ?_;have:=kn.ap ([(w,s.o)]++(s.lb++s.blocks.flatMap Blk.lg)).length (y:=y) (o:=.vec 3 all) ZC dq ey;simpa using this
end Y
namespace Y
structure InsD where
 op:Int
 to:Int
 args:List Int
 n:Int
def InsD.cells (x:InsD):List C:=[.int .i64 x.op,.int .i64 x.to,.sl false 1 (Qb x.args),.int .i64 x.n]
structure PhiD where
 to:Int
 args:List Int
def PhiD.cells (x:PhiD):List C:=[.int .i64 x.to,.sl false 1 (Qb x.args)]
def Cu (l:List InsD):List (List C):=l.map InsD.cells
def Q3 (l:List PhiD):List (List C):=l.map PhiD.cells
structure BlkD where
 ab:List PhiD
 ins:List InsD
 jump:Int
 on:Int
 next:List Int
def BlkD.cells (x:BlkD):List C:=[.sl false 2 (Q3 x.ab),.sl false 4 (Cu x.ins),.int .i64 x.jump,.int .i64 x.on,.sl false 1 (Qb x.next)]
def Qo (l:List BlkD):List (List C):=l.map BlkD.cells
structure CodeD where
 params:Int
 ae:Int
 blocks:List BlkD
def CodeD.cells (x:CodeD):List C:=[.int .i64 x.params,.int .i64 x.ae,.sl false 5 (Qo x.blocks)]
def Qm (l:List CodeD):List (List C):=l.map CodeD.cells
theorem CR (l:List InsD):(Cu l).length=l.length:=by simp[Cu]
theorem Qz (l:List PhiD):(Q3 l).length=l.length:=by simp[Q3]
theorem Qn (l:List BlkD):(Qo l).length=l.length:=by simp[Qo]
theorem Q8 (l:List CodeD):(Qm l).length=l.length:=Zbo
theorem Fd (l:List InsD)(i:Nat)(h:i<l.length):(Cu l).getD i []=(l[i]'h).cells:=by simp[Cu,Je,h]
theorem D2 (l:List PhiD)(i:Nat)(h:i<l.length):(Q3 l).getD i []=(l[i]'h).cells:=by simp[Q3,Je,h]
theorem CU (l:List BlkD)(i:Nat)(h:i<l.length):(Qo l).getD i []=(l[i]'h).cells:=by simp[Qo,Je,h]
theorem DP (l:List CodeD)(i:Nat)(h:i<l.length):(Qm l).getD i []=(l[i]'h).cells:=by simp[Qm,Je,h]
theorem GT (l:List InsD):∀r∈Cu l,am r=true:=by intro r hr;obtain⟨x,_,rfl⟩:=Jh.1 hr;rfl
theorem RM (l:List PhiD):∀r∈Q3 l,am r=true:=by intro r hr;obtain⟨x,_,rfl⟩:=Jh.1 hr;rfl
theorem RV (l:List BlkD):∀r∈Qo l,am r=true:=by intro r hr;obtain⟨x,_,rfl⟩:=Jh.1 hr;rfl
theorem EV (l:List CodeD):∀r∈Qm l,am r=true:=by intro r hr;obtain⟨x,_,rfl⟩:=Jh.1 hr;rfl
theorem Qag1 (a:List CodeD)(x:CodeD):Qm a++[x.cells]=Qm (a++[x]):=Zbo
theorem Qaqh (a:List InsD)(x:InsD):Cu a++[x.cells]=Cu (a++[x]):=by simp[Cu]
theorem Gr.frzM{rows rows':List (List C)}{c:C}(h:Gr Lg sz rows c)(hm:∀p∈Lg,H p.1=p.2/\S p.1=true)(hr:FrzR H S rows rows'):FrzC H S c (.sl false sz rows'):=by
 rcases h with ⟨rfl,rfl,rfl⟩|⟨y,rfl,rfl⟩
 ·cases hr;exact FrzR.nil.sl
 ·obtain⟨h1,h2⟩:=hm (y,.vec sz rows) ZC;exact hr.ah h2 h1 rfl
theorem InsRow.frz {r:List C}(h:InsRow r):∃d:InsD,FrzL H S r d.cells:=by
 obtain⟨op,to,n,fl,args,rfl⟩:=h;exact⟨⟨op,to,args,n⟩,.cons (Qg rfl) (.cons (Qg rfl) (.cons (FrzR.same (Qr _)).sl (.cons (Qg rfl) .nil)))⟩
def CodeD.fits (c:CodeD):Prop:=∀b∈c.blocks,b.ins.length<=2^38/\b.ab.length<=2^38
theorem Q5x:∀(l:List (List C)),(∀r∈l,InsRow r)->∃ds:List InsD,FrzR H S l (Cu ds)
 |[],_=>⟨[],.nil⟩
 |r::l,h=>by
  obtain⟨d,hd⟩:=(h r Jw).frz (H:=H) (S:=S);obtain⟨ds,gB⟩:=Q5x l λr' bd=>h r' (Jv _ bd);exact⟨d::ds,.cons hd gB⟩
theorem LZ:∀(l:List Blk),(∀b∈l,Gr b.lg 4 b.aX b.ic/\(∀r∈b.aX,InsRow r)/\(∀p∈b.lg,H p.1=p.2/\S p.1=true)/\b.aX.length<=2^38)->
  ∃bs:List BlkD,FrzR H S (l.map Blk.row) (Qo bs)/\bs.length=l.length/\∀b∈bs,b.ins.length<=2^38/\b.ab.length<=2^38
 |[],_=>⟨[],.nil,rfl,ZC⟩
 |b::l,h=>by
  obtain⟨g1,g2,g3,g4⟩:=h b Jw;obtain⟨bs,h1,h2,h3⟩:=LZ l λr' bd=>h r' (Jv _ bd);obtain⟨ds,gB⟩:=Q5x (H:=H) (S:=S) b.aX g2;have lp:=gB.spec.1;rw[CR]at lp;refine⟨⟨[],ds,b.jump,b.on,b.next⟩::bs,.cons ?_ h1,by simp[h2],λb' aW=>?_⟩
  ·exact .cons FrzR.nil.sl (.cons (Gr.frzM g1 g3 gB) (.cons (Qg rfl) (.cons (Qg rfl) (.cons (FrzR.same (Qr _)).sl .nil))))
  ·rcases Ji.1 aW with rfl|aW
   ·exact⟨by show ds.length<=_;omega,ZC⟩
   ·exact h3 b' aW
end Y
section
variable{F:Heap}{E L B A:Ul}
theorem Kn.toFrame{o:Obj}(kn:Kn F H [] (L++[(y,o)])):Kn (F.set y o) H [] L:=by
 have df:=kn.dL;rw[Jo]at df;have be:∀p∈L,p.1≠y:=λp hp hh=>(Jk.1 df).2.2 _ (CD hp) y ZC hh;refine⟨λp hp=>kn.get p (by simp only[Jt]at hp⊢;exact Jc _ hp),ZC,λp hp=>?_,ZC,(Jk.1 df).1,λm hm _=>?_⟩
 ·rw[Heap.aj _ _ (be p hp)];exact kn.loc p (Jc _ hp)
 ·by_cases h:m=y
  ·subst h;rw[Heap.aF];exact (kn.get (m,o) ZC).1
  ·rw[Heap.aj _ _ h]at hm⊢;exact kn.chg m hm ZC
theorem Kn.ofFrame{o:Obj}(kn:Kn (F.set y o) H [] L)(hF:F y=.none)(ho:o≠.none):Kn F H [] (L++[(y,o)]):=by
 have hy:H y=o:=by have:=kn.chg y (by rw[Heap.aF];exact ho) ZC;rw[this,Heap.aF]
 have be:∀p∈L,p.1≠y:=λp hp hh=>by have:=kn.loc p hp;rw[hh,Heap.aF]at this;exact ho this
 refine⟨λp hp=>?_,ZC,λp hp=>?_,ZC,?_,λm hm _=>?_⟩
 ·simp only[Jt]at hp;rcases Jb.1 hp with hp|hp
  ·exact kn.get p (by simpa using hp)
  ·simp at hp;subst hp;exact⟨hy,ho⟩
 ·rcases Jb.1 hp with hp|hp
  ·have:=kn.loc p hp;rw[Heap.aj _ _ (be p hp)]at this;exact this
  ·simp at hp;subst hp;exact hF
 ·rw[Jo];refine Jk.2 ⟨kn.dL,ZC,λa ha b hb=>?_⟩;simp at hb;subst hb;obtain⟨p,hp,rfl⟩:=Jh.1 ha;exact be p hp
 ·have Bn:m≠y:=λh=>by subst h;exact hm hF
  have:=kn.chg m (by rw[Heap.aj _ _ Bn];exact hm) ZC;rw[this,Heap.aj _ _ Bn]
theorem Kn.frz1 {z:Nat}{o:Obj}(kn:Kn H0 H E (B++[(z,o)])):Kn H0 (H.frz λm=>m == z) E B:=by
 have fk:H0 z=.none:=kn.loc (z,o) ZC;have df:=kn.dL;rw[Jo]at df;have be:∀p∈B,p.1≠z:=λp hp hh=>(Jk.1 df).2.2 _ (CD hp) z ZC hh;have rG:∀p∈E,p.1≠z:=λp hp hh=>kn.ext p hp (hh▸fk);refine⟨λp hp=>?_,kn.ext,λp hp=>kn.loc p (Jc _ hp),kn.dE,(Jk.1 df).1,λm hm hx=>?_⟩
 ·have:p.1≠z:=by
   rcases Jb.1 hp with h|h
   ·exact rG p h
   ·exact be p h
  have h2:(H.frz λm=>m == z) p.1=H p.1:=by simp[Heap.frz,this]
  rw[h2];refine kn.get p ?_;rcases Jb.1 hp with h|h
  ·exact Jc _ h
  ·exact Jd _ (Jc _ h)
 ·have:m≠z:=λh=>hm (h▸fk);have h2:(H.frz λm=>m == z) m=H m:=by simp[Heap.frz,this]
  rw[h2];exact kn.chg m hm hx
theorem Gr.freeze{rows:List (List C)}{c:C}(h:Gr Lg sz rows c)(kn:Kn H0 H E (B++Lg))(hr:∀r∈rows,am r=true) :
  ∃S H2,FrzC H S c (.sl false sz rows)/\FrzH H S H2/\Kn H0 H2 E B:=by
 rcases h with ⟨rfl,rfl,rfl⟩|⟨y,rfl,rfl⟩
 ·refine⟨λ_=>false,H,Y.FrzR.nil.sl,λm=>.inr ⟨rfl,.same _⟩,ZL⟩
 ·exact⟨λm=>m == y,_,(Y.FrzR.same hr).ah ZC (kn.get (y,.vec sz rows) ZC).1 rfl,E9 _ _,kn.frz1⟩
end
namespace Y
variable{F:Heap}{w:Nat}{s:LS}{rows:List (List C)}{c:C}
theorem LInv.re(h:LInv F H w s)(kn:Kn F H2 [] (s.L w)):LInv F H2 w s:=⟨kn,h.gb,h.gv,h.gi,h.ri,h.rv⟩
theorem LInv.beside (h:LInv F H w s)(kn:Kn F H [] (s.L w++Lg))(hg:Gr Lg sz rows c) :
  ∃F',LInv F' H w s/\∀(s':LS) (H':Heap),LInv F' H' w s'->LInv F H' w s'/\Kn F H' [] (s'.L w++Lg):=by
 rcases hg with ⟨_,_,rfl⟩|⟨y,_,rfl⟩
 ·exact⟨F,h,λs' H' h'=>⟨h',by simpa using h'.kn⟩⟩
 ·refine⟨F.set y (.vec sz rows),⟨kn.toFrame,h.gb,h.gv,h.gi,h.ri,h.rv⟩,λs' H' h'=>?_⟩;have k2:=h'.kn.ofFrame (kn.loc (y,.vec sz rows) ZC) ZC;exact⟨⟨k2.drop,h'.gb,h'.gv,h'.gi,h'.ri,h'.rv⟩,k2⟩
end Y
section
variable{E L N B:Ul}
theorem Kn.comp0 (kn:Kn H0 H E L)(k2:Kn H H' [] N):Kn H0 H' E (L++N):=by
 have be:∀p∈E++L,H p.1≠.none:=λp hp=>by obtain⟨a,b⟩:=kn.get p hp;rw[a];exact b
 refine⟨λp hp=>?_,kn.ext,λp hp=>?_,kn.dE,?_,λm hm hx=>?_⟩
 ·rw[<-Jl]at hp;rcases Jb.1 hp with hp|hp
  ·obtain⟨a,b⟩:=kn.get p hp;exact⟨by rw[k2.chg p.1 (be p hp) ZC,a],b⟩
  ·exact k2.get p (by simpa using hp)
 ·rcases Jb.1 hp with hp|hp
  ·exact kn.loc p hp
  ·exact (kn.newFree (k2.loc p hp)).1
 ·rw[Jo];refine Jk.2 ⟨kn.dL,k2.dL,λa ha b hb eP=>?_⟩;obtain⟨p,hp,rfl⟩:=Jh.1 ha;obtain⟨q,hq,rfl⟩:=Jh.1 hb;exact be p (Jd _ hp) (by rw[eP];exact k2.loc q hq)
 ·have:=kn.chg m hm hx;rw[k2.chg m (by rw[this];exact hm) ZC,this]
theorem Kn.compE (kn:Kn H0 H E L)(i:Nat){l:Nat}{o:Obj}(h:E[i]? = some (l,o))(k2:Kn H H' [(l,o')] N):Kn H0 H' (E.set i (l,o')) (L++N):=by
 have be:∀p∈E++L,H p.1≠.none:=λp hp=>by obtain⟨a,b⟩:=kn.get p hp;rw[a];exact b
 have hl:H' l=o'/\o'≠.none:=k2.get (l,o') ZC;have hu:Upd H H' [(l,o')]:=⟨λp hp=>by simp at hp;subst hp;exact hl.1,λm hm hx=>k2.chg m hm hx⟩;have k3:=kn.aw i h hu hl.2;refine⟨λp hp=>?_,k3.ext,λp hp=>?_,k3.dE,?_,k3.chg⟩
 ·rw[<-Jl]at hp;rcases Jb.1 hp with hp|hp
  ·exact k3.get p hp
  ·exact k2.get p (Jd _ hp)
 ·rcases Jb.1 hp with hp|hp
  ·exact kn.loc p hp
  ·exact (kn.newFree (k2.loc p hp)).1
 ·rw[Jo];refine Jk.2 ⟨kn.dL,k2.dL,λa ha b hb eP=>?_⟩;obtain⟨p,hp,rfl⟩:=Jh.1 ha;obtain⟨q,hq,rfl⟩:=Jh.1 hb;exact be p (Jd _ hp) (by rw[eP];exact k2.loc q hq)
theorem Kn.finK (hk:Kn H0 H E (B++N)):Kn H0 (H.frz (Go.AE.unx H0 N)) E N:=by
 obtain⟨h1,h2⟩:=hk.finx;have hd:=hk.dL;rw[Jo]at hd;refine⟨λp hp=>?_,hk.ext,λp hp=>hk.loc p (Jd _ hp),hk.dE,(Jk.1 hd).2.1,h1.2⟩;rcases Jb.1 hp with hp|hp
 ·exact⟨h1.1 p hp,(hk.get p (Jc _ hp)).2⟩
 ·exact⟨(h2 p hp).2,(hk.get p (Jd _ (Jd _ hp))).2⟩
end
namespace Y
structure OInts where
 ns:List Int
 y:Nat
def OInts.c (x:OInts):C:=.ah x.y 1 0 x.ns.length
def OInts.lg (x:OInts):List (Nat×Obj):=[(x.y,.vec 1 (Qb x.ns))]
structure OPhi where
 to:Int
 ns:List Int
 ac:C
 lg:Ul
def OPhi.row (x:OPhi):List C:=[.int .i64 x.to,x.ac]
def OPhi.ok (x:OPhi):Prop:=(∃y,x.ac=.ah y 1 0 x.ns.length/\x.lg=[(y,.vec 1 (Qb x.ns))])\/(∃fl,x.ac=.sl fl 1 (Qb x.ns)/\x.lg=[])
def OPhi.own (x:OPhi):Prop:=∃y,x.ac=.ah y 1 0 x.ns.length/\x.lg=[(y,.vec 1 (Qb x.ns))]
structure OIns where
 op:Int
 to:Int
 a:OInts
 n:Int
def OIns.row (x:OIns):List C:=[.int .i64 x.op,.int .i64 x.to,x.a.c,.int .i64 x.n]
def OIns.lg (x:OIns):List (Nat×Obj):=x.a.lg
structure OBlk where
 ab:List OPhi
 pc:C
 pl:Ul
 ins:List OIns
 ic:C
 il:Ul
 jump:Int
 on:Int
 nx:OInts
def OBlk.row (x:OBlk):List C:=[x.pc,x.ic,.int .i64 x.jump,.int .i64 x.on,x.nx.c]
def OBlk.lg (x:OBlk):List (Nat×Obj):=x.nx.lg++(x.ab.flatMap OPhi.lg++(x.pl++(x.ins.flatMap OIns.lg++x.il)))
structure OBlk.ok (x:OBlk):Prop where
 p:Gr x.pl 2 (x.ab.map OPhi.row) x.pc
 i:Gr x.il 4 (x.ins.map OIns.row) x.ic
 a:∀p∈x.ab,p.ok
structure OCode where
 params:Int
 ae:Int
 blocks:List OBlk
 bc:C
 bl:Ul
def OCode.row (x:OCode):List C:=[.int .i64 x.params,.int .i64 x.ae,x.bc]
def OCode.lg (x:OCode):List (Nat×Obj):=x.blocks.flatMap OBlk.lg++x.bl
structure OCode.ok (x:OCode):Prop where
 b:Gr x.bl 5 (x.blocks.map OBlk.row) x.bc
 bs:∀b∈x.blocks,b.ok
def OPhi.d (x:OPhi):PhiD:=⟨x.to,x.ns⟩
def OIns.d (x:OIns):InsD:=⟨x.op,x.to,x.a.ns,x.n⟩
def OBlk.d (x:OBlk):BlkD:=⟨x.ab.map OPhi.d,x.ins.map OIns.d,x.jump,x.on,x.nx.ns⟩
def OCode.d (x:OCode):CodeD:=⟨x.params,x.ae,x.blocks.map OBlk.d⟩
theorem OPhi.am (x:OPhi)(h:x.ok):Go.AE.am x.row=true:=by
 rcases h with ⟨y,h,_⟩|⟨fl,h,_⟩ <;> simp only[Go.AE.am,OPhi.row,h] <;> rfl
theorem OIns.am (x:OIns):Go.AE.am x.row=true:=rfl
theorem OBlk.am (x:OBlk)(h:x.ok):Go.AE.am x.row=true:=by
 simp only[Go.AE.am,OBlk.row,OInts.c,J6,J9,h.p.ai,h.i.ai];rfl
theorem OCode.am (x:OCode)(h:x.ok):Go.AE.am x.row=true:=by
 simp only[Go.AE.am,OCode.row,J6,J9,h.b.ai];rfl
def Held (H:Heap)(S:Nat->Bool)(l:List (Nat×Obj)):Prop:=∀p∈l,H p.1=p.2/\S p.1=true
theorem Held.l {a b:Ul}(h:Held H S (a++b)):Held H S a:=λp hp=>h p (Jc _ hp)
theorem Held.r {a b:Ul}(h:Held H S (a++b)):Held H S b:=λp hp=>h p (Jd _ hp)
theorem Held.m{f:α->Ul}{l:List α}(h:Held H S (l.flatMap f)){x:α}(hx:x∈l):Held H S (f x):=λp hp=>h p (List.mem_flatMap.2 ⟨x,hx,hp⟩)
theorem OInts.frz (x:OInts)(h:Held H S x.lg):FrzC H S x.c (.sl false 1 (Qb x.ns)):=by
 obtain⟨h1,h2⟩:=h (x.y,.vec 1 (Qb x.ns)) (by simp[OInts.lg]);exact (FrzR.same (Qr _)).ah h2 h1 Zap
theorem OPhi.frz (x:OPhi)(aq:x.ok)(h:Held H S x.lg):FrzL H S x.row (PhiD.mk x.to x.ns).cells:=by
 refine .cons (Qg rfl) (.cons ?_ .nil);rcases aq with ⟨y,h1,h2⟩|⟨fl,h1,h2⟩
 ·obtain⟨h3,h4⟩:=h (y,.vec 1 (Qb x.ns)) Zad;rw[h1];exact (FrzR.same (Qr _)).ah h4 h3 Zap
 ·rw[h1];exact (FrzR.same (Qr _)).sl
theorem OIns.frz (x:OIns)(h:Held H S x.lg):FrzL H S x.row (InsD.mk x.op x.to x.a.ns x.n).cells:=.cons (Qg rfl) (.cons (Qg rfl) (.cons (x.a.frz h) (.cons (Qg rfl) .nil)))
theorem HA {α β:Type}{f:α->List C}{g:β->List C}:∀(l:List α),(∀x∈l,∃y,FrzL H S (f x) (g y))->∃l':List β,FrzR H S (l.map f) (l'.map g)/\l'.length=l.length
 |[],_=>⟨[],.nil,rfl⟩
 |x::l,h=>by
  obtain⟨y,hy⟩:=h x Jw;obtain⟨l',dq,hn⟩:=HA l λz hz=>h z (Jv _ hz);exact⟨y::l',.cons hy dq,ZaS⟩
theorem IS {α β:Type}{P:β->Prop}{f:α->List C}{g:β->List C}:∀(l:List α),(∀x∈l,∃y,FrzL H S (f x) (g y)/\P y)->∃l':List β,FrzR H S (l.map f) (l'.map g)/\l'.length=l.length/\∀y∈l',P y
 |[],_=>⟨[],.nil,rfl,ZC⟩
 |x::l,h=>by
  obtain⟨y,hy,hp⟩:=h x Jw;obtain⟨l',dq,hn,fH⟩:=IS l λz hz=>h z (Jv _ hz);refine⟨y::l',.cons hy dq,ZaS,λz hz=>?_⟩;rcases Ji.1 hz with rfl|hz
  ·exact hp
  ·exact fH z hz
theorem OBlk.frz (x:OBlk)(aq:x.ok)(h:Held H S x.lg):∃d:BlkD,FrzL H S x.row d.cells/\d.next=x.nx.ns/\d.ins.length=x.ins.length/\d.ab.length=x.ab.length:=by
 obtain⟨ps,fH,uq⟩:=HA (H:=H) (S:=S) (f:=OPhi.row) (g:=PhiD.cells) x.ab λp hp=>⟨_,p.frz (aq.a p hp) (h.r.l.m hp)⟩;obtain⟨is,nU,bT⟩:=HA (H:=H) (S:=S) (f:=OIns.row) (g:=InsD.cells) x.ins λp hp=>⟨_,p.frz (h.r.r.r.l.m hp)⟩;exact⟨⟨ps,is,x.jump,x.on,x.nx.ns⟩,.cons (Gr.frzM aq.p h.r.r.l fH) (.cons (Gr.frzM aq.i h.r.r.r.r nU) (.cons (Qg rfl) (.cons (Qg rfl) (.cons (x.nx.frz h.l) .nil)))),rfl,bT,uq⟩
end Y
variable{b:Y.OBlk}{u:Y.OCode}{us:List Y.OCode}{x':Y.OIns}
namespace Y
theorem EM{A L1 L2:List α}:(A++L1++L2).Perm (A++L2++L1):=by
 rw[Jl,Jl];exact .append_left _ Jr
structure BlkD.sm (b:BlkD):Prop where
 n:b.next.length<=2
 i:b.ins.length<=1000
 p:b.ab.length<=1000
 ia:∀x∈b.ins,x.args.length<=1000
 pa:∀x∈b.ab,x.args.length<=1000
structure CodeD.sm (c:CodeD):Prop where
 b0:0<c.blocks.length
 b:c.blocks.length<=160
 bs:∀b∈c.blocks,b.sm
 p0:0<=c.params
 p1:c.params<=1000
structure OBlk.sm (b:OBlk)(N:Nat):Prop where
 n:b.nx.ns.length<=2
 i:b.ins.length<=1000
 p:b.ab.length<=N
 ia:∀x∈b.ins,x.a.ns.length<=N
 pa:∀x∈b.ab,x.ns.length<=N
structure OCode.sm (c:OCode)(N:Nat):Prop where
 b0:0<c.blocks.length
 b:c.blocks.length<=160
 bs:∀b∈c.blocks,b.sm N
 p0:0<=c.params
 p1:c.params<=1000
theorem OBlk.sm.mono{M:Nat}(h:b.sm N)(hm:N<=M):b.sm M:=⟨h.n,h.i,by have:=h.p;omega,λx hx=>by have:=h.ia x hx;omega,λx hx=>by have:=h.pa x hx;omega⟩
theorem OCode.sm.mono {c:OCode}{N M:Nat}(h:c.sm N)(hm:N<=M):c.sm M:=⟨h.b0,h.b,λb hb=>(h.bs b hb).mono hm,h.p0,h.p1⟩
structure BlkD.sg (b:BlkD):Prop where
 n:b.next.length<=1000000
 i:b.ins.length<=1000000
 p:b.ab.length<=1000000
 ia:∀x∈b.ins,x.args.length<=1000000
 pa:∀x∈b.ab,x.args.length<=1000000
structure CodeD.sg (c:CodeD):Prop where
 b:c.blocks.length<=1000000
 bs:∀b∈c.blocks,b.sg
theorem BlkD.sm.sg {b:BlkD}(h:b.sm):b.sg:=⟨by have:=h.n;omega,by have:=h.i;omega,by have:=h.p;omega,λx hx=>by have:=h.ia x hx;omega,λx hx=>by have:=h.pa x hx;omega⟩
theorem CodeD.sm.sg {c:CodeD}(h:c.sm):c.sg:=⟨by have:=h.b;omega,λb hb=>(h.bs b hb).sg⟩
structure CodeD.gd (c:CodeD):Prop where
 b0:0<c.blocks.length
 b1:c.blocks.length<=160
 n:∀b∈c.blocks,b.next.length<=2
 f:c.fits
 s:c.sg
theorem CodeD.sm.fits {c:CodeD}(h:c.sm):c.fits:=λb hb=>⟨by have:=(h.bs b hb).i;omega,by have:=(h.bs b hb).p;omega⟩
theorem CodeD.sm.gd {c:CodeD}(h:c.sm):c.gd:=⟨h.b0,h.b,λb hb=>(h.bs b hb).n,h.fits,h.sg⟩
theorem BlkD.sm.o {o:OBlk}(h:o.d.sm):o.sm 1000:=
 ⟨h.n,by have:=h.i;simp only[OBlk.d,J4]at this;exact this,by have:=h.p;simp only[OBlk.d,J4]at this;exact this,λx hx=>h.ia x.d (Jh.2 ⟨x,hx,rfl⟩),λx hx=>h.pa x.d (Jh.2 ⟨x,hx,rfl⟩)⟩
theorem CodeD.sm.o {o:OCode}(h:o.d.sm):o.sm 1000:=
 ⟨by have:=h.b0;simp only[OCode.d,J4]at this;exact this,by have:=h.b;simp only[OCode.d,J4]at this;exact this,λb hb=>(h.bs b.d (Jh.2 ⟨b,hb,rfl⟩)).o,h.p0,h.p1⟩
theorem Rq {α β:Type}{f:α->List C}{g:β->List C}{d:α->β}:∀(l:List α),(∀x∈l,FrzL H S (f x) (g (d x)))->FrzR H S (l.map f) ((l.map d).map g)
 |[],_=>.nil
 |x::l,h=>.cons (h x Jw) (Rq l λz hz=>h z (Jv _ hz))
theorem OBlk.frzD (x:OBlk)(aq:x.ok)(h:Held H S x.lg):FrzL H S x.row x.d.cells:=by
 have fH:=Rq (H:=H) (S:=S) (f:=OPhi.row) (g:=PhiD.cells) (d:=OPhi.d) x.ab λp hp=>p.frz (aq.a p hp) (h.r.l.m hp);have nU:=Rq (H:=H) (S:=S) (f:=OIns.row) (g:=InsD.cells) (d:=OIns.d) x.ins λp hp=>p.frz (h.r.r.r.l.m hp);exact .cons (Gr.frzM aq.p h.r.r.l fH) (.cons (Gr.frzM aq.i h.r.r.r.r nU) (.cons (Qg rfl) (.cons (Qg rfl) (.cons (x.nx.frz h.l) .nil))))
theorem OCode.frz (x:OCode)(hN:N<=100000)(aq:x.ok)(hs:x.sm N)(h:Held H S x.lg):∃d:CodeD,FrzL H S x.row d.cells/\d.gd:=by
 have lr:=Rq (H:=H) (S:=S) (f:=OBlk.row) (g:=BlkD.cells) (d:=OBlk.d) x.blocks λb hb=>b.frzD (aq.bs b hb) (h.l.m hb);have eB:=hs.b0;have bm:=hs.b;have hd:∀d∈x.blocks.map OBlk.d,d.next.length<=2/\d.ins.length<=1000/\d.ab.length<=N/\(∀i∈d.ins,i.args.length<=N)/\∀i∈d.ab,i.args.length<=N:=λd hd=>by
  obtain⟨b,hb,rfl⟩:=Jh.1 hd;have fZ:=hs.bs b hb;refine⟨fZ.n,by simpa[OBlk.d]using fZ.i,by simpa[OBlk.d]using fZ.p,λi hi=>?_,λi hi=>?_⟩
  ·obtain⟨y,hy,rfl⟩:=Jh.1 hi;exact fZ.ia y hy
  ·obtain⟨y,hy,rfl⟩:=Jh.1 hi;exact fZ.pa y hy
 refine⟨⟨x.params,x.ae,x.blocks.map OBlk.d⟩,.cons (Qg rfl) (.cons (Qg rfl) (.cons (Gr.frzM aq.b h.r lr) .nil)),by simpa using eB,by simpa using bm,λb hb=>(hd b hb).1,λb hb=>?_,by simp only[J4];omega,λb hb=>?_⟩
 ·obtain⟨h1,h2,h3,h4,h5⟩:=hd b hb;omega
 ·obtain⟨h1,h2,h3,h4,h5⟩:=hd b hb;exact⟨ZA,ZA,ZA,λi hi=>by have:=h4 i hi;omega,λi hi=>by have:=h5 i hi;omega⟩
theorem OCodes.frz {N:Nat}(hN:N<=100000){us:List OCode}{cc:C}{cl:Ul}(hg:Gr cl 3 (us.map OCode.row) cc)(hu:∀u∈us,u.ok/\u.sm N)(h:Held H S (us.flatMap OCode.lg++cl)) :
  ∃cs:List CodeD,FrzC H S cc (.sl false 3 (Qm cs))/\cs.length=us.length/\∀c∈cs,c.gd:=by
 obtain⟨cs,h1,h2,h3⟩:=IS (H:=H) (S:=S) (P:=CodeD.gd) (f:=OCode.row) (g:=CodeD.cells) us λu eV=>u.frz hN (hu u eV).1 (hu u eV).2 (h.l.m eV);exact⟨cs,Gr.frzM hg h.r h1,h2,h3⟩
end Y
theorem CN {a b:SC}{e:Env}(T:Env->Heap->Prop)(h1:∀Q':X->Env->Heap->Prop,(∀e H,T e H->Q' .nrm e H)->(∀e H,Q .ret e H->Q' .ret e H)->(∀i e H,Q (.exit i) e H->Q' (.exit i) e H)->Cr P a Q' e H)
  (h2:∀e H,T e H->Cr P b Q e H):Cr P (.seq a b) Q e H:=h1 (X.sq P b Q) h2 (λ_ _ h=>h) (λ_ _ _ h=>h)
namespace Y
structure UPhi where
 to:Int
 ns:List Int
 ac:C
 al:Ul
def UPhi.row (x:UPhi):List C:=[.int .i64 x.to,x.ac]
structure UBlk where
 ab:List UPhi
 pc:C
 pl:Ul
 ins:List InsD
 ic:C
 il:Ul
 jump:Int
 on:Int
 nfl:Bool
 next:List Int
def UBlk.row (x:UBlk):List C:=[x.pc,x.ic,.int .i64 x.jump,.int .i64 x.on,.sl x.nfl 1 (Qb x.next)]
def UBlk.lg (x:UBlk):List (Nat×Obj):=x.il++(x.ab.flatMap UPhi.al++x.pl)
structure UBlk.ok (x:UBlk):Prop where
 p:Gr x.pl 2 (x.ab.map UPhi.row) x.pc
 i:Gr x.il 4 (Cu x.ins) x.ic
 a:∀p∈x.ab,Gr p.al 1 (Qb p.ns) p.ac
structure UBlk.sm (b:UBlk)(N:Nat):Prop where
 n:b.next.length<=2
 i:b.ins.length<=1000
 p:b.ab.length<=N
 ia:∀x∈b.ins,x.args.length<=1000
 pa:∀x∈b.ab,x.ns.length<=1000
structure UCode where
 params:Int
 ae:Int
 blocks:List UBlk
 bc:C
 bl:Ul
def UCode.row (x:UCode):List C:=[.int .i64 x.params,.int .i64 x.ae,x.bc]
def UCode.lg (x:UCode):List (Nat×Obj):=x.blocks.flatMap UBlk.lg++x.bl
structure UCode.ok (x:UCode):Prop where
 b:Gr x.bl 5 (x.blocks.map UBlk.row) x.bc
 bs:∀b∈x.blocks,b.ok
 p0:0<=x.params
 p1:x.params<=3
structure UCode.sm (c:UCode)(N:Nat):Prop where
 b0:0<c.blocks.length
 b:c.blocks.length<=160
 bs:∀b∈c.blocks,b.sm N
theorem UPhi.am (x:UPhi)(h:Gr x.al 1 (Qb x.ns) x.ac):Go.AE.am x.row=true:=by
 simp only[Go.AE.am,UPhi.row,J6,J9,h.ai];rfl
theorem UBlk.am (x:UBlk)(h:x.ok):Go.AE.am x.row=true:=by
 simp only[Go.AE.am,UBlk.row,J6,J9,h.p.ai,h.i.ai];rfl
theorem UCode.am (x:UCode)(h:x.ok):Go.AE.am x.row=true:=by
 simp only[Go.AE.am,UCode.row,J6,J9,h.b.ai];rfl
theorem UBlk.len5 (x:UBlk):x.row.length=5:=rfl
theorem UCode.len3 (x:UCode):x.row.length=3:=rfl
theorem UBlk.sm.mono {b:UBlk}{M:Nat}(h:b.sm N)(hm:N<=M):b.sm M:=⟨h.n,h.i,by have:=h.p;omega,h.ia,h.pa⟩
theorem UCode.sm.mono {c:UCode}{N M:Nat}(h:c.sm N)(hm:N<=M):c.sm M:=⟨h.b0,h.b,λb hb=>(h.bs b hb).mono hm⟩
theorem UBlk.frz (x:UBlk)(hN:N<=1000)(aq:x.ok)(hs:x.sm N)(h:Held H S x.lg):∃d:BlkD,FrzL H S x.row d.cells/\d.sm:=by
 obtain⟨ps,fH,uq,hpp⟩:=IS (H:=H) (S:=S) (P:=λp:PhiD=>p.args.length<=1000) (f:=UPhi.row) (g:=PhiD.cells) x.ab λp hp=>
  ⟨⟨p.to,p.ns⟩,.cons (Qg rfl) (.cons (Gr.frzM (aq.a p hp) (h.r.l.m hp) (FrzR.same (Qr _))) .nil),hs.pa p hp⟩
 have h1:=hs.n;have h2:=hs.i;have h3:=hs.p;exact⟨⟨ps,x.ins,x.jump,x.on,x.next⟩,.cons (Gr.frzM aq.p h.r.r fH) (.cons (Gr.frzM aq.i h.l (FrzR.same (GT _))) (.cons (Qg rfl) (.cons (Qg rfl) (.cons (FrzR.same (Qr _)).sl .nil)))),
  h1,h2,by show ps.length<=_;omega,hs.ia,hpp⟩
theorem UCode.frz (x:UCode){N:Nat}(hN:N<=1000)(aq:x.ok)(hs:x.sm N)(h:Held H S x.lg):∃d:CodeD,FrzL H S x.row d.cells/\d.sm:=by
 obtain⟨bs,lr,cB,Ai⟩:=IS (H:=H) (S:=S) (P:=BlkD.sm) (f:=UBlk.row) (g:=BlkD.cells) x.blocks λb hb=>b.frz hN (aq.bs b hb) (hs.bs b hb) (h.l.m hb);have eB:=hs.b0;have bm:=hs.b;exact⟨⟨x.params,x.ae,bs⟩,.cons (Qg rfl) (.cons (Qg rfl) (.cons (Gr.frzM aq.b h.r lr) .nil)),by show 0<bs.length;omega,by show bs.length<=_;omega,Ai,aq.p0,by have:=aq.p1;show x.params<=_;omega⟩
theorem UCodes.frz {us:List UCode}{N:Nat}(hN:N<=1000){cc:C}{cl:Ul}(hg:Gr cl 3 (us.map UCode.row) cc)(hu:∀u∈us,u.ok/\u.sm N)(h:Held H S (us.flatMap UCode.lg++cl)) :
  ∃cs:List CodeD,FrzC H S cc (.sl false 3 (Qm cs))/\cs.length=us.length/\∀c∈cs,c.sm:=by
 obtain⟨cs,h1,h2,h3⟩:=IS (H:=H) (S:=S) (P:=CodeD.sm) (f:=UCode.row) (g:=CodeD.cells) us λu eV=>u.frz hN (hu u eV).1 (hu u eV).2 (h.l.m eV);exact⟨cs,Gr.frzM hg h.r h1,h2,h3⟩
end Y
namespace Y
theorem Qi{l1 l2:List α}(h:∀f:List α->Nat,(∀a b,f (a++b)=f a+f b)->f []=0->(∀x l,f (x::l)=f [x]+f l)->(∀a b:List α,a.Perm b->f a=f b)->f l1=f l2):l1.Perm l2:=by
 classical
 exact List.perm_iff_count.2 λa=>h (List.count a) (λ_ _=>List.count_append) rfl (λx l=>by rw[Jay,Jay];simp;omega) (λ_ _ hp=>hp.count_eq a)
def UBlk.core (x:UBlk):List (Nat×Obj):=x.il++x.ab.flatMap UPhi.al
def DU (us:List UCode)(ci bi:Nat)(hc:ci<us.length):List (Nat×Obj):=(us[ci].blocks.eraseIdx bi).flatMap UBlk.lg++(us.eraseIdx ci).flatMap UCode.lg
theorem Qa14 (us:List UCode)(ci bi:Nat)(hc:ci<us.length)(hb:bi<us[ci].blocks.length) :
  (us.flatMap UCode.lg).Perm (us[ci].bl++(us[ci].blocks[bi].pl++(us[ci].blocks[bi].core++DU us ci bi hc))):=by
 refine Qi λf hf h0 bN hp=>?_;rw[hp _ _ (F4 UCode.lg us ci hc)];simp only[hf,UCode.lg,DU];rw[hp _ _ (F4 UBlk.lg us[ci].blocks bi hb)];simp only[Ui,hf,UBlk.lg,UBlk.core];omega
def UCode.put (u:UCode)(bi:Nat)(b:UBlk)(bl:List (Nat×Obj)):UCode:={ u with blocks:=u.blocks.set bi b,bl:=bl }
theorem Qa52 (us:List UCode)(ci bi:Nat)(hc:ci<us.length)(hb:bi<us[ci].blocks.length)(b:UBlk)(bl:Ul) :
  ((us.set ci (us[ci].put bi b bl)).flatMap UCode.lg).Perm (bl++(b.pl++(b.core++DU us ci bi hc))):=by
 refine Qi λf hf h0 bN hp=>?_;rw[hp _ _ (FF UCode.lg us ci _ hc)];simp only[hf,UCode.lg,DU,UCode.put];rw[hp _ _ (FF UBlk.lg us[ci].blocks bi _ hb)];simp only[Ui,hf,UBlk.lg,UBlk.core];omega
theorem UBlk.core_snoc (b:UBlk)(p:UPhi)(pc:C)(pl:Ul):UBlk.core { b with ab:=b.ab++[p],pc:=pc,pl:=pl }=b.core++p.al:=by
 simp[UBlk.core,Jaq]
theorem UCode.put_row (u:UCode)(bi:Nat)(b:UBlk)(bl:Ul):(u.put bi b bl).row=u.row:=rfl
theorem Qa53 (us:List UCode)(ci:Nat)(hc:ci<us.length)(u:UCode)(h:u.row=us[ci].row):(us.set ci u).map UCode.row=us.map UCode.row:=by
 rw[Jab,h];refine Jal ZC λi h1 h2=>?_;rw[Jad];split
 ·rename_i h;subst h;simp
 ·rfl
theorem UCode.put_ok {u:UCode}{b:UBlk}(h:u.ok)(hb:b.ok)(bj:u.bl=[(y,.vec 5 (u.blocks.map UBlk.row))]):(u.put bi b [(y,.vec 5 ((u.blocks.set bi b).map UBlk.row))]).ok:=by
 refine⟨?_,λb' aW=>?_,h.p0,h.p1⟩
 ·rcases h.b with ⟨h1,h2,h3⟩|⟨y',h1,h2⟩
  ·rw[bj]at h3;simp at h3
  ·rw[bj]at h2;have:y=y':=Zab
   subst this;exact .inr ⟨y,by show u.bc=_;rw[h1];simp[UCode.put],rfl⟩
 ·rcases Jp aW with aW|rfl
  ·exact h.bs _ aW
  ·exact hb
theorem UCode.put_sm {u:UCode}{b:UBlk}{bl:Ul}(h:u.sm N)(hb:b.sm (N+1)):(u.put bi b bl).sm (N+1):=by
 refine⟨by show 0<(u.blocks.set bi b).length;simpa using h.b0,by show (u.blocks.set bi b).length<=_;simpa using h.b,λb' aW=>?_⟩;rcases Jp aW with aW|rfl
 ·exact (h.bs _ aW).mono ZA
 ·exact hb
theorem UCode.bvec {u:UCode}(h:u.ok)(h0:0<u.blocks.length):∃y,u.bc=.ah y 5 0 u.blocks.length/\u.bl=[(y,.vec 5 (u.blocks.map UBlk.row))]:=by
 rcases h.b with ⟨h1,h2,h3⟩|⟨y,h1,h2⟩
 ·have:=Jag.1 h2;rw[this]at h0;simp at h0
 ·exact⟨y,by rw[h1];simp,h2⟩
def Du (us:List OCode)(ci bi:Nat)(hc:ci<us.length):List (Nat×Obj):=(us[ci].blocks.eraseIdx bi).flatMap OBlk.lg++(us.eraseIdx ci).flatMap OCode.lg
theorem Qa0h (us:List OCode)(ci bi:Nat)(hc:ci<us.length)(hb:bi<us[ci].blocks.length) :
  (us.flatMap OCode.lg).Perm (us[ci].bl++(us[ci].blocks[bi].lg++Du us ci bi hc)):=by
 refine Qi λf hf h0 bN hp=>?_;rw[hp _ _ (F4 OCode.lg us ci hc)];simp only[hf,OCode.lg,Du];rw[hp _ _ (F4 OBlk.lg us[ci].blocks bi hb)];simp only[Ui,hf];omega
def OCode.put (u:OCode)(bi:Nat)(b:OBlk)(bl:List (Nat×Obj)):OCode:={ u with blocks:=u.blocks.set bi b,bl:=bl }
theorem Qa40 (us:List OCode)(ci bi:Nat)(hc:ci<us.length)(hb:bi<us[ci].blocks.length)(b:OBlk)(bl:Ul) :
  ((us.set ci (us[ci].put bi b bl)).flatMap OCode.lg).Perm (bl++(b.lg++Du us ci bi hc)):=by
 refine Qi λf hf h0 bN hp=>?_;rw[hp _ _ (FF OCode.lg us ci _ hc)];simp only[hf,OCode.lg,Du,OCode.put];rw[hp _ _ (FF OBlk.lg us[ci].blocks bi _ hb)];simp only[Ui,hf];omega
theorem Qa41 (us:List OCode)(ci:Nat)(hc:ci<us.length)(u:OCode)(h:u.row=us[ci].row):(us.set ci u).map OCode.row=us.map OCode.row:=by
 rw[Jab,h];refine Jal ZC λi h1 h2=>?_;rw[Jad];split
 ·rename_i h;subst h;simp
 ·rfl
theorem OCode.put_ok(h:u.ok)(hb:b.ok)(bj:u.bl=[(y,.vec 5 (u.blocks.map OBlk.row))]):(u.put bi b [(y,.vec 5 ((u.blocks.set bi b).map OBlk.row))]).ok:=by
 refine⟨?_,λb' aW=>?_⟩
 ·rcases h.b with ⟨h1,h2,h3⟩|⟨y',h1,h2⟩
  ·rw[bj]at h3;simp at h3
  ·rw[bj]at h2;have:y=y':=Zab
   subst this;exact .inr ⟨y,by show u.bc=_;rw[h1];simp[OCode.put],rfl⟩
 ·rcases Jp aW with aW|rfl
  ·exact h.bs _ aW
  ·exact hb
theorem OCode.put_sm{bl:Ul}(h:u.sm N)(hb:b.sm (N+1)):(u.put bi b bl).sm (N+1):=by
 refine⟨by show 0<(u.blocks.set bi b).length;simpa using h.b0,by show (u.blocks.set bi b).length<=_;simpa using h.b,λb' aW=>?_,h.p0,h.p1⟩;rcases Jp aW with aW|rfl
 ·exact (h.bs _ aW).mono ZA
 ·exact hb
theorem OCode.bvec(h:u.ok)(h0:0<u.blocks.length):∃y,u.bc=.ah y 5 0 u.blocks.length/\u.bl=[(y,.vec 5 (u.blocks.map OBlk.row))]:=by
 rcases h.b with ⟨h1,h2,h3⟩|⟨y,h1,h2⟩
 ·have:=Jag.1 h2;rw[this]at h0;simp at h0
 ·exact⟨y,by rw[h1];simp,h2⟩
theorem OBlk.ivec {u:OBlk}(h:u.ok)(h0:0<u.ins.length):∃y,u.ic=.ah y 4 0 u.ins.length/\u.il=[(y,.vec 4 (u.ins.map OIns.row))]:=by
 rcases h.i with ⟨h1,h2,h3⟩|⟨y,h1,h2⟩
 ·have:=Jag.1 h2;rw[this]at h0;simp at h0
 ·exact⟨y,by rw[h1];simp,h2⟩
variable{E X cl:Ul}
theorem Qap2{ci yb:Nat}(kn:Kn H0 H E (X++us.flatMap OCode.lg++cl))(hc:ci<us.length)(hu:us[ci]=u)(hb:bi<u.blocks.length)(hub:u.blocks[bi]=b)
  (bj:u.bl=[(yb,.vec 5 (u.blocks.map OBlk.row))]):Kn H0 H E ([(yb,.vec 5 (u.blocks.map OBlk.row))]++(b.lg++(Du us ci bi hc++(X++cl)))):=by
 subst hu;subst hub;refine kn.perm (Qi λf hf h0 bN hp=>?_);have h1:=hp _ _ (Qa0h us ci bi hc hb);rw[bj]at h1;simp only[Ui,hf]at h1⊢;omega
theorem Qasl{ci yb:Nat}{b':OBlk}{cc:C}(hc:ci<us.length)(hu:us[ci]=u)(hb:bi<u.blocks.length)
  (bj:u.bl=[(yb,.vec 5 (u.blocks.map OBlk.row))]) (aq:∀u∈us,u.ok/\u.sm N) (rB:b'.ok) (xO:b'.sm (N+1)) (hg:Gr cl 3 (us.map OCode.row) cc)
  (kn:Kn H0 H E ([(yb,.vec 5 ((u.blocks.set bi b').map OBlk.row))]++(b'.lg++(Du us ci bi hc++(X++cl))))) :
  ∃us':List OCode,us'.length=us.length/\Gr cl 3 (us'.map OCode.row) cc/\(∀u∈us',u.ok/\u.sm (N+1))/\Kn H0 H E (X++us'.flatMap OCode.lg++cl):=by
 obtain⟨h1,h2⟩:=aq _ (J7 hc);rw[hu]at h1 h2;refine⟨us.set ci (u.put bi b' [(yb,.vec 5 ((u.blocks.set bi b').map OBlk.row))]),ZC,?_,λv hv=>?_,kn.perm (Qi λf hf h0 bN hp=>?_)⟩
 ·rw[Qa41 us ci hc _ (by rw[hu];rfl)];exact hg
 ·rcases Jp hv with hv|rfl
  ·exact⟨(aq v hv).1,(aq v hv).2.mono ZA⟩
  ·exact⟨OCode.put_ok h1 rB bj,OCode.put_sm h2 xO⟩
 ·subst hu;have h1:=hp _ _ (Qa40 us ci bi hc hb b' [(yb,.vec 5 ((us[ci].blocks.set bi b').map OBlk.row))]);simp only[Ui,hf]at h1⊢;omega
theorem Rt {l:List OBlk}(hb:bi<l.length)(h:b.row=(l[bi]).row):(l.set bi b).map OBlk.row=l.map OBlk.row:=by
 rw[Jab,h];refine Jal ZC λi h1 h2=>?_;rw[Jad];split
 ·rename_i h;subst h;simp
 ·rfl
variable{b':OBlk}{R:Ul}
theorem HN(kn:Kn H0 H E ([p]++(b.lg++R)))(cK:b.il=[(yi,.vec 4 (b.ins.map OIns.row))]) :
  Kn H0 H E ([(yi,.vec 4 (b.ins.map OIns.row))]++([p]++(b.nx.lg++(b.ab.flatMap OPhi.lg++(b.pl++(b.ins.flatMap OIns.lg++R)))))):=by
 refine kn.perm (Qi λf hf h0 bN hp=>?_);simp only[Ui,OBlk.lg,cK,hf];omega
theorem KH{is:List OIns}(kn:Kn H0 H E ([(yi,.vec 4 (is.map OIns.row))]++([p]++(b.nx.lg++(b.ab.flatMap OPhi.lg++(b.pl++(b.ins.flatMap OIns.lg++R)))))))
  (hl:(is.flatMap OIns.lg).Perm (b.ins.flatMap OIns.lg)):Kn H0 H E ([p]++(OBlk.lg { b with ins:=is,il:=[(yi,.vec 4 (is.map OIns.row))] }++R)):=by
 refine kn.perm (Qi λf hf h0 bN hp=>?_);have:=hp _ _ hl;simp only[Ui,OBlk.lg,hf];omega
theorem Q06 {l:List OIns}(hi:i<l.length)(h:x'.lg=(l[i]).lg):((l.set i x').flatMap OIns.lg).Perm (l.flatMap OIns.lg):=by
 refine (FF OIns.lg l i x' hi).trans ?_;rw[h];exact (F4 OIns.lg l i hi).symm
theorem OBlk.ins_ok(h:b.ok)(ja:b.ic=.ah yi 4 0 b.ins.length):OBlk.ok { b with ins:=b.ins.set i x',il:=[(yi,.vec 4 ((b.ins.set i x').map OIns.row))] }:=
 ⟨h.p,.inr ⟨yi,by show b.ic=_;rw[ja];simp,rfl⟩,h.a⟩
theorem OBlk.ins_sm(h:b.sm N)(hx:x'.a.ns.length<=N+1):OBlk.sm { b with ins:=b.ins.set i x',il:=[(yi,.vec 4 ((b.ins.set i x').map OIns.row))] } (N+1):=by
 refine⟨h.n,by simpa using h.i,by have:=h.p;show b.ab.length<=_;omega,λx aL=>?_,λp hp=>by have:=h.pa p hp;omega⟩;rcases Jp aL with aL|rfl
 ·have:=h.ia x aL;omega
 ·exact hx
end Y
namespace Y
abbrev Q35:Nat:=4
abbrev PY:Nat:=10
abbrev SZ:Nat:=11
abbrev SA:Nat:=12
abbrev SO:Nat:=13
abbrev Tp:Nat:=14
abbrev Ta:Nat:=15
abbrev SX:Nat:=16
abbrev NM:Nat:=24
abbrev Sx:Nat:=25
abbrev Kf:Nat:=27
abbrev Qwy:Nat:=28
abbrev Qwq:Nat:=29
abbrev Qmo:Nat:=30
abbrev Qwl:Nat:=31
abbrev Qkc:Nat:=32
abbrev Q0w:Nat:=33
abbrev Q0s:Nat:=34
abbrev Qou:Nat:=35
abbrev Sk:Nat:=36
abbrev Qsz:Nat:=41
abbrev Qwp:Nat:=42
abbrev NJ:Nat:=43
abbrev Sw:Nat:=44
abbrev NQ:Nat:=45
abbrev Oh:Nat:=46
abbrev Qef:Nat:=47
abbrev Sy:Nat:=50
abbrev Tc:Nat:=51
abbrev SM:Nat:=52
abbrev Pl:Nat:=53
abbrev Qs3:Nat:=54
abbrev Q5t:Nat:=55
abbrev Q5u:Nat:=56
abbrev EX:Nat:=57
abbrev Qoz:Nat:=58
abbrev Q0v:Nat:=59
abbrev Tn:Nat:=60
abbrev Qov:Nat:=61
abbrev Qeg:Nat:=62
abbrev Qow:Nat:=63
abbrev Q5h:Nat:=64
abbrev Qox:Nat:=65
abbrev Qsy:Nat:=66
abbrev Sq:Nat:=67
abbrev Ok:Nat:=68
abbrev Sp:Nat:=69
abbrev Qwm:Nat:=73
abbrev Q0r:Nat:=74
abbrev Qmp:Nat:=75
abbrev Qit:Nat:=76
abbrev NP:Nat:=77
abbrev MT:Nat:=78
abbrev Oe:Nat:=79
abbrev Qmn:Nat:=81
abbrev Qs6:Nat:=82
abbrev Q0u:Nat:=83
abbrev Qos:Nat:=84
abbrev KT:Nat:=85
abbrev NF:Nat:=86
abbrev Kg:Nat:=87
abbrev Of:Nat:=88
abbrev RO:Nat:=89
abbrev fn_l10Split:Nat:=90
abbrev fn_l12Drop:Nat:=91
abbrev Q0z:Nat:=92
abbrev fn_l15Put:Nat:=93
abbrev fn_l16Share:Nat:=94
abbrev fn_l17Hoist:Nat:=95
abbrev fn_l18Even:Nat:=96
abbrev fn_l18Skip:Nat:=97
abbrev NL:Nat:=98
abbrev fn_l18Clean:Nat:=99
abbrev Na:Nat:=100
abbrev Qo5:Nat:=101
abbrev Qhn:Nat:=102
abbrev PT:Nat:=103
abbrev Q5i:Nat:=104
abbrev Qsx:Nat:=105
abbrev Oj:Nat:=106
abbrev Q0t:Nat:=107
abbrev Qwo:Nat:=108
abbrev R6:Nat:=109
abbrev Qw3:Nat:=110
abbrev Qgg:Nat:=111
abbrev Ra:Nat:=112
abbrev SY:Nat:=117
abbrev Qot:Nat:=118
abbrev Q5v:Nat:=119
abbrev Qgf:Nat:=120
abbrev Rj:Nat:=121
abbrev Qhm:Nat:=122
abbrev Qiu:Nat:=123
abbrev Qmq:Nat:=124
abbrev Qwx:Nat:=125
abbrev MP:Nat:=126
abbrev Q00:Nat:=127
abbrev MN:Nat:=128
abbrev Nb:Nat:=129
abbrev Tq:Nat:=130
abbrev Ks:Nat:=131
abbrev Tr:Nat:=132
abbrev Kt:Nat:=133
abbrev Qwn:Nat:=134
abbrev So:Nat:=135
abbrev LB:Nat:=136
abbrev R7:Nat:=137
abbrev MR:Nat:=138
abbrev Qo6:Nat:=139
abbrev Q5j:Nat:=140
abbrev Qs2:Nat:=141
abbrev LF:Nat:=142
abbrev Q5k:Nat:=143
abbrev Pa:Nat:=144
abbrev NO:Nat:=147
abbrev Q5m:Nat:=148
abbrev Q5l:Nat:=149
abbrev NU:Nat:=150
abbrev Tb:Nat:=151
abbrev NG:Nat:=153
abbrev NE:Nat:=155
abbrev NK:Nat:=162
abbrev Nf:Nat:=163
abbrev Qgh:Nat:=164
abbrev Qalm:Nat:=165
abbrev To:Nat:=166
abbrev Qis:Nat:=167
abbrev RP:Nat:=168
abbrev Oi:Nat:=169
abbrev MS:Nat:=170
abbrev KO:Nat:=171
abbrev RN:Nat:=172
abbrev Qiv:Nat:=173
abbrev Qdt:Nat:=174
abbrev Q34:Nat:=175
abbrev Qvk:Nat:=176
abbrev PZ:Nat:=177
abbrev Q5r:Nat:=178
abbrev Og:Nat:=179
abbrev Q0x:Nat:=180
abbrev NR:Nat:=181
abbrev Q0y:Nat:=183
abbrev NN:Nat:=184
abbrev Q5s:Nat:=185
abbrev Qo3:Nat:=186
abbrev Qkf:Nat:=187
abbrev NT:Nat:=188
abbrev Qc4:Nat:=194
abbrev fn_sl_heapSortOrdered:Nat:=195
abbrev fn_sl_breakPatternsOrdered:Nat:=196
abbrev fn_sl_choosePivotOrdered:Nat:=197
abbrev fn_sl_reverseRangeOrdered:Nat:=198
abbrev fn_sl_partialInsertionSortOrdered:Nat:=199
abbrev fn_cmp_Less:Nat:=200
abbrev fn_sl_partitionEqualOrdered:Nat:=201
abbrev fn_sl_partitionOrdered:Nat:=202
abbrev PU:Nat:=205
abbrev MQ:Nat:=206
abbrev KQ:Nat:=207
abbrev MO:Nat:=208
abbrev S8:Nat:=209
abbrev Qs5:Nat:=210
abbrev Q02:Nat:=211
abbrev Qs4:Nat:=212
abbrev Qw0:Nat:=213
abbrev Qs1:Nat:=214
abbrev Qwt:Nat:=215
abbrev KS:Nat:=216
abbrev LC:Nat:=217
abbrev Qfn:Nat:=218
abbrev NS:Nat:=219
abbrev Q05:Nat:=221
abbrev Qs0:Nat:=222
abbrev Qw2:Nat:=236
abbrev Qwv:Nat:=237
abbrev Nd:Nat:=238
abbrev Q04:Nat:=239
abbrev NH:Nat:=240
abbrev NI:Nat:=241
abbrev Qw1:Nat:=246
abbrev Qwz:Nat:=247
abbrev Q03:Nat:=248
abbrev Q5o:Nat:=249
abbrev Q01:Nat:=250
abbrev Qws:Nat:=251
abbrev Qwu:Nat:=252
abbrev Nc:Nat:=253
abbrev LE:Nat:=254
abbrev LD:Nat:=255
abbrev Q5q:Nat:=256
abbrev Sn:Nat:=258
abbrev R5:Nat:=259
abbrev S9:Nat:=260
abbrev R9:Nat:=261
abbrev S7:Nat:=262
abbrev Q5p:Nat:=263
abbrev SN:Nat:=264
abbrev R8:Nat:=265
abbrev Pb:Nat:=266
abbrev Pj:Nat:=267
abbrev Q5n:Nat:=268
open Go.Proofs.Tryz
def P7:=dY 0xf024051
def P6:=dY 0x78281e001
def P5:=dY 0x98281e001
def XQ:=dW 0x7213014fd70082187212014ed500621053210310c6f022cd2003212102037132f0211 [] [P7,P6,P5]
abbrev CV:List RS:=[.cell 2 1 true]
theorem Yj:mFn prog Oh 1 10 XQ CV=true:=ZE
def Qabo:=dW 0x74102e0049f01a418068060414120fd0069f02d4406f0946806805c514120bd0069f02d04356f084059405010020708058002041d6f0845800db04045d9f08418f0101c1305a4050100207080036f004076f0845800100207080836f08408f01071305a405010020708058001002070802f2ef2ef2ef2 [] [] [fI 60 (.cvt .i64 (.t 59)),fI 77 (.cvt .i64 (.t 76))]
def Qaj3:=dW 0x987410ea0049f01a418008f010113580010020708025b124324f3004005440501002070805801e71230030d90059f1f01401012070801961874100f0041118318f003003f6a0f022240f02250f02210f002220f02270f082200f001f0441800fa120020201e012571f00401012077060079100200f00411 [Qabo] [] [fI 44 (.cvt .i64 (.t 43))]
abbrev Cp:List RS:=[.tmp 4]
theorem Qaia:mFn prog Sw 2 99 Qaj3 Cp=true:=ZE
def Kk:=dY 0x98381e001
def Pq:=dY 83503542321 Kk
def Q81:=dY 4319989905 Pq
def Q82:=dY 0x190049f053360b14f113
def Q83:=dY 0xd90059f0753491514f1d3
def Q84:=dY 0x9a0061
def Q85:=dY 0x201e02227313
def Q86:=dY 0x201e0220f1e430e6114f6c4
def Q26:=dY 0x201e002705f77a3
def Q27:=dY 0x201e01277020438214f855
def Q28:=dY 0x201e0320f34349314f974
def Qanf:=dW 0x8802240127fd1f7f01009f31c080010120758090709080703060504030201000b0aa8f38ff1010500f0640501012075808a6188388f101050895f0889f076fba2489210223026f022cd08001002074804807e70a09080704060504030201000c0ba7c37cf2bf00010707d5f07c9f066fba247d21022204222f012c0110f1021702d1f011c680010020758058070a06e36ef2bf00001080fe06e9f056fba246f218022102122f011c680010220f043010120758001012075805ee100f0e030d0c0b0a090807060504030201001211a5d35df0102500f0640501012075805861563 [] [Q86,Q26,Q27,Q28]
def Qang:=dZ 0x72100281e381699210956f2bf000010807d0569f046fba24572180220201e0120f14368001012075804f804e34ef0102500f064050101207580496147347f2bf000010808c0479f036fba2448210220201e03217680580435041341f2bf000010802c0419f026fba24422180220101e0f11368001042075803b703a33af0102500f064050104207580356133372bf000010804b0339f1fba2434210221056f022cd0805802e302c302bf00001080da02c9f0f1242d210042bf00001070206f022cd0802a212 Qanf Q85
def Qa09:=dW 0x9000010640e927fd1f0f057f51c05010220748001012074800801ecd0df200010530522cd050102207480080010220748012b0c0b030a090807060504030201000e0da20010420322cd05013802080016020a7080701060504030201000a09a201031017ed600721102037132f0211 [Qang] [Q81,Q82,Q83,Q84]
theorem TQ:mFn prog MT 1 154 Qa09 CV=true:=ZE
def Q1u:=dY 0xf024061
def Q1v:=dY 4320186513 Pq
def Q1w:=dY 0xe8281e001
def Q7s:=dZ 0x7211017ed0800d21 .skip Q1w
def Xl:=dW 0x98872100281e38160c210b37010400134d6160a21010320181d60072106331031026f022cd3004212102037132f0211 [Q7s] [Q1u,Q1v]
theorem Yf:mFn prog Oe 1 15 Xl CV=true:=ZE
def SD:=dY 0xb80049f0104130a3
def Qyx:=dZ 0x74110222cd055050300551 .skip SD
def Qanb:=dZ 0x900200f00411 Qyx
theorem Qamg:mFn prog Q00 2 12 Qanb Cp=true:=ZE
def PV:=dY 0x58381e001
def Qro:=dY 0x101e3802172
def Qrp:=dY 0x107322f013c70e14f153 Qro
def Qu2:=dZ 0x140c80049f1f004600b30
def Qakd:=dW 0x72100281e38161821090001420190d03601334800118020138020d80b0a09080107060504030201000d0ca014200680a3500015003440501502100651250040001400f0041120013137132f039f0371d1f0521012037132f090121 [Qu2] [PV,Qrp]
theorem Qaif:mFn prog Qwx 1 25 Qakd CV=true:=ZE
def Q9u:=dY 0xc80041
def Q9v:=dY 0x101e3802182
def Q9w:=dY 0x104322f013c41214f163 Q9v
def Q9x:=dY 0xb90051
def Q9y:=dY 0x7a0069f053362114f273
def Q9z:=dY 0xea0071
def Q3t:=dY 0x5b882e001
def Q3u:=dY 0x1170232f089f01011702d1f352 Q3t
def Q3v:=dY 0xf0053b2
def Q3w:=dY 0x101e8812482
def Q3x:=dY 0x107122f011c73f14f463 Q3w
def Q3y:=dY 0x201e0020dfc53ec4f14f5c4
def Qani:=dW 0x810104502222f012c8826010020153780010220768078001022076804c10f121110030f0e0d0c0b0a090807060504030201001413a4b34bf0001010800f0647804a2103bf0001010909c03c9f1fcb04492003bf0001010940422cd01012076800800188123e80b0a09080107060504030201000d0ca0542043db003bf0001010a010443d11504403bf00010109301289d78003607680365120001010720422cd01012076800802f61001010610522cd0501022076800802871 [] [Q9z,Q3u,Q3v,Q3x,Q3y]
def Qa1e:=dW 0x72100281e38165e21101040f90059f1f0145801e300901010550322cd05013802080013802207080701060504030201000a09a2034202681d31df1010500f0645801c21250241010440127fd036f1f0f0f41c08019312001040090049f1f0144800f30001043012aad3816080013802115080706050104030201000a09a014200680e390010500f0644800d21250040010420127fd036f1f026f1f41c0800a3120103137132f039f0371d1f0921102037132f0211 [Qani] [Kk,Q9u,Q9w,Q9x,Q9y]
theorem TL:mFn prog MP 1 95 Qa1e CV=true:=ZE
def Qlg:=dY 32945
def Qlh:=dY 0x79583e001
def Rd:=dY 0x3f5a04880f292
def Te:=dY 0x1a06f1f03554803f04850f04810f5824820f0003f6a03880f227 Rd
def Qli:=dY 0x1012c9f023553803f03810f5803820f03810f5813820f00081b7 Te
def s_sp_UnitValid_6:=dZ 0x872102f002112a3
def Td:=dY 0x3f5a08a80f4a2
def Qoe:=dZ 0x872102f002114b3
def Qle:=dZ 0x11501b0069f1f0046803030
def Qlf:=dZ 0x19094bf00011610123568a03f688a00f488a00f1818a60f0003209f064380437100011502c0039f0704050100201536800158220704050101201536800158223803212f12f12f2034202682f32ff00011600344050158226802b512502400011500f00611 Qoe Td Qle
def Re:=dZ 0x1130290049f1f0044801130
def Tf:=dZ 0x72103f00211
def Qabt:=dW 0x392919092af001153036f0f0355d015802183120011425700332f059f0360133480011802136101420068103b01140034405011802700c5125004011300f00411211200f00311872102f002110b39121046f1f0355d0501502074121102f0090121 [s_sp_UnitValid_6,Qlf,Re,Tf] [Qlg,Qlh,Qli]
abbrev Cq:List RS:=[.tmp 2]
theorem Qaa8:mFn prog SM 1 76 Qabt Cq=true:=ZE
def Q96:=dY 0x101e3802142
def Q97:=dY 0x104322f013c40e14f123 Q96
def Nm:=dZ 0x72100281e38161521
def Qa1g:=dW 0x1909000142012abd48018160138020d5080706050104030201000a09a014200680a3500015003440501502100651250040001400f0041120013137132f039f0371d1f0521012037132f090121 [Qu2,Nm] [PV,Q97]
theorem TJ:mFn prog MN 1 22 Qa1g CV=true:=ZE
def Q8q:=dY 0xd80031
def Q8r:=dY 0x1052f014310200173735d1f0c2 Q8q
def Pt:=dY 589889
def Q8s:=dY 0xa583ec91d14fb96911c34fa91b54f991a14f005
def Q8t:=dY 0x157171332f051 Q8s
def Q8u:=dY 0x102593acd31d14f46911c34f51b54f61a14f205 Q8t
def Q8v:=dY 0x201e01277293
def Q2x:=dY 0xfa683e001
def Q2y:=dY 0x157171332f061 Q2x
def Q2z:=dY 17363697 Q2y [eI 47 (.call RN [.t 43,.k (.c (.str [109])),.t 46])]
def Q20:=dY 0x9b781e6833664f3b3414f003
def Q21:=dY 0x137132f079f0101371d1f392 Q20
def Q22:=dY 0x102322f6833664f382 Q21
def Q23:=dY 33729
def Qand:=dW 0x72100281e78164421872100281e0101371d1f013c18f015c012036f102575747105d1f014c1f111f102471004d1f3d813c33cf423601add78163a20d222422504322f359f013c6836369f010120738003c3080b06040a09080605070604030201000f0aa2202340127fd1f026f1f0f41c0803802b41001040490049f1f014480133000104302322f013c58360101207380380218b0bf0001052036f022cd08001051305010120738008f38015b0d080706050c0b080706050a09080706050403020100160ca201420068123d0010500f0644801121250040010410127fd026f1f1f0f41c0800e312 [] [Pt,Q8u,Q8v,Q2z,Q22,Q23] [fI 22 (.lz 1 [.k (.c (.str [102])),.k (.c (.str [103])),.k (.c (.str [104]))]),fI 65 (.bld [.str [],.sl true 1 [],.sl true 5 []] [(0,1,.k (.c (.str [109]))),(2,1,.t 64)])]
def Qa05:=dZ 0x9010310127fd1a6f086f146f0e6f41c080700841102037132f0211 Qand Q8r
theorem Tt:mFn prog Nb 1 69 Qa05 CV=true:=ZE
def Po:=dY 0x98383e001
def Q9f:=dY 0x101e38221b2
def Q9g:=dY 0x107522f015c71214f193 Q9f
def Qa1b:=dW 0x72100283e38361c21000140090049f1f0044800f30000142018dd05601534800118220138221180b0a09080107060504030201000d0ca014200680e39000150034405011822500a51250040001400f004112001315700332f039f011210257003d1f0151201302056101205700332f090121 [] [Po,Q9g]
abbrev CK:List RS:=[.cell 2 3 true]
theorem TO:mFn prog Pa 1 29 Qa1b CK=true:=ZE
def Q3o:=dY 0x9a0051
def Q9i:=dZ 0x20140f80069f1f004700e30
def Q9j:=dZ 0x7410aa0049f5802a21
def VR:=dZ 0x19090020150a90079f1f0047801930802602014102122f011c680580264125325f002016001241800101137800104201536800128221bb10342026818318f002016007440501042015368001282278010912502400201500f00711014200680d3602015003440501722200951250040201400f00611220130880059f01c0821012014f0049f190221 Q9i Q3o Q9j
theorem XI:mFn prog R7 2 43 VR Cp=true:=ZE
def Pp:=dY 0xd8583e001
def Q88:=dY 0x15700332f059f010157003d1f0d2 Pp
def Q89:=dY 0x101e5812020440f14f134
def Q9a:=dY 7929953
def Q9b:=dY 0xd9885e001
def Q9c:=dY 655505
def Q9d:=dY 0x101e88122e2
def Q9e:=dY 0x106422f014c62614f2c3 Q9d
def Q3g:=dY 0x101e8832332
def Q3h:=dY 0x101e8822372
def Px:=dY 0x3faba2f0374a0f0f067f40f423
def Q87:=dZ 0x8000002070036f01e88224520443
def Q3i:=dY 0x101e8842011c4f3
def Q3j:=dY 0x101e88420421c5b3
def Q3k:=dY 0x10123cfd680780080574 Q3j
def Q3l:=dY 0x101e5822622
def Qanh:=dW 0x206802522f015c88560158225d5080000020770123cfd680780080534051351f0000020802d0519f026f7c2452210000020760123cfd6807800804b400000020700f01e88324a21483047f0000020909c0489f1f124492104447f000002080018822462120944f000002085036f022c7f03f087f00f07400f0227440f1f017440f687400f787400f001f02468038a120000020740127fd036f1f026f1f026f51c08034310000020730222cd0158120802f4100000020804a0099f1f014980233000000020820233ced01581238160800188122570a09080701060504030201000c0ba0342026822322f00000020900f06498021212502400000020810127fd046f036f0f026f1f51c0801e312 [Q87] [Q9c,Q9e,Q3g,Q3h,Px,Q3i,Q3k,Q3l]
def Qa1a:=dW 0x74100483e5836632100002060c90079f1f0047801b300900000207417004727532f089f0170047275d1f1d21014200681a31af000020700144680780183125004000020600f00711200020530127fd046f076f1f026f056f036f61c0801531002042056f022cd080026f0040158020e50706050104030201000908a20020410127fd036f026f0f1f41c0800a31020305700332f190321 [Qanh] [Q88,Q89,Q9a,Q9b]
abbrev Dj:List RS:=[.cell 4 3 true]
theorem TP:mFn prog MS 2 100 Qa1a Dj=true:=ZE
def Qa7t:=dZ 0x7610e80069f2f03a0151540f281500f081500f00017460600791000302f00611
abbrev Cx:List RS:=[.tmp 6]
theorem Qa7e:mFn prog KT 3 15 Qa7t Cx=true:=ZE
def P0:=dY 0x29783e001
def Q3e:=dY 0x79885e001
def Py:=dY 0x3f8aa2f0750a0f05980f333
def s_l7Block_8:=dZ 0x876102f00611353
def Q3f:=dY 33905
def Qy3:=dY 34161
def Qy4:=dY 0xad00c1
def PC:=dY 0x3f7b5fa0f680f862
def Su:=dY 0x100f3355f603f1f01f640f0f610f781f620f0f610f00f620f012f630fd8f600f0f610f880f620f0003f705fa0e080f79d PC
def Q29:=dZ 0x876102f00611873
def Q3a:=dZ 0x3042501e00d9f1f004d806030
def Q3b:=dZ 0x76103f00611
def Qakc:=dW 0x29190987f03042630628ae003f0e010f01e020f012e030fd8e000f0e010f880e020f783e060f0003f4ea023c840f0c850fc8c800f0c850f0c810f01c820f012c830fd8c800f0c810f880c820f000f0242806217f26f26f2064205685f35ff0304260034405018802d805b512505403042500f00d11230424201289d2807836583120300160ec00b9f1f004b804d30876102f0061157357f20300171056388d0460143b8001881218038164f8909f2044203684c34cf20300170034405018812b80485125034203001600f00b112 [Q29,Q3a,Q3b] [Qy3,Qy4,Su]
def Q3c:=dZ 0x910300160cb00a9f1f004a803b30876102f0061147347f1030017101f4355d1f01405017822010113a800188423dab0bf2024201683a33af10300170034405018842a80365125014103001600f00a112 Qakc Q3f
def Q3d:=dZ 0x190935f030016100f33555903f1f015940f05910f7815920f05910f8835920f05000f1f035040f05010f8825020f000134980050188422310f12 s_l7Block_8 Py Q3c
def VT:=dW 0x976102f00611003001600f0091021321f03001602a0219f036f9924222100300160026f009101f3519f03001700a01f9f026f6242021876102f006111e31ef003001700f0340188321c311a3019f00300180b901a9f1f1241b2100419f0030017001882218212003001601f00911030015217004727532f089f056015328001782213613001415700332f079f03601331800138020e61001302f0069f290321 [Q3d] [P0,Q3e]
theorem XK:mFn prog NF 3 136 VT Cx=true:=ZE
def Mn:=dY 3735649
def Mm:=dY 0x301e01201277030441e54f51d14f227
def Ml:=dY 0x201e052da73b3
def OU:=dY 8126593
def Mk:=dY 0x100f11f35d3d01c462 OU
def VQ:=dW 0x74100483e036012076804c5114200f01036f25d5d01c88068048411143301d4d68068043311420022d2d0158226803f410043001d1d6803d21000440ca0079f1f0047802b3000044201b322f013c0f1201111030013d1f78001011378001581201052076806802de11f11f014200682a32af0004500344050158127802651250040004400f0071120043101d0d015822050158126801b70b0a0908070302060504030201000e0ca2 [] [Mm,Ml,Mk]
def Qa7w:=dW 0x900430301e0020123705015812680148100432052f01631021703705700378d1f0501581228160e610123157171332f059f0360133180016020961101305700332f049f190221 [VQ] [Pp,Mn]
theorem Qa7h:mFn prog KO 2 80 Qa7w Dj=true:=ZE
def Qyy:=dY 0xa9783e001
def Qyz:=dY 0x157171332f079f0116102571713d1f1a2 Qyy
def Qy0:=dY 0x101e78221d2
def Sz:=dY 0x2f06a0f064740f292
def Qy1:=dY 0x101e78223b2
def Qy2:=dY 0x105522f015c012076f102575747105d1f014c33414f375 Qy1
def s_l3Gen_fn_7:=dZ 0x80621026f02d7d08001782233409080706050401030201000b0aa05030201e042571f01401042070800802b912a3 .skip Qy2
def Sh:=dZ 0x76100683e78363c21
def Qary:=dW 0x19092af05043046f022c4703f04710f004720f04770f084700f000f06401042070801eb1205032036f02d6d0801b210503104122f010220708001c180137140030201e032271f0142800800e61300040201e0223718f7008f70087130004057171332f0611 [s_l3Gen_fn_7,Sh] [Qyz,Qy0,Sz] [fI 9 (.lz 1 [.k (.c (.str [97])),.k (.c (.str [98])),.k (.c (.str [99]))]),fI 11 (.sli 1 (.t 9) none (some (.t 10)))]
abbrev Ip:List RS:=[.cell 6 3 true]
theorem Qaq6:mFn prog RN 3 61 Qary Ip=true:=ZE
def Rh:=dY 32897
def Rc:=dY 33121
def Qij:=dZ 0x872102f00211163
def Qgy:=dY 0x990029f286f054192
def Q0j:=dW 0x721301d9d181617211120f80039f1f0043800e300916f113201d8d03601333800118021061014200680d3911300344050118025009512500411200f003112872102f002110836121046f1f0355d0501202044121102f0090121 [Qij] [Rh,Rc,Qgy]
theorem Qzz:mFn prog Qiv 1 26 Q0j Cq=true:=ZE
def Qno:=dY 0x19385ee80f14fb80c14f980a14f004
def Qnp:=dY 0x117004727532f039f014413612881178105170047275d1f50c14f70a14f114 Qno
def Qnq:=dY 0x101e38022c2
def Qnr:=dY 0x10a9222f012c0110a1021702d1ff92014fd9c921e34fb91c14f991a14f297 Qnq
def Qns:=dY 0x8b684e001
def Qnt:=dY 0x101e3812482
def Qnu:=dY 0x10ab422f014c013212611cb104017004d1f14414f73e14fbb3c14f9b3a14f457 Qnt
def Q4i:=dW 0x72100285e385649211001403b0059f1f004580323010014302122f429f016832439f01682201c01681201680201381239c100f0e0d0c0b050301090b0a0807060504030201001511a010015201700432f069f046014358001181234610342026831331f1001500344050118125802d51250241001400f005112000140890049f1f004480173000014106122f01012012348001180201c0100201234800118020138021910f1413121110070503010f0e0d0c0b0a090807060504030201001915a0142006816316f0001500344050118024801251250040001400f004112 [] [Qnr,Qns,Qnu]
def Qaf4:=dZ 0x90013102122f01184201c0118320172204c02c07a0c0805030b0a050309080706050403020100120ba2012017004727532f090121 Q4i Qnp
abbrev OW:List RS:=[.cell 2 5 true]
theorem Qae9:mFn prog Qs2 1 74 Qaf4 OW=true:=ZE
def Q9o:=dY 0xd80071
def Q9p:=dY 0x29884e001
def Q9q:=dY 0x101700432f089f0113102017004d1f122 Q9p
def G8:=dY 4784273
def Q9r:=dY 0x684e0127f110d6f103017004d1f011c1e3
def Q9s:=dY 0x101e8832252
def Q3p:=dY 0x101e8832322
def Q3q:=dY 33617
def Q3r:=dY 0x101e8822432
def Q3s:=dY 0x104122f011c43d14f413 Q3r
def Q9l:=dZ 0x76100684e8846442100131060bb00a9f1f004a803a30001310610122cd2800800188223c5080706050104030201000a09a0142006839339f001310700144980a80373125004001310600f00a112 .skip Q3s
def Q9m:=dZ 0x9801310507f01e8812362035335f0131061019bd78033212 Q9l Q3q
def Q9n:=dZ 0x98000310610127fdff6f106f0f6f036f026f1f0f71c0802f302e32ef000310701f0247802d212 Q9m Q3p
def Qa1d:=dW 0x9800031060ca0099f0100202330188320148022680001110650322cd050148020802051876140122cd2800801b311a31af001110700f0240501480217412163c0001110800e6f0247801521200011107301b2d7801321001110620122cd280080600e4101110510127fd08f0800b3111104001700432f069f290421 [Q9n] [Q9o,Q9q,G8,Q9r,Q9s] [fI 12 (.lz 1 [kI 1,kI 1,kI 2,kI 3,kI 4,kI 5,kI 8,kI 9,kI 10,kI 13,kI 3,kI 6,kI 7,kI 11,kI 12,kI 14])]
abbrev Fz:List RS:=[.cell 6 4 true]
theorem TM:mFn prog MQ 3 69 Qa1d Fz=true:=ZE
def Q9t:=dY 0x2f03a0f061740f0e2
def Mp:=dY 0x890069f0604182
def s_l7To_2:=dZ 0x876110422cd01141801f0142800801f00418010810f3 .skip Mp
def Mo:=dY 0xd90069f01f041d2
def Lp:=dZ 0x76110222cd1f0142800801941 .skip Mo
def Qa7v:=dZ 0x1909c00041046f022c1703f081700f0002441f014505007712000300f00611 s_l7To_2 Q9t Lp
theorem Qa7g:mFn prog KQ 3 30 Qa7v Cx=true:=ZE
def Nq:=dY 0xc8783e001
def Q0f:=dY 0x3f5a02280f162
def Np:=dY 0x10228a2203f02210f5822220f7832260f0008106 Q0f
def s_l7Ins_3:=dZ 0x876102f00611173
def Q0g:=dY 0x3f2aa2f0344a0f7f034f40f04f10f5814f20f04400f04480f267
def No:=dY 0x1019b4403f04410f5804420f000631f1f215 Q0g
def Nn:=dY 0x100f3355d21e14f41c14f203 No
def s_l7Ins_7:=dZ 0x876102f006112c3
def Pg:=dY 0x1c0069f2f05ba0726b40f06b10f006b20f0236b30f06b10f5836b20f06b10f3806b20f06b50f06b10f5826b20f0035e
def RI:=dY 0x7d0069f2f0eca03f39da0f1f02a440f0a410f580a420f09d00f0f029d40f09d10f5839d20f002f03a4dc
def Q9h:=dY 0x1ff6f0f03559303f09310f5839320f00032444454f54314f487 RI
def Ns:=dW 0x761201b2d01580205015822426161514131211100f0e0d0c0b0a0908070602010504030201001917a28761100f2355d1f01418001583230513f13f22f32ff111400e6f0240158022d312 [] [Pg,Q9h]
def Nr:=dZ 0x19092cf11141019bd1a9f1f0140178120158121b9f01580218814131211100f0e0d0c0b0a0908060402070605040301001715a22 s_l7Ins_7 Nn Ns
def Qa5j:=dW 0x190917f1111520e6f1f0355d017020d3121111415700332f079f0360133180014020861111302f029059f290331 [s_l7Ins_3,Nr] [Nq,Np]
theorem Qa4u:mFn prog LB 3 88 Qa5j Cx=true:=ZE
def Q9k:=dY 33089
def FI:=dZ 0x74103f00411
def Qa1c:=dZ 0x920130b80059f1f004400a30874102f00411143e2014100f3355d1f014012812010113701800c8909f2014200680933201400244055000064125004201300f00511201202f0049f190221 FI Q9k
theorem TN:mFn prog MR 2 21 Qa1c Cp=true:=ZE
def Q90:=dY 0x1a0039f0604212
def Q91:=dY 0x101d0d209f0604e91f14fc9b951d34f1a4 Q90
def Q92:=dY 0x101d0d199f0704e91f14fc9b951d34f791814f594951634f136 Q91
def Qa1f:=dZ 0x72102a0029f380222102030a80049f1f004400930020310199d129f0104201534800801b9f010320153480080149f1f024010020153480080700b12f1716150f14120e0814120d0b0714131211100d0c0b0a09060504030201001e18a014200680833020400244055000054125004020300f00411220200f003110100f00211 .skip Q92
theorem TK:mFn prog MO 1 35 Qa1f Cq=true:=ZE
def Qn0:=dY 0x301e0220123870f4
def Qaf6:=dZ 0x7210890029f1f014050102201207080128101105522f015c0141112103170047275d1f01c04c02c0102201207302003c10100f00211 .skip Qn0
theorem Qafb:mFn prog S8 1 25 Qaf6 Cq=true:=ZE
def Qaf8:=dW 0x201e0526708f480010520708008017a0020040090059f1f0045800f30020040042ecd05601535801800801160014200680e38020050024405180500b41250040200400f00511220030a80049f050105207500661 [] [] [fI 29 (.sli 3 (.t 27) none (some (.t 28)))]
abbrev CQ:List RS:=[]
theorem Qafd:mFn prog Qs5 2 32 Qaf8 CQ=true:=ZE
def Qva:=dY 0x201e012697223
def Qank:=dZ 0x7a104a00a9f280242121106422f014c0131122113104017004d1f3804802801800101207b80b8016c160001505900b9f0453010420708001022012070800cbb0bf200000500f00a11 .skip Qva
abbrev Q7h:List RS:=[.tmp 10]
theorem Qamj:mFn prog Q02 5 37 Qank Q7h=true:=ZE
def Qaf7:=dZ 0x7210290029f1f01401012012070800d71010301e012012671f0040101201207302003b10100f00211
theorem Qafc:mFn prog Qs4 1 19 Qaf7 Cq=true:=ZE
def Qakm:=dZ 0x201e0421748008021503020201e04217380a801d51502040201e03217280a8019515001050201e02217180a801551500000604900a9f0453010420708001022012070800bbb0bf2
theorem Qaii:mFn prog Qw0 5 37 Qakm CQ=true:=ZE
def Qna:=dY 2687089
def Qnb:=dY 2752609
def Qnc:=dY 69610959393 Qnb
def Qaf2:=dW 0x74107a0049f6802721610201e0221758008023510030050d90079f1f0147801c300030052012edd1800806801e40014200681b31bf00300602f05a0f062b40f02b10f042b20f02b70f082b00f000f06478013912500400300510127fd046f1f036f026f41c01002070800d612030040c80069f05c0c2130030b80059f0102207700851002054f00411 [] [Qna,Qnc]
theorem Qae7:mFn prog Qs1 2 40 Qaf2 Cp=true:=ZE
def Qqy:=dY 0x29584ef81014fb80c14f003
def Qqz:=dY 0x147100432f051 Qqy
def SK:=dY 0x3f6a0f063240f1f2
def s_l3Gen_expr_3:=dZ 0x874100484e58462121203
def Qq0:=dY 0x1b683e0b33164ffa5a33034fda2e54fca2d14f8a2914f4a2514f007
def Qq1:=dY 0x157171332f069f03605a334a2514f304 Qq0
def Qq2:=dY 0x4b784e001
def Qq3:=dY 0x101e7832492
def Qq4:=dY 0x10db422f014ccb3d14f473 Qq3
def Qnd:=dY 0xf0244f1
def Qne:=dY 0x484e0136d102471004d1f07d24c7845764f614
def Qnf:=dY 0x1026f043eed15f14f55b14f7845764f604 Qne
def Q8n:=dW 0x74140127fd569f010220708001002070807846579f0a6f086f046f036f41c0100207080510ff121110060f0e0a06050e0d0c0b0a0908070604030201001713a2874100484e784650214f34ff23043026f022cd01002070804a5120013050bb0089f1f0048803a300013052026f043eed010220708001002070800178323cb0e0d0c0b010a09080706050403020100100fa0142006839339f001306003440501681288035512500400130500f00811201304147100432f079f0120d6f102471004d1f0168023241 [] [Qq2,Qq4,Qnd,Qnf]
def Qqx:=dZ 0x9130310522cd0501012070800100207080010120708022e110f0e0c0b0703100f0e030d0c0b0a090807060504030201001910a2 Q8n Qq1
def Qaj8:=dW 0x190920f03042046f022c3203f03210f003220f03270f083200f000f02405010120708013c12030310153eed1800102207080010020708009a0b07030a090807060504030201000e0aa22003047100432f0411 [s_l3Gen_expr_3,Qqx] [Qqz,SK]
abbrev G4:List RS:=[.cell 4 4 true]
theorem Qaic:mFn prog Qwt 2 99 Qaj8 G4=true:=ZE
def M4:=dY 33041
def Q8m:=dY 0xf90029f2f03a1f2
def M3:=dY 0x1046f02f03703f03710f1823720f002f04a036f052b40f02b50f02b10f1812b20f0015a Q8m
def Qa7u:=dW 0x721201efd01180212311120a80039f1f004500930872102f00211113d113101efd0101133800118120b610142006808341130034405013120004512500411200f0031121102f0090121 [] [M4,M3]
theorem Qa7f:mFn prog KS 1 32 Qa7u Cq=true:=ZE
def Nv:=dY 0x490039f0704142
def M5:=dZ 0x1130b80049f1f004500a30
def Qa5i:=dZ 0x7210590029f3801521090113101f1d0102201334800118023800c80014200680934011400344050140200055125004011300f00411211200f003111100f0090121 M5 Nv
theorem Qa4t:mFn prog LC 1 22 Qa5i Cq=true:=ZE
def Pw:=dY 0xc80029f2f02a0d6f031340f081300f002f02a0c6f030b40f50b00f00059
def VS:=dZ 0x72110e6f1f0355d2003210102f00211 .skip Pw
theorem XJ:mFn prog NE 1 13 VS Cq=true:=ZE
def Q80:=dY 0xb90159f03f2a0c6f023040f083000f00185
def Q0e:=dZ 0x72107f00211
def Qa08:=dZ 0x987210026f0021115315f11096f036f0355d080162172101f002110635020490069f03f2a0d6f022240f082200f0003f2a0b6f021a40f081a00f0003f2a0a6f021240f081200f00026f02460070ff172100f002110332020580039f1f02430043100420100f00211 Q0e Q80
theorem TR:mFn prog Q5r 1 28 Qa08 Cq=true:=ZE
def Q8z:=dZ 0x72100f00211
def Mq:=dZ 0x9872101f0021103331020031120100f00211 Q8z
theorem XM:mFn prog NG 1 4 Mq Cq=true:=ZE
def Qr0:=dY 655425
def Qr1:=dY 0x1079122f011c1f2 Qr0
def Qr2:=dY 0x201e052ca73a3
def Qr3:=dY 0xf1026f55d3d4804b2
def Qoa:=dY 0x23036f65d5d45c14f0f515b34f603
def Qob:=dY 5111905
def Qoc:=dY 7209073
def Qod:=dY 9306241
def Q94:=dW 0x800010f1f35d5d880011c8800807f507020022d2d0138420807b4142030010f1f35d5d780011c8800807651032040022d2d0138320807241032040014026f75d5d6800121c780680010f01348008069910010206401d1d0806721010205301d1d080652110204201d1d080632161361f020402e0619f056f2a2462210101d1d08001c010f013480080597070302060504030201000a08a57357f22f020508d0579f076f2a2458210000f7f0c6f15d3d4800805430523 [] [Qoa,Qob,Qoc,Qod]
def Q95:=dW 0x952f22f020503d0529f046f2a2453210000f7f0d6f15d3d4800804f304d34df22f02050ec04d9f036f2a244e2102022f8d013812080080465044344f22f020505c0449f026f2a24452100201e062571f00401062070800803c9001100b322f013c0f1201141030013d1f010620708001381201052070800802ce11f11f2202000f1026f55d3d48001062070800802571233022f020504a0239f1f1242421024 [Q94] [Qr2,Qr3]
def Qako:=dZ 0x922f020400138022120d22002040690059f1f0045801530002041052f7d0460143580013822080480178001420068143e0020500344050138225801051250040020400f00511202030f80049f01c0f218700012f6d38560800c310b372030066f02401502093122020190311 Q95 Qr1
theorem Qaik:mFn prog Qw2 2 132 Qako CQ=true:=ZE
def EK:=dY 3735633
def Qre:=dY 0xca0049f015c012311026f103575747105d1f014c2a4
def Qrf:=dY 0x1036f02d7d291 Qre
def Qrg:=dY 0x4b0049f015c342
def Qrh:=dY 69306340145 Qrg
def Qri:=dY 0xc0049f015c012036f102575747105d1f014c3e4
def Qrj:=dY 0xac0049f015c012046f102575747105d1f0224c484
def Qrk:=dY 0x1026f02d7d080462 Qrj
def Qrl:=dY 0x4d0049f015c012036f102575747105d1f014c0130c6f102471004d1f014c506
def Qrm:=dY 0xfd685e001
def Qni:=dY 0x157574710532f069f013412056f103575747105d1f5f2 Qrm
def Qnj:=dY 0x1022d6d1f014180080014c5a5 Qni
def Qnk:=dY 0xf024651
def Qnl:=dY 0x101e68426a2
def Qrc:=dZ 0x7410ce0049f015c68566b31
def SV:=dY 0x775f06d9f2f06a0f02e140f763
def Qnm:=dY 0x7c5f0049f015c012076f102575747105d1f014c7a4
def Qrd:=dZ 0x87411026f02d7d08078216d3 .skip Qnm
def Q8p:=dW 0x196df0038036f022ce103f0e110f00e120f0e170f08e100f000b6f0245806e81098617022d6d1f014180080664065365f40046026f022cd01002070806051240035036f02d7d080582155355f300407d0559f0b6f0445805631741401fbd0804e214b34bf30040dc04b9f086f0245804c31741301fbd080442141341f300403c0419f076f02458042317412036f02d7d0803c2135335f30040bb0359f03f2a026f047040f187000f00076f04458036717411036f02d7d08008030312d3 [Qrc,Qrd] [Qrh,Qri,Qrk,Qrl,Qnj,Qnk,Qnl,SV]
def Qnn:=dY 0x7f5f0041
def SJ:=dZ 0x7411012fcd1800807d31 .skip Qnn
def Qaka:=dW 0x19092df30040fa02d9f056f0445802e317412042f9d279f080289f010220708001002070801fa0e0d0c0b0a080907060504030201000f0fa2143e30040e90149f2f06a0f062f40f02f50f02f10f022f20f02f70f082f00f00036f04458015b10042300310d6f022cd01002070800f510020201e042571f014010420770600791002054f00411 [Q8p,SJ] [EK,Qrf]
theorem Qaie:mFn prog Qwv 2 128 Qaka Cp=true:=ZE
def RY:=dY 0x3f3a0f021440f0d2
def Q77:=dY 6820257793
def s_l2Expr_2:=dZ 0x87611012fdd1800800f310e3 .skip Q77
def Q78:=dY 0xf024141
def Q79:=dY 0x684e0136102471004d1f014c1d3
def Q8a:=dY 0x10233eed1f014280180080185 Q79
def Q8b:=dY 1704049
def Q8c:=dY 0x684e0132a102471004d1f0524c2d3
def Q8d:=dY 0x10233eed1f014280180080285 Q8c
def Q76:=dW 0x76140233eed1f014280180080780226103000530127fd0a6f096f086f076f066f056f046f036f036f91c0801f31876120127fd0b6f0c6f0b6f31c0801531143d300051076f022cd08012212 [] [Q78,Q8a,Q8b,Q8d]
def Qa00:=dZ 0x19097300051046f022c1403f081400f00026f044500851230004047100432f0611 s_l2Expr_2 RY Q76
theorem Tz:mFn prog Nd 3 47 Qa00 Fz=true:=ZE
def S6:=dY 0xe80029f2f03a01580f0d3
def Qvb:=dY 0x101ff1503f081500f002f03a046f050b40f08f50b00f00058 S6 [gT 7 5 (.lens (.t 6))]
def Qanm:=dZ 0x72111f02fed2003210102f00211 .skip Qvb
theorem Qaml:mFn prog Q04 1 15 Qanm Cq=true:=ZE
def Q25:=dY 33057
def Pr:=dZ 0x30030b80059f1f004400a30
def VU:=dW 0x1909874102f00411123c3004108f1800560153700800c61014200680933300400244056000064125004300300f00511200202f00411 [Pr,FI] [Q25] [aJ 17 Q5q [.t 15,.t 16]]
theorem XN:mFn prog NH 2 19 VU Cp=true:=ZE
def Q2v:=dY 0xb90039f06041b2
def Q2w:=dY 0x101f1d1a9f0604891914f695951734f144 Q2v
def VV:=dZ 0x7210c90029f3801c2102030c80049f1f004600b300203101f1d139f010420153480080159f0103201534800803800dc0f0e0d070c0a060c0b0a09080504030201001210a014200680a35020400244057020074125004020300f0041122020680039f054005310100f00211 .skip Q2w
theorem Yx:mFn prog NI 1 29 VV Cq=true:=ZE
def Qrx:=dY 9961537
def Qry:=dY 0xb80051
def Qrz:=dY 0xd80061
def ID:=dY 8978545
def Qakn:=dW 0x10f1f35d5d680011c480080245013030022d2d0138320802041102040014026f55d5d5800121c680580780080197100002064042f7d0460f04301382208013610002050010f1f35d5d480011c4800800e51000205301d1d0800c2100204201d1d0800a210203101d1d7008212020190311 [] [Qrx,Qry,Qrz,ID]
theorem Qaij:mFn prog Qw1 2 41 Qakn CQ=true:=ZE
def Qrr:=dY 1638465
def Qrs:=dY 0x10131f55d3d20f14f112 Qrr
def Qrt:=dY 7929921
def Qru:=dY 0xc90041
def Qrv:=dY 0xea0051
def Qrw:=dY 0x105a122f011c2d2 Qrv
def Qn1:=dY 8060993
def Qn2:=dY 0x100f10a6f35d3d580362 Qn1
def Qn3:=dY 0xeb0041
def Qn4:=dY 0x100f10b6f35d3d5803d2 Qn3
def Qn5:=dY 0xcc0041
def Qn6:=dY 0x1013c0e6f1c5d3d4c1 Qn5
def Qn7:=dY 0x108f14914f314764f4a3 Qn6 [aJ 74 R5 [.t 71,.t 73]]
def Qn8:=dY 3997761
def Qn9:=dY 0x100f1355d3d44f14f532 Qn8
def Q93:=dW 0x741501d4d519f580529f0800138020804d60706020405030201000908a28741401d4d439f5804b9f01382201600207080449f08008041a0c0b090806020a08070605040301000f0da23f33ff120400c03f9f0d6f0b244021741301d4d0800803a31383730f120509b0389f0c6f0b243921741201d4d0800803331313030f120502b0319f0b6f124322103430f120400138022f20d2220120404a0069f1f0046802330012041052f7d046014368001383208058025800242016822322f0120500344050138326801e51250140120400f006112 [] [Qrw,Qn2,Qn4,Qn7,Qn9]
def Qakl:=dW 0x912030d90059f01c1d218741308f38460801a3118318f2030990189f0a6f882419217412022f8d0138220801441123942040390129f026f88241321741101d4d0d9f01c0138120e9f0800800b60706040205040301000908a2093042040a80099f1f1240a2100442030013020721220200f0190321 [Q93] [Qrs,Qrt,Qru] [aJ 28 Sn [.t 26,.t 27]]
theorem Qaih:mFn prog Qwz 2 84 Qakl Cp=true:=ZE
def GD:=dZ 0x74107f00411
def Qanl:=dZ 0x930030f80059f1f0145800e30874101a0049f01012013358001052070801a9119319f300400124180010020133580010520708010a1014200680d37300400f074600c212500430030b80059f1f014050105207500671200200f00411 GD
theorem Qamk:mFn prog Q03 2 34 Qanl Cp=true:=ZE
def Qarx:=dW 0x9002008f0411 [Qyx] [] [fI 4 (.mv (.k (.c (.str []))))]
theorem Qaq5:mFn prog Q5o 2 12 Qarx Cp=true:=ZE
def Quz:=dY 7864401
def Qu0:=dY 0x201e022887123
def Qu1:=dY 0x102122f011c5800f3 Qu0
def Qanc:=dW 0x74100485e0122111f103575747105d1f014c384658014510033204122f010220708001c70087100204108f5006210203057574710532f190321 [] [Quz,Qu1] [aJ 7 S9 [.t 6]]
abbrev Q7b:List RS:=[.cell 4 5 true]
theorem Qamh:mFn prog Q01 2 24 Qanc Q7b=true:=ZE
def Qqv:=dY 0x284e013076f102471004d1f0724c0111f102471004d1f0b4
def Qqw:=dY 0x10127fd20814f0a2 Qqv
def Qaj7:=dZ 0x7211026f02d7d049f0f116f086f106f106f106f61c010020740059f200370b0a09080705010605040302000d0ca2102047100432f0211 .skip Qqw
abbrev Rx:List RS:=[.cell 2 4 true]
theorem Qaib:mFn prog Qws 1 14 Qaj7 Rx=true:=ZE
def Qq6:=dY 6803546113
def Qq7:=dY 0x157574710532f051 Qq6
def Qq8:=dY 0x1072fad0111f102471004d1f102 Qq7
def Qq9:=dY 0x49684e001
def Qra:=dY 0xa885e001
def Qrb:=dY 0x1b0049f0725c013412066f103575747105d1f6842a64f5852964f305
def Q8o:=dW 0x741502522f015c8856780014c684658562970908070100060504030201000c0aa2000540201e04257026f01401042070800802191000405457574710532f089f012511026f103575747105d1f014c013046f102471004d1f0124c1f111f102471004d1f68460158121991004043022d6d1f014180080154103004247100432f069f012026f102471004d1f0158121241300310127fd056f0f1f036f026f51c01002070800800971 [] [Qq8,Qq9,ID,Qra,Qrb]
def Qaj9:=dZ 0x9002054f00411 Q8o
theorem Qaid:mFn prog Qwu 2 50 Qaj9 Cp=true:=ZE
def RK:=dY 0x3f3a0f021040f0b2
def Q8j:=dY 0x484e0111f102471004d1f102
def s_l2Leaf_2:=dZ 0x874110127fdff6f646f106f0f6f076f056f036f026f1f0fa1c0800d310c3 .skip Q8j
def Q8k:=dY 0x484e012026f102471004d1f142
def Nw:=dZ 0x7411012f9d1800801131 .skip Q8k
def Qa03:=dZ 0x1909720041036f022c1003f081000f000f0240530056122003047100432f0411 s_l2Leaf_2 RK Nw
theorem Tv:mFn prog Nc 2 21 Qa03 G4=true:=ZE
def Nz:=dY 5168955650
def Qa5g:=dW 0x7410490049f0f06438f080124109874102f00411113b3004128f18f700800c4101420068093330040024408f6000064125004300300f00511200202f00411 [Pr] [Nz] [fI 8 (.lens (.t 7)),fI 14 (.idx (.t 12) (.t 13)),aJ 15 R9 [.t 14],fI 19 (.lens (.t 18))]
theorem Qa4r:mFn prog LE 2 21 Qa5g Cp=true:=ZE
def I3:=dY 5767217
def M6:=dZ 0x2030b80049f1f004500a30
def Qa5h:=dW 0x72102f0021109872103f00211113c0204001240800101134803800c61014200680934020400244053010064125004020300f004112202108f05110102f00211 [M6] [I3] [aJ 5 S7 []]
theorem Qa4s:mFn prog LD 1 18 Qa5h Cq=true:=ZE
def Ps:=dY 0x3f7a0331e40f41e1255f51e1115f164
def RJ:=dY 0x108f01e10f2801e20f01e50f01e10f2821e20f0003f4a01280f0d9 Ps [.e (some 21) (some (15,false)) (.call Q5p [.t 20])]
def s_l3Stmt_2:=dZ 0x874102f00411173
def Q8x:=dY 0x3f7a2f034aa0f08f05110f2815120f04a00f04a80f584a00f000331f1f24a [] [gT 43 40 (.bin 0 .neq (.t 42) (.k (.c (.str []))))]
def Nu:=dZ 0x874102f004112d3
def Q8y:=dY 33713
def Sa:=dY 0xbe0049f2f05a6b2
def Q24:=dY 0x1022f0cb03f1f01cb40f18cb00f0cb10f284cb20f00656 Sa
def Qane:=dZ 0x7411022f0d1f0141800128326051874102f004115f35ff013003f0da2f03a0a0f066f03b540f0b510f280b520f0a000f2f03a0a0f056f03ab40f0ab10f280ab20f0a000f0f06a040f0a050f0a010f283a020f002f03a056f039740f09710f2809720f000f064050128424719f12874102f0041146346f01302f06a0d6f037f40f07f10f007f20f0f047f30f07f10f2827f20f00086f0240128023cb12 .skip Q24
def Q8w:=dW 0x19301304b0069f1f0046803330874102f004113b33bf3014208f046014368001282235610142006832332f301400344050128226802e5125004301300f006112092df013101efd0128125802041220130f90059f03f3a026f023640f03610f2803620f001f0240128021891 [Nu,Qane] [Q8x,Q8y] [aJ 58 SN [.t 57]]
def Qa06:=dZ 0x190917f0131086f1f03551203f01210f701220f001f04450076100f0b0a0e0d0c0b0a090807060504030201001311a2201202f0049f190221 s_l3Stmt_2 RJ Q8w
theorem Ts:mFn prog Q5q 2 108 Qa06 Cp=true:=ZE
def Qu3:=dY 589905
def Qu4:=dY 5832801
def Qu5:=dY 0x100f11f35d3d01c142 Qu4
def Qu6:=dY 7929969
def Qu7:=dY 0x990081
def Qu8:=dY 6946961
def PK:=dY 0xca00a1
def Qu9:=dY 0x100f20a6f45d3d011c9802a3 PK
def Qanj:=dW 0x74107b0049f6803721610010f1f35d5d880011c88008032511503000f20a6f35d3d011ca806800802d5111504601d4d0800802731015045042f7d0461f0430138320802161122040014026f55d5d7800121c8807805800801a710001206401d1d0801821001205301d1d080162101204201d4d080080113112031042f7d0460f0430138320800b6120200f0190321 [] [Qu3,Qu5,Qu6,Qu7,Qu8,Qu9]
theorem Qami:mFn prog Sn 2 56 Qanj Cp=true:=ZE
def Xw:=dZ 0x920130c80059f1f004500b3087410590049f5801521143e2014001241800100201335800128020d81014200680a34201400344050140200065125004201300f00511201200f0049f190221 GD
theorem XG:mFn prog R5 2 22 Xw Cp=true:=ZE
def Qng:=dY 0x2f06a0f062340f02350f02310f022320f02370f082300f000f024109
def Qnh:=dY 1703969
def Qaf3:=dW 0x7210da0029f18f1f004186f0a40103207080186f0a4010320708022dd0df287212042f9d01022070800100207080199a0af218318f021096f022cd01002070800b512010201e032571f00401032073020039101008f0211 [] [Qng,Qnh] [fI 2 (.mv (.k (.c (.str [])))),fI 45 (.slis (.k (.c (.str [97,98,99,100,101,103,104,105,106,107,108,109,110,112,113,114,115,116,117,118,119,120,121,122]))) (some (.t 38)) (some (.t 44)))]
theorem Qae8:mFn prog S9 1 46 Qaf3 Cq=true:=ZE
def Q2s:=dY 0x490119f0f074142
def VZ:=dW 0x987210046f0021115315f10b90159f03f2a68f083000f0058f08016717210036f0021111311f02148f08012217210026f002110a390200900a9f2f02a38f081b00f0028f0800b7172101f002110332020980039f2f02a18f60d00f0008f30047100420100f00211 [Q8z] [Q2s] [fI 5 (.bin 0 .geq (.t 4) (.k (.c (.int .u8 97)))),gT 8 6 (.bin 0 .leq (.t 7) (.k (.c (.int .u8 122)))),fI 12 (.bin 0 .geq (.t 11) (.k (.c (.int .u8 48)))),gT 15 13 (.bin 0 .leq (.t 14) (.k (.c (.int .u8 57)))),eI 19 (.call R8 [.k (.c (.str [40,41,123,125,59,44,43,45,42,47,37,60,61,38,33,64])),.t 18]),fI 23 (.bin 0 .eql (.t 22) (.k (.c (.int .u8 32)))),gF 26 24 (.bin 0 .eql (.t 25) (.k (.c (.int .u8 10))))]
theorem Y1:mFn prog R9 1 28 VZ Cq=true:=ZE
def Qagb:=dW 0x7010180009f08f01210014f00011 [] [] [fI 1 (.lz 1 [.k (.c (.str [102,110])),.k (.c (.str [108,101,116])),.k (.c (.str [115,97,121])),.k (.c (.str [112,117,116])),.k (.c (.str [105,102])),.k (.c (.str [101,108,115,101])),.k (.c (.str [108,111,111,112])),.k (.c (.str [98,97,99,107])),.k (.c (.str [100,111]))])]
abbrev Qxx:List RS:=[.tmp 0]
theorem Qaff:mFn prog S7 0 2 Qagb Qxx=true:=ZE
def Qa04:=dZ 0x72101f0021187210026f00211043410046f02420032120100f00211
theorem Tu:mFn prog Q5p 1 5 Qa04 Cq=true:=ZE
def Tg:=dY 0x980029f2f03a1e6f050b40f083
def Qlb:=dY 0x108f440b60f00053 Tg [.e (some 7) (some (5,true)) (.call Pj [.t 6])]
def Qabq:=dW 0x721108f14603211102f0090121 [] [Qlb] [aJ 4 Pb [.t 3,kI 6]]
theorem Qaa5:mFn prog SN 1 10 Qabq Cq=true:=ZE
def Kl:=dZ 0x87410190049f5801121103
def VX:=dW 0x291909a30040012418018f700800c5101420068093330040024408f6000064125004300300f00511200200f00411 [Kl,Pr,GD] [] [fI 8 (.lens (.t 7)),fI 14 (.idx (.t 12) (.t 13))]
theorem Yz:mFn prog R8 2 18 VX Cp=true:=ZE
def Q8g:=dY 0xe80d80059f41b30b0d9fc80095
def Pu:=dY 0x3f7a02e80f1e2
def RX:=dY 0x10123552e03f682e00f582e00f02e50f02e10f2832e20f0003f4a02280f159 Pu
def s_l2Form_3:=dZ 0x874102f004111f3
def RL:=dY 0x3fcba2f0378a0f0f038140f08110f2818120f07800f1f037840f07810f2807820f0003f4a06c80f3ac
def Q8h:=dY 0x1ff6f0f03556c03f06c10f2816c20f0003f7a2f035aa0f08f06110f2826120f05a00f05a80f785a00f000331f1f2ce RL [gT 51 48 (.bin 0 .neq (.t 50) (.k (.c (.str []))))]
def s_l2Form_6:=dZ 0x874102f00411453
def Q8i:=dY 34129
def s_l2Form_8:=dZ 0x874102f00411553
def Q8e:=dW 0x1950130cc0089f1f0048804b300955f5014108f1f01418004601438800128324d81014200684a34af50140034405012832880465125004501300f008112 [s_l2Form_8,FI] [Q8i] [aJ 84 Pb [.t 81,.t 83]]
def Q8f:=dZ 0x190945f013101efd01282278028412401307a0079f03f3a0d6f024640f04610f2804620f00026f0240128022091 s_l2Form_6 Q8h Q8e
def Qa01:=dW 0x19091ff01320d6f1f03552203f02210f2802220f001f0441800f61202014108f017020a3101202f0049f190221 [s_l2Form_3,Q8f] [Q8g,RX] [aJ 12 Q5n [.t 11]]
theorem Tx:mFn prog Pb 2 86 Qa01 Cp=true:=ZE
def Q2t:=dY 0x390039f0604132
def VY:=dW 0x7210490029f3801421090113108f04601434800118323800c70014200680934011400344050143200055125004011300f00411211201f003111100f0090121 [M5] [Q2t] [aJ 18 Pj [.t 17]]
theorem Y0:mFn prog Pj 1 21 VY Cq=true:=ZE
def Ny:=dZ 0x870220036f00f002210b3b10c800b9f0d6f7240c21702201f01f00221083
def Nx:=dZ 0x93420a80089f0c6f5240a2080833420980089f0b6f42409212702200f00f00221053 Ny
def Q0d:=dZ 0x70220026f0026f00221
def Qa02:=dZ 0x19090420780059f026f224072080530420680059f1f1240621200441030041120100f00f00221 Nx [] Q0d
abbrev IM:List RS:=[.tmp 2,.tmp 3]
theorem Tw:mFn prog Q5n 1 13 Qa02 IM=true:=ZE
def IE:=dY 32849
def Qmx:=dZ 0x8721014f00211053
def Rb:=dY 8912929
def Qky:=dY 4316254337 Rb
def Qabb:=dW 0x72120187d43606210931210186d1360321211014f0090121 [Qmx] [IE,Qky]
theorem Qaas:mFn prog Qos 1 9 Qabb Cq=true:=ZE
def GC:=dY 0x880049f0f074082
def Qaga:=dZ 0x741101277d4040053100202f00411 .skip GC
theorem Qafe:mFn prog Qs6 2 9 Qaga Cp=true:=ZE
def Qa5f:=dZ 0x190987410290049f5801221113b300400124180010113700800c61014200680933300400244056000064125004300300f00511200200f00411 Pr [] GD
theorem Qa4q:mFn prog LF 2 19 Qa5f Cp=true:=ZE
def Q1y:=dY 0xf80051
def Q1z:=dY 0xa90071
def Q10:=dY 0xba0081
def Q11:=dY 9175105
def Q1x:=dW 0x115202122f011c880480454000000011800b0099f1f0049802f300000001180101e2b1b132f05a07b80f07b10f0117b30f987b00f787b00f002f04a06f10f0116f30f986f00f586f00f000101136805809808803115f0034202682e32ef000000119001443809802c312502400000011800f00911200000117108f3802a21 [] [Q10,Q11] [eI 43 (.mks 1 [.bool false] (.t 42))]
def Xk:=dW 0x72109c0029f48049210001150890069f1f004680173009000011602f01e01136807802740000011602f01e0113680780244000001160010f248fd01c780183620411f31ff000011700f0346801e212000011603f01e01136807801b410000116218f38019210142006816316f0001160014438068014312500400011500f006112001140010f248fd01c5801836104100114108f3800e2101130d80049f01c0d211120c80039f050118220a4111014f0090121 [Q1x] [Q1y,Q1z] [eI 15 (.mks 1 [.bool false] (.t 14)),eI 26 (.mks 1 [.bool false] (.t 25))]
theorem Ye:mFn prog NU 1 74 Xk Cq=true:=ZE
def SR:=dY 0xd80029f2f05a00f80f0c3
def Qajh:=dZ 0x7211012ae0f03f181af0fe0f00f10f620f20f000f064050112203911102f0090121 .skip SR
theorem Qah3:mFn prog Qwn 1 14 Qajh Cq=true:=ZE
def PA:=dY 9961505
def XS:=dW 0x7212016ed400821310016dd2006213110137d30042101014f00211 [] [I3,PA]
theorem Yl:mFn prog Ok 1 10 XS Cq=true:=ZE
def Qun:=dY 0x98481e001
def Quo:=dY 74913607745 Qun
def Qam5:=dW 0x7210d80029f3810d213100f0142f510b211320051e641854b1e1f0a210011405132f05110113108f05014220641112017132f031111014f0090121 [] [Quo] [eI 9 (.mks 1 [.bool false] (.t 8))]
theorem Qamb:mFn prog So 1 14 Qam5 Cq=true:=ZE
def Q2u:=dY 0xa80021
def Q8l:=dZ 0x7211052f01010172d1f700831 .skip Q2u
def VW:=dW 0x98010780009f08f500630053402007d09f0640520033120108f00211 [Q8l] [] [fI 7 (.sli 1 (.t 6) none (some (kI 2000)))]
theorem Yy:mFn prog NJ 1 11 VW Cq=true:=ZE
def Pv:=dZ 0x50040290089f1f88041220
def Qar2:=dW 0x291909701300600424010113700801800b610130050a80059f100a2101420009b00500501044091150040500400f005500631200200f00411 [Kl,Pv,GD] []
theorem Qara:mFn prog Q5v 2 19 Qar2 Cp=true:=ZE
def PW:=dY 32993
def Qpy:=dY 0x69785e490062
def Qpz:=dY 0xe90051
def Qaje:=dW 0x74100a0049f580202100a3150f90129f1f29041f20800a315302122f011c6805801b401a370090317001252d180017842174100800317217004727532f079f056245310144101420013b000a316010441311500400a31500f0050128220f4128741014f004110e382014100f4321d1f014050162260086122013014f00511012014f0049f190221 [] [PW,Qpy,Qpz]
theorem Qah0:mFn prog Sy 2 33 Qaje Cp=true:=ZE
def Q0i:=dZ 0x741101265d4040053100202f00411 .skip GC
theorem Qzy:mFn prog Tn 2 9 Q0i Cp=true:=ZE
def Q1n:=dY 33361
def Xo:=dZ 0x72109a0029f0f0640501182226511120b80039f1f004600a3001130690049f1f0044801530872102f0021125325f0114100f4355d1f0140501182201011348001042015338001182217e0ff0ff20342026814314f01140074405010420153380011822700c9125024011300f004110142006809351130034405014221005512500411200f0031121102f0090121 .skip Q1n
theorem Yh:mFn prog Og 1 42 Xo Cq=true:=ZE
def Qy5:=dY 6946913
def Qy6:=dY 0xea0041
def Qy7:=dY 0x103122f07f2e2 Qy6 [.chk 45 none (.sli 1 (.t 43) (some (.t 44)) none)]
def Q3m:=dW 0x741202122f2a9f18f5800802b9f011c180680277080706030605040201000a09a203004103122f08f58008001c2251 [] [Qy5,Qy7] [fI 37 (.sli 1 (.t 35) none (some (.t 36))),fI 45 (.sli 1 (.t 43) (some (.t 44)) none)]
def Q3n:=dZ 0x9874101a0049f080212120320f300402f06a0123340f183300f03310f0113330f583300f083300f0002440508058015c12 Q3m
def Qarz:=dZ 0x930030490059f1f00458013300140068123c300402f06a0141740f181700f01710f0111730f71700f081700f00024405701007c1250042300300f00511002014f00411 Q3n
theorem Qaq7:mFn prog Q5s 2 47 Qarz Cp=true:=ZE
def PE:=dY 1769521
def PD:=dY 5963905
def Qaru:=dW 0x781202122f011c18038032414000150790099f1f0049801630840001510125a48fd380280010113980010420153180014822483625de0ef24324f400016008010891301011398001042015318001482228018d101420068153b4000160074405010420153180014822300d912500440001500f0091120001403f01e0113180700a4100014014f0089f390421 [] [PE,PD]
abbrev Dc:List RS:=[.tmp 8]
theorem Qaq2:mFn prog Q5k 4 54 Qaru Dc=true:=ZE
def Qmf:=dZ 0x7411012dad4040053100202f00411 .skip GC
theorem Qlv:mFn prog Qdt 2 9 Qmf Cp=true:=ZE
def IH:=dY 7864369
def Q7p:=dZ 0x73110123cd41b0e1f01142044101202f0190221 .skip IH
abbrev DY:List RS:=[.tmp 3]
theorem Q6a:mFn prog Q34 2 8 Q7p DY=true:=ZE
def Qy9:=dY 7864353
def Qar0:=dW 0x721101122f5001c05318721014f00211043302008f200321201014f00211 [] [Qy9] [eI 4 (.nilq (.t 3))]
theorem Qaq8:mFn prog Q5t 1 8 Qar0 Cq=true:=ZE
def Q3z:=dY 0x30f44a4d0a1
def Xx:=dW 0x101a5d08f40304005501020480029f05200331 [] [Q3z] [fI 8 (.cvt .u64 (.t 7))]
theorem XH:mFn prog R6 1 11 Xx CQ=true:=ZE
def Q98:=dW 0x2020f80039f1f0043800e3087210bb0029f38f3800803941202027f18f38008036410020402a0059f1f004580213080020405b0039f1f0043803430002040101e45130101135804803800802d812c32cf00205005340102131f01458048001011358048023aa0af20342026820320f0020500244054805801d41250240020401f00511202030c90049f08f3800801a4119319f203005240102131f01438008001011338008010aa0af20142 [] [] [fI 28 (.sli 1 (.t 26) (some (.t 27)) none),fI 56 (.sli 1 (.t 54) (some (.t 55)) none),.e none none (.clrs 1 [.int .i64 0] (.t 56)),fI 59 (.sli 1 (.t 57) none (some (.t 58)))]
def Qaku:=dZ 0x7210cb0029f0803c210900680d392030024405080600a412500420201f00311287210980029f08009210837020026f04405500631201014f00211 Q98
theorem Qail:mFn prog Qw3 1 61 Qaku Cq=true:=ZE
def Qk4:=dY 0x2a481e001
def Qabl:=dZ 0x102122f011c0804811f4000b010070e90129f1f29041e20800b01007001142f7803811b301a3700820100900801011378018116510082010080590079f011313143101420013b000b01008010441311500400b0100700f0050104201530800128220b81200000503f01e0113080610841 .skip Qk4
theorem Qaa2:mFn prog PZ 5 35 Qabl CQ=true:=ZE
def Qam6:=dZ 0x7610e80069f2f03a0151540f281500f081500f00015470500791000302f00611
theorem Qamc:mFn prog Q0w 3 15 Qam6 Cx=true:=ZE
def Qabp:=dW 0x2919097013006004142f010113700801800b610130050a80059f100a2101420009b00500501044091150040500400f005500631200200f00411 [Kl,Pv,GD] []
theorem Qaa4:mFn prog Qo5 2 19 Qabp Cp=true:=ZE
def Qsv:=dW 0x2919097013006004142f0560153700801800b610130050a80059f100a2101420009b00500501044091150040500400f005500631200200f00411 [Kl,Pv,GD] []
theorem Qsr:mFn prog Qfn 2 19 Qsv Cp=true:=ZE
def Ri:=dY 0xa80039f080a2
def Qx4:=dZ 0x731100f4321d1f014050132230046100202f00311 .skip Ri
theorem Qw9:mFn prog Qvk 2 11 Qx4 DY=true:=ZE
def Qom:=dY 0xb0fa00b9f51b40b2f9fea02a5
def Qon:=dY 0x2f0bca09780f562
def Qmg:=dY 0xcd00d1
def Qmh:=dY 0x5e04e00e9f61b50b649f3e05e5
def Qok:=dW 0x4000060855f0029fe8085204041006001244a4d3802801f004e800807f614040000707e5f0089f01742901907c41040000607b5f0019f1f004e807a304040106001234a4d380e801800807551404000070745f0089f0174290090724171371f001450000a001441900906f3100145000090ee0129f086f094a806d3101305000090ce09e0109f0114e802800114180e8067813050000706e0099ff80662103600007301234cadb802801800805f51801604000060dd0019fd805d213040106201234c9db80280180080585157357f0004000091042c89703f09710f0119730fb89700f089700f09710f0219730f1f019740f189700f089700f000f06418049d0ff0ff22 [] [Qon,Qmg,Qmh]
def Qol:=dZ 0x988748348f00040000900123c7d280180080454144344f00040000902f02a1f028340fc88300f002f01a987d00f008803d8128000040000901f00c100004000080cb00b9f03140114180b801f014280377100040000800123c6d280180080334132332f000040000a0026f024c8031212000040000910123c5d2801800802b4180040000709a0039f1f01438028300040000700123c4d280180080244123323f004000080088802221287000123c3d2801800801e411d31df0040000800f0243801c212 Qok Qom
def Qwe:=dZ 0x987000123c2d2801800801841173c0040000800c6f054a80162120040000705900a9f011418028013410145004040000603f0091140000503f00811 Qol
theorem Qvs:mFn prog Qgh 4 134 Qwe CQ=true:=ZE
def Qha:=dY 0x2f039a1e1
def Qhb:=dY 0x201e5a3a13302
def Qj9:=dW 0x300040e80069f1f004600d3003000500a0079f1f0147801f300300052501e2a1a130101137800800102131f0147800801f0147800807800802110f12f12f034202681e31ef0300061052c82703f02710f0212730f1f012740f782700f082700f02710f0112730f782700f082700f00016418078010e0ff0ff2250240300050f80079f6800f21014200680c353000500144280300a3125004300040980069f1f004600831 [] [Qha,Qhb]
theorem Qjw:mFn prog Qc4 3 49 Qj9 CQ=true:=ZE
def Kx:=dY 32929
def Qkz:=dY 0x29583e090042
def Qk0:=dY 0xa90039f02041a2
def Qabc:=dW 0x7210d90029f03209f0543801c310081150b900e9f1fe8041b2000811540123d583638017300970061117301222d4801816133120060011725700332f059f03624331010410142000fb0008116010440f11500400811500f0050118020b41211200f00311872102f002110a38121046f1f0321d0501402064121102f0090121 [Qij] [Kx,Qkz,Rc,Qk0]
theorem Qaat:mFn prog SO 1 30 Qabc Cq=true:=ZE
def Qm4:=dY 0x62e01131021702d1f40414f083
def Qaft:=dZ 0x72110137d013120110203506050104030201000807a20120170232f090121 .skip Qm4
abbrev OX:List RS:=[.cell 2 2 true]
theorem Qae1:mFn prog Ks 1 9 Qaft OX=true:=ZE
def Qk2:=dY 0xc8585e001
def Qabe:=dZ 0x7210790029f3801721003340690099f1f98041620003340590039f0704030405015812050158023800da0001135117004727532f059f05613530b310142000ab000335010440a1150040033400f005014220641211200f003111100f0090121 .skip Qk2
theorem Qaav:mFn prog Qou 1 24 Qabe Cq=true:=ZE
def Qtt:=dY 0x9583e001
def PQ:=dY 0x3f5a03c80f232
def PP:=dY 0x1a06f1f03213c03f03c50f03c10f5823c20f0003f7a02a80f1c7 PQ
def SG:=dY 0x100f33212a03f08f02a10f5812a20f02a10f5802a20f0008148 PP [gF 26 21 (.mn (kI 3) (.t 25))]
def s_im_codeOk_4:=dZ 0x874102f00411243
def Qtu:=dY 0x5a681e001
def Qtv:=dY 0xda885eba0072
def Kr:=dY 0x3f1ca2f0382a0f0f038d40f08d10f8838d20f08200f08280f457
def Kq:=dY 0x1013b8203f08210f8828220f0003f5ba2f056aa0f07380f3e7 Kr
def PO:=dY 0x10217343f07310f8837320f687310f06a00f395 Kq
def SU:=dY 0x1013b6a03f06a10f8826a20f00033443054f52f14f347 PO
def s_im_codeOk_11:=dZ 0x874102f004114b3
def ST:=dY 66364753
def SS:=dY 0x10123ea003f382823fa0e0f0a010f881a020f00505 ST
def Qp6:=dY 0x9d0099f05592
def Qp7:=dY 0xeb82e001
def Kw:=dY 66365281
def Kv:=dY 0x10123ce203f68141e2e0f0e210fb81e220f0003f5a013d440f98d400f0d450f0d410fb81d420f0003f5a0c680f68e Kw
def Qtn:=dZ 0x874102f00411763
def Qto:=dZ 0x5bf0027f100102c0775f05d9f1fdd047720
def SH:=dW 0x190976f005bf0027f100102d3021c643f0c610fb80c620f68c610f000f0247806171005bf0027f1100102d2170232f0b9f02613235f310342025eb0005bf0027f100102d010445e115024005bf0027f100102c00f0050188025a410027f0000102a101232d78058365631 [Qtn,Qto] [Qp6,Qp7,Kv]
def Qtp:=dZ 0x190955f0027f000102a10123cd5813de1f0188424c412 s_l2Form_8 SS SH
def Qtq:=dW 0x290027f010270785f0299f1f9a04782019094bf0027f000102a3013ad018822050188422e61d1c1b1a191817161514131211100f0e0d0c0b0a090807060201050403020100201ea220027f0001029217004727532f089f0562453102b410142002ab00027f01028010442a1150040027f0102700f005015822264120102415132f069f58139e1f2521 [s_im_codeOk_11,Qtp,FI] [Qtu,Qtv,SU]
def Qamy:=dW 0x190924f10242012c9f0f0321d01581211312102315700332f059f03601333810128020c6102202f019190231 [s_im_codeOk_4,Qtq] [Qtt,SG]
theorem Qal4:mFn prog Q0s 2 121 Qamy Cp=true:=ZE
def Ti:=dY 8912945
def Qtr:=dZ 0x731100f3321d1f0140131230045100202f00311 .skip Ti
theorem Qaaw:mFn prog EX 2 9 Qtr DY=true:=ZE
def Qabf:=dZ 0x731101f4321d1f014050132230046100202f00311 .skip Ri
theorem Qaax:mFn prog Qov 2 11 Qabf DY=true:=ZE
def Qk3:=dY 0x980049f08092
def Qabg:=dZ 0x7411012340d346313160541001302f0290321 .skip Qk3
theorem Qaay:mFn prog Qow 3 10 Qabg Cp=true:=ZE
def Th:=dY 0x780039f08072
def Qts:=dZ 0x731101142f4021043100202f00311 .skip Th
theorem Qaaz:mFn prog Qox 2 8 Qts DY=true:=ZE
def Qtw:=dZ 0x872101f00211063
def Qtx:=dZ 0x7210026f00211
def Qaji:=dZ 0x1909610a80069f0d6f6240a2080632320980069f0b6f524092180632320880069f0a6f424082180632320780069f026f3240721272100f002110430320580049f1f124052100431020031120100f00211 Qtw [] Qtx
theorem Qah4:mFn prog Qwo 1 11 Qaji Cq=true:=ZE
def PH:=dY 0xd8783e001
def Qx7:=dY 0xe8881e001
def S5:=dY 66363777
def Qx8:=dY 0x10123c2603f8816926e0f02610f5822620f0008126 S5
def s_im_insOk_4:=dZ 0x876102f00611183
def PG:=dY 0x3f3aa2f0346a0f7f035140f05110f5815120f04600f04680f277
def PF:=dY 0x1016a4603f04610f5804620f002f05a03980f216 PG
def S4:=dY 0x10213943f03910f5813920f883910f001c5 PF
def s_im_insOk_8:=dZ 0x876102f006112d3
def S3:=dY 0xab0069f2f03a3a2
def PN:=dY 0xec0069f2f02ca0728540f08510f008520f0238530f08510f5838520f08510f3808520f08550f08510f5828520f0042e
def SF:=dY 0xad0069f2f07a032a540f4a55555f5a55415f595
def Qx5:=dW 0x7613016ca503f0a510f580a520f0a550f0a510f582a520f000f0240158324fa0c0b0a0605090807060504030201000f0da28761200f2321d1f0141800158323d513f13f23b33bf11140cb03b9f0e6ffa243c217611016b6d03f06d10f5836d20f000f02405015822328130302ff111501b0309f1f12431210042ff111400158022e212 [] [S3,PN,SF]
def Qx6:=dZ 0x19092df11141016ad01580219312 s_im_insOk_8 S4 Qx5
def Qarq:=dW 0x190918f2111530168d0158020f3122111425132f089f6167e1f0e211111415700332f079f0360133180015020961111302f029059f290331 [s_im_insOk_4,Qx6] [PH,Qx7,Qx8]
theorem Qaqy:mFn prog Q5h 3 91 Qarq Cx=true:=ZE
theorem Qae2:mFn prog PT 2 9 Qtr DY=true:=ZE
theorem Qae3:mFn prog Qsx 2 8 Qts DY=true:=ZE
def PM:=dY 4718625
def Qamz:=dZ 0x7211ff6f0f0321d2003210102f00211 .skip PM
theorem Qal5:mFn prog Q0t 1 5 Qamz Cq=true:=ZE
def Qarr:=dZ 0x72110e6f1f0321d2003210102f00211 .skip PM
theorem Qaqz:mFn prog Q5i 1 5 Qarr Cq=true:=ZE
def Qdy:=dY 0x104322f013c122 EK
def Oy:=dZ 0x231504900a9f1fa8041420
def Ou:=dZ 0x7410590049f5801521
def Qp9:=dW 0x1909002315201142f78361805800e40000131615700332f079f03613330c310142000bb0002316010440b11500400231500f00570083123003034f00511002034f00411 [Oy,Ou] [PH,Qdy]
theorem Qpc:mFn prog Qef 2 22 Qp9 Cp=true:=ZE
def Qei:=dY 0xd8784e001
def Qej:=dY 0x104422f014c122 EK
def Qv2:=dW 0x1909002315201142f78461805800e400001316101700432f079f04613430c310142000bb0002316010440b11500400231500f00570083123003044f00511002044f00411 [Oy,Ou] [Qei,Qej]
theorem Qvo:mFn prog Tr 2 22 Qv2 Cp=true:=ZE
def Rg:=dY 0xd8782e001
def Qek:=dY 0x104222f012c122 EK
def Qv3:=dW 0x1909002315201142f78261805800e4000013161170232f079f02613230c310142000bb0002316010440b11500400231500f00570083123003024f00511002024f00411 [Oy,Ou] [Rg,Qek]
theorem Qvp:mFn prog Tq 2 22 Qv3 Cp=true:=ZE
def Qabh:=dZ 0x9872100f00211083810980089f036f52409217210026f002110632320780069f026f324072172101f002110430320580049f1f124052100431020031120100f00211 Q0e
theorem Qaa0:mFn prog Qoz 1 10 Qabh Cq=true:=ZE
def FA:=dY 3080273
def Ku:=dY 4128849
def Qqa:=dY 0x10481e0101371d1f0e2 Ku
def Qajj:=dW 0x704230122fd180017020a41870421051e0371d1f0921083310142010dd316062121013137132f049f190221 [] [FA,Rh,Qqa]
abbrev F2:List RS:=[.cell 4 1 true,.tmp 5]
theorem Qah5:mFn prog Sx 2 15 Qajj F2=true:=ZE
def XR:=dZ 0x72110168d2003210102f00211 .skip Pw
theorem Yk:mFn prog Oj 1 13 XR Cq=true:=ZE
def Qam4:=dZ 0x7210880029f03f2a036f020a40f50a00f00026f0242003710102f00211
theorem Qama:mFn prog Q0v 1 9 Qam4 Cq=true:=ZE
def Quq:=dY 0x99a85e001
def Qur:=dY 0xfa00c1
def Qabn:=dZ 0x7810bc0089f9804b210053409a00b9f1f014b8028301005350fb00d9f1f004d803e3010053503f01e00c13010113d80010220143b8001a81298040c0034202683d33df1005360074405010220143b8001a812d8035912502410053500f00d1180053402f01e0113c80980324031331f00053600f074c8030212000535101ddd0460143b8001a8122a610142006827327f0053500164380b802531250040053404a00b9f1f0140501a81221512 .skip Qur
def Qam8:=dW 0x98053303f01e021301a8329801d501c31cf053401f03401a8221a3120533217004727532f0a9f0560153280014822156140024105122f01011328001581201c0e7100024014f0089f39390431 [Qabn] [G8,Quq]
theorem Qame:mFn prog Q0y 4 76 Qam8 Dc=true:=ZE
def Q12:=dY 0x9900a1
def Q13:=dY 0x10128ed280182 Q12
def Q7t:=dZ 0x23012603f01e0113d800101132800158124a80
def Qajx:=dZ 0x78101d0089fc805121023012609b00d9f1f004d803830809023012609c00c9f03ffba07e80f07e10f0117e30fd87e00f07e10f0117e30f287e00f07e10f5817e20f00c803ed13d33df02301270010113d809803a410342026837337f023012700244014812d80344125024023012600f00d11223012502f00c110030002704a00b9f1f004b8023300030002703f01e05a13010113a80010120123b800100201533800148229802510f00142006822322f003000280074405010020153380014822b801a91250040030002700f00b112 Q7t
def Xi:=dW 0x90300026201289d38048361531300025105122f01011338001580201c0e710002402f0089f39390431 [Qajx] [G8,Q13]
theorem Yc:mFn prog NS 4 82 Xi Dc=true:=ZE
def Q14:=dY 0xc8382e001
def Q15:=dY 0x101e38021c2
def Q16:=dY 0x104122f011c41614f1a3 Q15
def Q17:=dY 0x101e3812242
def Q18:=dY 0x104122f011c41e14f223 Q17
def Sc:=dY 0x6c0069f03f1a688800f00444
def Qyk:=dY 0xac0091
def Qajy:=dZ 0x1000160101e1213980780013802786011010001807e00b9f1f004b8066301101000180775f0069f03f9ea0de31d2f0f0d210f011d230fb8d200f0d210f011d230f78d200f0d210f380d220f0d210f011d230fb8d200f98d200f006806811f11f11f0b420a6865365f11010001900244011812b806241250a411010001800f00b11201010001805d00a9f1f004a80543001010001802f01e06d13010020123a8001002015378001182298056d00942086853353f0101000190074405010020153780011822a804b912508401010001800f00a112
def Qajz:=dW 0x72100282e38267d2101000160ba0079f1f0147802a30091010001727f0124b7d7803826183647410010001706b0089f1f004880353000100017109b8b7b4dbd0101138800104201537800118227803826183637d11f11f0742066834334f0010001800744050104201537800118228802c91250640010001700f0081120542046829329f010001700f074780282125044010001607a0079f1f014480263110001502f00611034026825325f00015068025112502410001503f006112 [Qajy] [Sc,Qyk]
def Xh:=dW 0x90000150490059f1f0045801330000015318f0118120138121d5080706050104030201000a09a000015208f011812013802155080706050104030201000a09a201420068123c0000160014448058010312500400001500f005112000140f80049f050118220d41001311717232f039f017172d1f0c2101201717232f090121 [Qajz] [Q14,Q16,Q18] [eI 25 (.mks 1 [.bool false] (.t 24)),eI 33 (.mks 1 [.bool false] (.t 32))]
theorem Yb:mFn prog NR 1 126 Xh OX=true:=ZE
def Qr4:=dZ 0x741101266d4040053100202f00411 .skip GC
theorem Qpe:mFn prog Qeg 2 9 Qr4 Cp=true:=ZE
def Qza:=dW 0x2919097013006004142f0460143700801800b610130050a80059f100a2101420009b00500501044091150040500400f005500631200200f00411 [Kl,Pv,GD] []
theorem Qxb:mFn prog Qhn 2 19 Qza Cp=true:=ZE
def Qann:=dZ 0x987210780029f0141206310533120019bd01102033121100f0090121 Q0e
theorem Qamm:mFn prog Q05 1 8 Qann Cq=true:=ZE
end Y
attribute [go_sem_proc] reduceIte reduceEqDiff reduceAdd reduceLeDiff reduceLT reduceCtorEq
namespace Y
open Go.Proofs.Tryz
theorem Co:prog.follows .mixedOrders=true:=ZE
theorem Qa45 (l : Nat) (fl : Bool) (bs : List UInt8) (k : Nat) (n : Int) (H : Heap) (K : V -> Heap -> Prop)
   (hH : H l = .st [.sl fl 1 (Di bs), Ui k]) (bV : k <= 2^40)
   (hK : ∀ v : Int, (if n < 1 then v = 0 else 0 <= v /\ v < n) -> K (Uv v) (H.set l (.st [.sl fl 1 (Di bs), Ui ((k + 1 : Nat) : Int)]))) :
   Qu prog Sw [Up l, Uv n] H K := by
  refine Qd Co Qaia ?_;refine Qa ?_;simp only [go_sem, Nat.reduceEqDiff, Nat.reduceAdd];refine Qa ?_;simp only [go_sem, Nat.reduceEqDiff, Nat.reduceAdd, Nat.reduceLT, hH];refine ⟨Qv, λH2 vM => ?_⟩;have sH : H2 l = .st [C.sl fl 1 (Di bs), C.int IntKind.i64 (k + 1)] := by rw [vM]; exact Heap.aF _ _ _
  have AC : ∀ v : Int, (if n < 1 then v = 0 else 0 <= v /\ v < n) -> K (Uv v) H2 := by
    intro v hv; rw [vM]; exact hK v hv
  clear hK;refine Q1 (Qa ?_);simp only [go_sem, Fg, Nat.reduceEqDiff, Nat.reduceAdd, Nat.reduceLeDiff, sH];intro _;refine Wt ?_ ?_
  · intro hc;refine Qa ?_;simp only [go_sem, Nat.reduceEqDiff];refine Ql ?_;simp only [go_sem, Q5, Cn, Cp, Jm, forall_eq, RS.op];refine AC 0 ?_;split <;> omega
  · intro hc;refine Qj ?_;simp only [go_sem];have hn : 1 <= n /\ bs.length ≠ 0 := by
      simp only [cond_eq_ite] at hc;split at hc
      · simp at hc
      · simp at hc; simp_all
    refine Qa ?_;simp only [go_sem, Nat.reduceEqDiff, Nat.reduceAdd, sH];refine ⟨Qv, ?_⟩;refine Q1 (Qa ?_);simp only [go_sem, Fg, Nat.reduceEqDiff, Nat.reduceAdd, Nat.reduceLeDiff, sH];intro hl;refine Wt ?_ ?_
    · intro aC;have hk : k < bs.length := ZG;refine Qa ?_;simp only [go_sem, Fg, LX, Nat.reduceEqDiff, Nat.reduceAdd, Nat.reduceLeDiff, sH, hk, Q0o];refine ⟨ZA, ?_⟩;refine Ql ?_;simp only [go_sem, Q5, Cn, Cp, Jm, forall_eq, RS.op];refine AC _ ?_;rw [if_neg ZA];exact ⟨Jax _ ZA, Jar _ ZA⟩
    · intro aC;refine Qj ?_;simp only [go_sem];refine Cv ?_;have e1 : ((k : Int).tmod (bs.length : Int)) = ((k % bs.length : Nat) : Int) := rfl;have e2 : (((k : Int) * 7 + 3).tmod (bs.length : Int)) = (((k * 7 + 3) % bs.length : Nat) : Int) := rfl;have h1 : k % bs.length < bs.length := Nat.mod_lt _ ZA;have h2 : (k * 7 + 3) % bs.length < bs.length := Nat.mod_lt _ ZA;simp only [go_sem, Fg, LX, Nat.reduceEqDiff, Nat.reduceAdd, Nat.reduceLeDiff, sH, e1, e2, h1, h2, Q0o];have e3 : (k : Int).tdiv (bs.length : Int) = ((k / bs.length : Nat) : Int) := rfl;have h3 : k / bs.length <= k := Nat.div_le_self _ _;rw [e3];have h4 := (bs.getD (k % bs.length) 0).toNat_lt;have h5 := (bs.getD ((k * 7 + 3) % bs.length) 0).toNat_lt;generalize (bs.getD (k % bs.length) 0).toNat = b1 at *;generalize (bs.getD ((k * 7 + 3) % bs.length) 0).toNat = b2 at *;generalize k / bs.length = d at *;clear e1 e2 h1 h2 e3;refine ⟨ZA, Qv, Qv, Qv, by omega, Qv, Qv,
        Qv, Qv, ⟨ZA, Qv⟩, Qv, Qv, ?_⟩
      have hx : 0 <= (b1 : Int) * 131 + b2 * 1117 + k * 29 + d * 53 := ZA;have gP : (b1 : Int) * 131 + b2 * 1117 + k * 29 + d * 53 < 2 ^ 62 := ZA;generalize (b1 : Int) * 131 + b2 * 1117 + k * 29 + d * 53 = x at *;refine Qa ?_;simp only [go_sem, Nat.reduceEqDiff];have hq : 0 <= x.tdiv 64 := Int.tdiv_nonneg hx ZA;have Bh : x.tdiv 64 <= x := (by have := Int.tdiv_le_self (a := x) 64 hx; exact this);refine ⟨⟨ZA, Qv⟩, ?_⟩;have hy := Qa55 hx hq gP ZA;generalize EJ .xor .i64 x (x.tdiv 64) = y at *;refine Qa ?_;simp only [go_sem, Nat.reduceEqDiff];refine ⟨ZA, ?_⟩;refine Ql ?_;simp only [go_sem, Q5, Cn, Cp, Jm, forall_eq, RS.op];refine AC _ ?_;rw [if_neg ZA];exact ⟨Jax _ ZA, Jar _ ZA⟩
theorem CE{k:Nat}{n:Int}(hH:H R.l=R.o k)(hk:k<=2^40)
  (hK:∀(v:Int) (H':Heap),(if n<1 then v=0 else 0<=v/\v<n)->Upd H H' [(R.l,R.o (k+1))]->K (Uv v) H') :
  Qu prog Sw [.c (.ptr R.l 0),Uv n] H K:=
 Qa45 R.l R.fl R.bs k n H K hH hk λv hv=>hK v _ hv ⟨by simp[Heap.aF,Rdr.o],λm _ hm=>Heap.aj _ _ ZaX⟩
theorem Dy{k:Nat}{ns:List Int}(hH:H R.l=R.o k)(hk:k<=2^40)(dT:0<ns.length)
  (hK:∀(v:Int) (H':Heap),v∈ns->Upd H H' [(R.l,R.o (k+1))]->K (Uv v) H') :
  Qu prog Q00 [.c (.ptr R.l 0),.c (.sl fl 1 (Qb ns))] H K:=by
 refine Qd Co Qamg ?_;refine Wk ?_;simp only[go_sem,Qc];intro hl;refine CE hH hk λv H' hv hu=>?_;rw[if_neg ZA]at hv;obtain⟨i,rfl⟩:=Jy hv.1;have hi:i<ns.length:=ZA
 simp only[go_sem,SD,Qc,Qk,hi];refine Ql ?_;simp only[go_sem,Q5,Cn,Jm,forall_eq,RS.op];refine hK _ H' ?_ hu;rw[Je,Jq hi];exact J7 hi
theorem of_c{k:Nat}(hH:H R.l=R.o k)(hk:k<=2^40)(dT:0<ss.length)
  (hK:∀(v:List UInt8) (H':Heap),v∈ss->Upd H H' [(R.l,R.o (k+1))]->K (.c (.str v)) H') :
  Qu prog Q5o [.c (.ptr R.l 0),.c (.sl fl 1 (CO ss))] H K:=by
 refine Qd Co Qaq5 ?_;refine Wk ?_;simp only[go_sem,D1];intro hl;refine CE hH hk λv H' hv hu=>?_;rw[if_neg ZA]at hv;obtain⟨i,rfl⟩:=Jy hv.1;have hi:i<ss.length:=ZA
 simp only[go_sem,SD,D1,Kj,hi];refine Ql ?_;simp only[go_sem,Q5,Cn,Jm,forall_eq,RS.op];refine hK _ H' ?_ hu;rw[Je,Jq hi];exact J7 hi
theorem TE{k:Nat}(hH:H R.l=R.o k)(hk:k+2<=2^40)
  (hK:∀(x:Ex) (H':Heap) (k':Nat),k<k'->k'<=k+2->Upd H H' [(R.l,R.o k')]->x.ok->x.size=1->K (.ag x.cells) H') :
  Qu prog Nc [.c (.ptr R.l 0),.c (.sl fl 1 (CO ss))] H K:=by
 refine Q0 ?_;refine Qd Co Tv ?_;refine Za ?_;intro x hx H1 h1;have kn:=(Kn.start1 hH (R.ao k)).al hx h1;refine Q1 (Qa ?_);simp only[go_sem,D1];intro hl;have rest:∀(b:Bool) (H2:Heap) (k2:Nat),k<=k2->k2<=k+1->Kn H H2 [(R.l,R.o k2)] [(x,.st [Ui 0,Ui 0,.str [],.sl true 4 []])]->(b=false->0<ss.length)->
   Cr prog (s_l2Leaf_2.seq Nw) (Q5 G4 (unK H K)) [(0,V.c (C.ptr R.l 0)),(1,V.c (C.sl fl 1 (CO ss))),(4,V.c (C.ptr x 0)),(12,V.c (.bool b))] H2:=by
  intro b H2 k2 iY fQ kn hb;refine Wt ?_ ?_
  ·intro aW;refine Za ?_;refine Dy (ns:=[0,1,2,3,5,7,15,16,100,255]) (kn.e 0 rfl) ZA ZC λv H3 hv hu=>?_;have kn:=kn.aw 0 rfl hu (R.ao _);have aO:=kn.l 0 rfl;simp only[go_sem,Q8j,aO];intro H4 h4;have kn:=kn.az 0 rfl h4;have bh:=kn.l 0 rfl;refine Ql ?_;simp only[go_sem,Q5,Cn,Jm,forall_eq,RS.op,bh];refine⟨_,(Ex.mk 1 v [] []).frz,hK _ _ (k2+1) ZA ZA kn.fin ?_ ?_⟩
   ·simp[Ex.ok,CT]
   ·simp[Ex.size,C8]
  ·intro aW;refine Ze ?_;refine Za ?_;refine of_c (kn.e 0 rfl) ZA (hb aW) λv H3 hv hu=>?_;have kn:=kn.aw 0 rfl hu (R.ao _);have aO:=kn.l 0 rfl;simp only[go_sem,Q8k,aO];intro H4 h4;have kn:=kn.az 0 rfl h4;have bh:=kn.l 0 rfl;refine Ql ?_;simp only[go_sem,Q5,Cn,Jm,forall_eq,RS.op,bh];refine⟨_,(Ex.mk 2 0 v []).frz,hK _ _ (k2+1) ZA ZA kn.fin ?_ ?_⟩
   ·simp[Ex.ok,CT]
   ·simp[Ex.size,C8]
 refine⟨λhb=>?_,λhb=>?_⟩
 ·refine CE (kn.e 0 rfl) ZA λv H2 hv hu=>?_;have kn:=kn.aw 0 rfl hu (R.ao _);simp only[go_sem,RK];refine rest _ H2 (k+1) ZA ZA kn ?_;intro h;have:¬ss.length=0:=Zac
  omega
 ·have cC:decide ((ss.length:Int)=0)=true:=Zac
  simp only[go_sem,RK,cC];exact rest true H1 k ZA ZA kn (λh=>ZH)
end Y
end Go.AE
