/- Part 2 of the proof: the engine, codes, walks and plain laws, each named where it stands. -/
import Derived.Test.YtchjcdooknkfpaaGreatZA
import Derived.Test.YtchjcdooknkfpaaGreatProg
open Nat (reduceEqDiff reduceAdd reduceLeDiff reduceLT)
set_option linter.unusedVariables false
set_option linter.unusedSimpArgs false
set_option maxRecDepth 4000
open Array renaming getD_eq_getD_getElem?->Jg,getElem?_eq_some_iff->Jk,getElem?_eq_getElem->Js,getElem?_setIfInBounds_self_of_lt->J1
open Bool renaming and_eq_true->Jl,not_eq_true'->Jap
open Int renaming eq_ofNat_of_zero_le->Jae
open List renaming mem_of_getElem?->Ja,mem_append->Jb,mem_append_left->Jc,mem_append_right->Jd,getD_eq_getElem?_getD->Je,mem_map->Jh,mem_cons->Ji,nodup_append->Jj,append_assoc->Jm,map_append->Jn,mem_or_eq_of_mem_set->Jo,perm_append_comm->Jp,map_cons->Jq,nil_append->Jr,mem_cons_of_mem->Jt,mem_cons_self->Ju,getElem?_eq_some_iff->Jv,getElem?_eq_getElem->Jw,length_eq_zero_iff->Jx,cons_append->Jy,take_of_length_le->Jz,append_of_mem->J0,length_map->J2,all_cons->J3,mem_singleton->J4,getElem?_set->J5,all_nil->J6,map_nil->J7,map_set->J8,getElem_set->J9,not_mem_nil->Jaa,map_eq_nil_iff->Jab,drop_zero->Jac,pairwise_iff_getElem->Jad,ext_getElem->Jag,getElem_mem->Jah,length_eq_one_iff->Jai,append_nil->Jaj,length_nil->Jak,length_singleton->Jal,flatMap_append->Jam,getElem?_drop->Jan,set_cons_zero->Jao,all_eq_true->Jas,countP_cons->Jat,count_cons->Jau
open Nat renaming zero_add->Jar,le_refl->Jav,zero_le->Jaw
open Ne renaming symm->Jaq
open Option.some renaming injEq->Jf,inj->Jax
open Prod.mk renaming injEq->Jaf
namespace Go.AE
variable {P:Program}{H:Heap}{g:G}{w:World}{e:Env}{a:Act}
abbrev dn (listed:Array Bool)(i:Nat):Prop:=listed.getD i false=true
def Rdy (P:Program)(x:Item)(e:Env)(H:Heap)(v:V):Prop:=
 match x with
 |.f _ gd op=>gdO e gd/\(gdB e gd=true->op.obl (gdB e gd) e H)/\v=gdV gd (gdB e gd) (op.val e H)
 |.p _ gd f xs=>gdO e gd/\∃r,(gdB e gd=true->(∀y∈xs,y.fine (gdB e gd) e)/\DV P f (xs.map λy=>y.v e) r)/\v=gdV gd (gdB e gd) r
 |_=>False
theorem Rdy.congr {x:Item}{e e':Env}{v:V}(h:∀t∈x.looks,lk t e'=lk t e)(hr:Rdy P x e H v):Rdy P x e' H v:=by
 have h1:=Kj h;have h2:=IV h
 cases x with
 |f d gd op=>
  simp only[Item.gd]at h2;simp only[Item.opds]at h1;have h3:=FOp.congr (H:=H) (p:=gdB e gd) h1;simp only[Rdy]at hr⊢;rw[h2.1,h2.2,h3.1,h3.2];exact hr
 |p d gd f xs=>
  simp only[Item.gd]at h2;simp only[Item.opds]at h1;simp only[Rdy]at hr⊢;rw[h2.1,h2.2,Q0w h1,PE h1];exact hr
 |e=>exact hr
 |chk=>exact hr
theorem Rdy.hcongr {x:Item}{e:Env}{H':Heap}{v:V}(h:x.hf=true)(hr:Rdy P x e H v):Rdy P x e H' v:=by
 cases x with
 |f d gd op=>
  have h3:=FOp.hcongr (e:=e) (H:=H) (H':=H') (p:=gdB e gd) (op:=op) h;simp only[Rdy]at hr⊢;rw[h3.1,h3.2];exact hr
 |p d gd f xs=>exact hr
 |e=>exact hr
 |chk=>exact hr
theorem V0 {n:Nat}{ops:Array Oper}{i:Nat}{o:Oper}{x:Item}{v:V}{Q:Exit->Act->World->Prop}{next:Act->World->Prop}(rK:ops[i]? = some o)(hm:Bz P n ops o x=true)
  (hr:Rdy P x e H v) (hs:Sat H g w) (he:EnvOk w g (trim x.looks e) a)
  (bV:∀u w' g',Stp H g w H g' w'->RepV w' g' v u->next (a.put x.dst u) w') :
  wpOp P ops Q i next a w:=by
 have bd:Rdy P x (trim x.looks e) H v:=hr.congr λt ht=>by rw[El,if_pos ht]
 unfold wpOp;rw[rK];simp only
 cases x with
 |f d gd op=>
  simp only[Bz,Jl]at hm;obtain⟨⟨h1,h2⟩,h3⟩:=hm;obtain⟨cU,eT⟩:=DF h1;simp only[Rdy]at bd;obtain⟨r1,r2,r3⟩:=bd;rw[Gx (n:=n) h2 he r1];by_cases hg:gdB (trim (Item.f d gd op).looks e) gd=true
  ·rw[if_pos hg];obtain⟨u,w',g',k1,k2,k3,k4⟩:=KB h3 hs he hg (r2 hg);left;unfold Oper.wp;rw[k1,Oper.upon_value,cU];refine bV u w' g' k2 ?_;rw[r3]
   cases gd with
   |none=>exact k3
   |some tb=>exact .gd _ _ _ (λ_=>k3) (λh=>by rw[hg]at h;simp at h)
  ·rw[if_neg hg];have mo:gdB (trim (Item.f d gd op).looks e) gd=false:=Zak
   rw[cU];refine bV _ _ g (.refl hs) ?_;rw[r3]
   cases gd with
   |none=>simp[gdB]at mo
   |some tb=>exact .gd _ _ _ (λh=>absurd h hg) (λ_=>rfl)
 |p d gd f xs=>
  simp only[Bz,Jl]at hm;obtain⟨⟨h1,h2⟩,h3⟩:=hm;obtain⟨cU,eT⟩:=DF h1;simp only[Rdy]at bd;obtain⟨r1,v0,r2,r3⟩:=bd;rw[Gx (n:=n) h2 he r1];by_cases hg:gdB (trim (Item.p d gd f xs).looks e) gd=true
  ·rw[if_pos hg];obtain⟨s1,s2⟩:=r2 hg;left;refine IQ h3 hs he hg s1 s2 Q next (λy u w' H' g' hk aQ dl=>?_) λv w' H' g' hk _=>absurd hk.1.symm (s2.1 v);obtain⟨rfl,rfl⟩:=hk;rw[cU];refine bV _ _ g' aQ ?_;rw[r3]
   cases gd with
   |none=>exact dl
   |some tb=>exact .gd _ _ _ (λ_=>dl) (λh=>by rw[hg]at h;simp at h)
  ·rw[if_neg hg];have mo:gdB (trim (Item.p d gd f xs).looks e) gd=false:=Zak
   rw[cU];refine bV _ _ g (.refl hs) ?_;rw[r3]
   cases gd with
   |none=>simp[gdB]at mo
   |some tb=>exact .gd _ _ _ (λh=>absurd h hg) (λ_=>rfl)
 |e=>exact bd.elim
 |chk=>exact bd.elim
theorem VT {n:Nat}{ops:Array Oper}{i:Nat}{o:Oper}{d:Option Nat}{gd:Option (Nat×Bool)}{op:EOp}{K:V->Heap->Prop}{Q:Exit->Act->World->Prop}{next:Act->World->Prop}(rK:ops[i]? = some o)
  (hm:Bz P n ops o (.e d gd op)=true) (hs:Sat H g w) (he:EnvOk w g (trim (Item.e d gd op).looks e) a)
  (h1:gdO e gd) (h2:gdB e gd=true->op.eff P (gdB e gd) e H K) (h3:gdB e gd=false->K .unk H)
  (bV:∀x u w' H' g',K x H'->Stp H g w H' g' w'->RepV w' g' x u->next (a.put d u) w') (j7:∀v w' H' g',K (.pn v) H'->Stp H g w H' g' w'->Q (.panic [{ v:=v,recovered:=false }]) a w') :
  wpOp P ops Q i next a w:=by
 have fV:∀t∈(Item.e d gd op).looks,lk t (trim (Item.e d gd op).looks e)=lk t e:=λt ht=>by rw[El,if_pos ht]
 have c1:=Kj fV;have c2:=IV fV;simp only[Item.gd]at c2;simp only[Item.opds]at c1;unfold wpOp;rw[rK];simp only;simp only[Bz,Jl]at hm;obtain⟨⟨m1,m2⟩,m3⟩:=hm;obtain⟨cU,eT⟩:=DF m1;rw[Gx (n:=n) m2 he (c2.2.2 h1),c2.1];by_cases hg:gdB e gd=true
 ·rw[if_pos hg];left;refine Q93 m3 hs he hg (EOp.congr c1 (h2 hg)) Q next (λx u w' H' g' hk aQ dl=>?_) j7;rw[cU];exact bV x u w' H' g' hk aQ dl
 ·rw[if_neg hg];rw[cU];exact bV .unk undef w H g (h3 Zak) (.refl hs) (.unk _)
structure Early (g0:G)(H:Heap)(g:G)(w:World)(a:Act)(x:Item):Prop where
 ok:∃(d:Nat) (cells:List C) (l b sz:Nat) (T:TypeId) (cs:Array Value),x=.e (some d) none (.alloc cells)/\g.io l=some (b,sz,0)/\g.own b=some (l,[])/\w.heap[b]? = some (.cells cs T (0,0))/\
  cs.size=cells.length/\(∀(k:Nat) (c:C) (v:Value),cells[k]? = some c->cs[k]? = some v->RepC w g c v)/\H l=.none/\g0.io l=none/\RepV w g (.c (.ptr l 0)) (a.tmps.getD d undef)
theorem Early.mono {g0:G}{x:Item}{H':Heap}{g':G}{w':World}{a':Act}(h:Early g0 H g w a x)(hs:Stp H g w H' g' w')(ha:∀d,x.dst=some d->a'.tmps.getD d undef=a.tmps.getD d undef):Early g0 H' g' w' a' x:=by
 obtain⟨d,cells,l,b,sz,T,cs,h1,h2,h3,h4,h5,h6,h7,h8,h9⟩:=h.ok;obtain⟨k1,k2⟩:=hs.fr l Zai h7;obtain⟨k3,k4⟩:=k2 b [] h3;refine⟨d,cells,l,b,sz,T,cs,h1,hs.le.io _ _ h2,k3,k4.trans h4,h5,λk c v p q=>(h6 k c v p q).mono hs.le,k1,h8,?_⟩;rw[ha d Zbn];exact h9.mono hs.le
theorem Early.ptr {g0:G}{x:Item}(h:Early g0 H g w a x):∃d l b sz,x.dst=some d/\g.io l=some (b,sz,0)/\b<w.heap.size/\H l=.none/\a.tmps.getD d undef=.pointer (some ⟨b,0,none⟩):=by
 obtain⟨d,cells,l,b,sz,T,cs,h1,h2,h3,h4,h5,h6,h7,h8,h9⟩:=h.ok;refine⟨d,l,b,sz,by rw[h1];rfl,h2,(Jk.1 h4).1,h7,?_⟩;have hr:=h9.aL;generalize a.tmps.getD d undef=vv at hr⊢
 cases hr with
 |ptr _ _ b' sz' q h=>
  rw[h2]at h;simp only[Jf,Jaf]at h;obtain⟨rfl,rfl,rfl⟩:=h;rfl
theorem Early.other {g0:G}{x:Item}(h:Early g0 H g w a x){l:Nat}{o:Obj}{u:Value}(hr:RepV w g (.c (.ptr l 0)) u)(bf:∀d,x.dst=some d->u≠a.tmps.getD d undef):Early g0 (H.set l o) g w a x:=by
 obtain⟨d,cells,l',b,sz,T,cs,h1,h2,h3,h4,h5,h6,h7,h8,h9⟩:=h.ok;have kz:l'≠l:=λe=>by
  subst e;have k:=h9.aL;have k2:=hr.aL;have hq:=bf d Zbn;generalize a.tmps.getD d undef=vv at k hq
  cases k with
  |ptr _ _ b1 s1 q1 e1=>
   cases k2 with
   |ptr _ _ b2 s2 q2 e2=>
    rw[e1]at e2;simp only[Jf,Jaf]at e2;obtain⟨rfl,rfl,rfl⟩:=e2;exact hq rfl
 exact⟨d,cells,l',b,sz,T,cs,h1,h2,h3,h4,h5,h6,by rw[Heap.aj _ _ kz];exact h7,h8,h9⟩
theorem Qbe5 {n:Nat}{ops:Array Oper}{i:Nat}{o:Oper}{x:Item}{g0:G}{Q:Exit->Act->World->Prop}{next:Act->World->Prop}(rK:ops[i]? = some o)(hm:Bz P n ops o x=true)(hf:x.isFa=true)
  (hs:Sat H g w) (h0:∀l y,g0.io l=some y->g.io l=some y) (hn:a.tmps.size=n)
  (bV:∀u w' g',Stp H g w H g' w'->Early g0 H g' w' (a.put x.dst u) x->(∀x',Early g0 H g w a x'->∀d,x'.dst=some d->a.tmps.getD d undef≠u)->next (a.put x.dst u) w') :
  wpOp P ops Q i next a w:=by
 cases x with
 |e d gd op=>
  cases op with
  |alloc cells=>
   cases d with
   |none=>simp[Item.isFa]at hf
   |some d=>
    cases gd with
    |some=>simp[Item.isFa]at hf
    |none=>
     simp only[Bz,Jl]at hm;obtain⟨⟨m1,m2⟩,m3⟩:=hm;obtain⟨cU,eT⟩:=DF m1;have zQ:=eT d cU;simp only[mE]at m3;split at m3
     ·rename_i t bG
      obtain⟨i1,z,z1,z2,z3⟩:=He m3;obtain⟨l,hl,hH⟩:=hs.newName;have hr:=Gv (w:=w) (g:=g) z3;have aR:=EQ hs hl cells.length 0 (.cells z.cells t);have aQ:=DP hs hl cells.length 0 (.cells z.cells t) .none (λg' hg=>trivial);rw[Heap.set_self _ _ _ hH]at aQ;have hg0:g0.io l=none:=by
       cases hx:g0.io l with
       |none=>rfl
       |some y=>rw[h0 l y hx]at hl;simp at hl
      have hw:Region.wanted o (yielded ops a.tmps)=true:=by
       unfold Region.wanted
       cases b6:o.guard with
       |none=>rfl
       |some jb=>rw[b6]at m2;simp[mG]at m2
      unfold wpOp;rw[rK];simp only;rw[if_pos hw];left;unfold Oper.wp;have cG:(execOp a.eval o).run P w=.ok (.value (.pointer (some ⟨w.heap.size,0,none⟩))) (w.alloc (.cells z.cells t)):=by
       simp[execOp,bG,Instr.alloc,C2 z1 z2,newVar,newRow]
      rw[cG,Oper.upon_value,cU];refine bV _ _ _ aQ ⟨d,cells,l,w.heap.size,cells.length,t,z.cells,rfl,ZK,ZK,CF _ _,hr.1,λk c v p q=>(hr.2 k c v p q).mono aR,hH,hg0,?_⟩ (λx' gg d' cR hh=>?_)
      ·have:(a.put (Item.e (some d) none (.alloc cells)).dst (.pointer (some ⟨w.heap.size,0,none⟩))).tmps.getD d undef=.pointer (some ⟨w.heap.size,0,none⟩):=by
        simp only[Item.dst,Act.put];rw[Jg,J1 ZA];rfl
       rw[this];exact .c _ _ (.ptr l 0 w.heap.size cells.length 0 ZK)
      ·obtain⟨d1,l1,b1,sz1,p1,p2,p3,p4,p5⟩:=gg.ptr;rw[p1]at cR;obtain rfl:=Jax cR;rw[p5]at hh;have:=congrArg (λv=>match v with
        |Value.pointer (some a)=>a.block
        |_=>0) hh
       simp only at this;omega
     ·simp at m3
  |_=>cases d <;> (try cases gd) <;> simp[Item.isFa]at hf
 |_=>simp[Item.isFa]at hf
theorem Qbjd {H0:Heap}{g0:G}{w0:World}{x:Item}(aQ:Stp H0 g0 w0 H g w)(h:Early g0 H g w a x) :
  ∃d cells l,x=.e (some d) none (.alloc cells)/\H l=.none/\Stp H0 g0 w0 (H.set l (.st cells)) g w/\RepV w g (.c (.ptr l 0)) (a.tmps.getD d undef):=by
 obtain⟨d,cells,l,b,sz,T,cs,h1,h2,h3,h4,h5,h6,h7,h8,h9⟩:=h.ok;refine⟨d,cells,l,h1,h7,⟨aQ.le,λm hm hn=>?_,⟨aQ.sat.fresh,aQ.sat.names,aQ.sat.excl,aQ.sat.named,λm=>?_⟩⟩,h9⟩
 ·have dy:m≠l:=λh=>by subst h;exact hm h8
  rw[Heap.aj _ _ dy];exact aQ.fr m hm hn
 ·by_cases dy:m=l
  ·subst dy;rw[Heap.aE];exact⟨b,sz,T,cs,h2,h3,h4,h5,λk c v p q=>.plain _ _ _ _ (h6 k c v p q)⟩
  ·have dG:=Heap.aj H (.st cells) dy;rw[dG,<-dG];refine SatObj.keep aQ.sat (.refl _ _) (λb q hb=>⟨hb,rfl⟩) dG λm' v left cur hc v' es hv=>?_;by_cases eP:m'=l
   ·subst eP;rw[Heap.aE]at hv;simp at hv
   ·rw[Heap.aj _ _ eP]at hv;exact .inl ⟨hv,λb q hb=>⟨hb,rfl⟩⟩
structure Fix where
 P:Program
 n:Nat
 ops:Array Oper
 ms:List Nat
 fa:Nat
 L:List Row
 H0:Heap
 g0:G
 w0:World
 KP:Value->Heap->Prop
 K:Env->Heap->Prop
def Fix.anc (F:Fix)(i j:Nat):Prop:=(F.ms.getD i 0).testBit j=true
def Co (F:Fix)(listed:Array Bool)(pre:List Row)(y:Row)(t:Nat)(z:Row):Prop:=
 z∈pre/\z.2.aP=false/\¬dn listed z.1/\z.2.dst=some t/\F.anc y.1 z.1
def Pend (F:Fix)(listed:Array Bool)(a:Act)(w:World)(pre:List Row)(e:Env)(H:Heap)(g:G)(y:Row):Prop:=
 ∃(o:Oper) (x:Item) (ei:Env) (v:V),F.ops[y.1]? = some o/\Bz F.P F.n F.ops o x=true/\x.dst=y.2.dst/\x.looks=y.2.looks/\(y.2.hf=true->x.hf=true)/\
  Rdy F.P x ei H v/\(∀d,y.2.dst=some d->lk d e=v)/\
  ∀t∈y.2.looks,(∀z,Co F listed pre y t z->lk t ei=lk t e)/\((¬∃z,Co F listed pre y t z)->RepV w g (lk t ei) (a.tmps.getD t undef))
structure DInv (F:Fix)(listed:Array Bool)(a:Act)(w:World)(pre post:List Row)(e:Env)(H:Heap)(g:G):Prop where
 split:F.L=pre++post
 rest:BP F.P (post.map Prod.snd) e H F.KP F.K
 stp:Stp F.H0 F.g0 F.w0 H g w
 size:a.tmps.size=F.n
 defers:a.defers=[]
 lsz:listed.size=F.ops.size
 closed:∀i,dn listed i->∀j,F.anc i j->dn listed j
 eDone:∀y∈pre,y.2.isE=true->dn listed y.1
 postDone:∀y∈post,y.2.aP=false->dn listed y.1->flo F.fa y.1=true/\Early F.g0 H g w a y.2
 pend:∀y∈pre,y.2.isFl=true->¬dn listed y.1->BI y.1 post=true\/Pend F listed a w pre e H g y
 temps:∀t,(∃y∈pre,y.2.aP=false/\¬dn listed y.1/\y.2.dst=some t)\/(∃y∈post,y.2.aP=false/\flo F.fa y.1=true/\dn listed y.1/\y.2.dst=some t)\/RepV w g (lk t e) (a.tmps.getD t undef)
 ne:∀y∈post,∀z∈post,y.2.aP=false->z.2.aP=false->dn listed y.1->dn listed z.1->y.1≠z.1->∀d d',y.2.dst=some d->z.2.dst=some d'->a.tmps.getD d undef≠a.tmps.getD d' undef
structure FixOk (F:Fix):Prop where
 rows:Ds F.P F.n F.ops F.ms F.fa [] F.L=true
 all:∀i,i<F.ops.size->∃y∈F.L,y.2.aP=false/\y.1=i
theorem FixOk.row {F:Fix}(hF:FixOk F){A B:List Row}{y:Row}(h:F.L=A++y::B)(hc:y.2.aP=false):∃o,RowOk F.P F.n F.ops F.ms F.fa A y B o:=by
 have:=P5 _ _ hF.rows A y B h;exact Qbge this hc
def Gk (F:Fix)(x y:Row):Prop:=∃A B,F.L=A++y::B/\x∈A
theorem FixOk.pair {F:Fix}(hF:FixOk F){x y:Row}(h:Gk F x y)(hx:x.2.aP=false)(hy:y.2.aP=false):PairOk F.ms F.fa x y:=by
 obtain⟨A,B,h1,h2⟩:=h;obtain⟨o,ho⟩:=hF.row h1 hy;exact ho.pair x h2 hx
theorem Cu {F:Fix}{pre post:List Row}(h:F.L=pre++post){x y:Row}(hx:x∈pre)(hy:y∈post):Gk F x y:=by
 obtain⟨s,t,rfl⟩:=J0 hy;exact⟨pre++s,t,by rw[h];simp,Za1⟩
theorem EF {F:Fix}{pre post:List Row}{y x:Row}(h:F.L=pre++y::post)(hx:x∈post):Gk F y x:=
 Cu (pre:=pre++[y]) ZI ZC hx
theorem Q0x {F:Fix}{x y:Row}(hx:x∈F.L)(hy:y∈F.L):x=y\/Gk F x y\/Gk F y x:=by
 obtain⟨s,t,h⟩:=J0 hx;have:y∈s++x::t:=h▸hy;rcases Jb.1 this with k|k
 ·exact .inr (.inr ⟨s,t,h,k⟩)
 ·rcases Ji.1 k with k|k
  ·exact .inl k.symm
  ·exact .inr (.inl (EF h k))
theorem FixOk.inj {F:Fix}(hF:FixOk F){x y:Row}(hx:x∈F.L)(hy:y∈F.L)(pH:x.2.aP=false)(bQ:y.2.aP=false)(h:x.1=y.1):x=y:=by
 rcases Q0x hx hy with k|k|k
 ·exact k
 ·exact absurd h (hF.pair k pH bQ).ne
 ·exact absurd h.symm (hF.pair k bQ pH).ne
theorem FixOk.injDst {F:Fix}(hF:FixOk F){x y:Row}(hx:x∈F.L)(hy:y∈F.L)(pH:x.2.aP=false)(bQ:y.2.aP=false){t:Nat}(h1:x.2.dst=some t)(h2:y.2.dst=some t):x=y:=by
 rcases Q0x hx hy with k|k|k
 ·exact k
 ·exact absurd h2 ((hF.pair k pH bQ).dst t h1)
 ·exact absurd h1 ((hF.pair k bQ pH).dst t h2)
theorem EB {x:Item}(h:x.isFl=true):x.aP=false/\x.isE=false:=by
 cases x <;> simp_all[Item.isFl,Item.aP,Item.isE]
theorem Dv {x:Item}(h:x.isE=true):x.aP=false/\x.isFl=false:=by
 cases x <;> simp_all[Item.isFl,Item.aP,Item.isE]
theorem Hg {j:Nat}{y:Row}{r:List Row}(h:BI j (y::r)=true):y.2.aP=true/\(y.1=j\/BI j r=true):=by
 simpa[BI]using h
theorem DInv.passFl {F:Fix}(hF:FixOk F){listed:Array Bool}{pre r:List Row}{y:Row}(hI:DInv F listed a w pre (y::r) e H g)(hy:y.2.isFl=true)(v:V)(hr:Rdy F.P y.2 e H v)
  (bU:BP F.P (r.map Prod.snd) (Bt y.2.dst v e) H F.KP F.K) (cM:¬dn listed y.1):DInv F listed a w (pre++[y]) r (Bt y.2.dst v e) H g:=by
 obtain⟨bQ,yY⟩:=EB hy;obtain⟨o,ho⟩:=hF.row hI.split bQ;have hL:y∈F.L:=Za3
 have ig:∀z∈pre,z∈F.L:=λz hz=>Zaa
 have fk:∀z∈r,z∈F.L:=λz hz=>Zaa
 have fV:∀t,y.2.dst≠some t->lk t (Bt y.2.dst v e)=lk t e:=by
  intro t ht
  cases hd:y.2.dst with
  |none=>rfl
  |some d=>
   simp only[Bt,lk];rw[if_neg];intro h;subst h;exact ht hd
 have xk:∀t,y.2.dst=some t->lk t (Bt y.2.dst v e)=v:=by
  intro t ht;rw[ht];simp[Bt,lk]
 refine⟨by rw[hI.split];simp,bU,hI.stp,hI.size,hI.defers,hI.lsz,hI.closed,?_,?_,?_,?_,λy' dU z' cV=>hI.ne y' (by simp[dU]) z' (by simp[cV])⟩
 ·intro z hz jM;rcases Jb.1 hz with k|k
  ·exact hI.eDone z k jM
  ·simp at k;subst k;rw[yY]at jM;simp at jM
 ·exact λz hz=>hI.postDone z Za2
 ·intro z hz eM gV;obtain⟨cz,sb⟩:=EB eM;right;rcases Jb.1 hz with k|k
  ·rcases hI.pend z k eM gV with h|h
   ·have:=(Hg h).1;rw[bQ]at this;simp at this
   ·obtain⟨o',x,ei,u,p1,p2,p3,p4,p5,p6,p7,p8⟩:=h;refine⟨o',x,ei,u,p1,p2,p3,p4,p5,p6,?_,?_⟩
    ·intro d hd;rw[fV d λh=>(hF.pair (Cu hI.split k ZC) cz bQ).dst d hd h];exact p7 d hd
    ·intro t ht;obtain⟨q1,q2⟩:=p8 t ht;have hb:∀z',Co F listed (pre++[y]) z t z'->Co F listed pre z t z':=by
      rintro z' ⟨b1,b2,b3,b4,b5⟩;refine⟨?_,b2,b3,b4,b5⟩;rcases Jb.1 b1 with b|b
      ·exact b
      ·simp at b;subst b;have:=(hF.pair (Cu hI.split k ZC) cz bQ).top;rw[Fix.anc,this]at b5;simp at b5
     refine⟨?_,?_⟩
     ·intro z' cV;have hz'':=hb z' cV;rw[q1 z' hz'',fV];intro h;exact (hF.pair (Cu hI.split hz''.1 ZC) hz''.2.1 bQ).dst t hz''.2.2.2.1 h
     ·intro bx;refine q2 λ⟨z',b1,b2⟩=>bx ⟨z',?_,b2⟩;simp[b1]
  ·simp at k;subst k;refine⟨o,z.2,e,v,ho.op,ho.item,rfl,rfl,id,hr,xk,?_⟩;intro t ht;have oF:z.2.dst≠some t:=λh=>ho.self t h ht;refine⟨?_,?_⟩
   ·intro z' cV;rw[fV t oF]
   ·intro bx;rcases hI.temps t with ⟨y',k1,k2,k3,k4⟩|⟨y',k1,k2,k3,k4,k5⟩|k
    ·exact absurd ⟨y',ZaE,k2,k3,k4,(hF.pair (Cu hI.split k1 ZC) k2 cz).raw t k4 ht⟩ bx
    ·exfalso;rcases Ji.1 k1 with h|h
     ·subst h;exact oF k5
     ·have:=(hF.pair (EF hI.split h) cz k2).war t k5 ht;exact cM (hI.closed _ k4 _ this)
    ·exact k
 ·intro t;by_cases ht:y.2.dst=some t
  ·exact .inl ⟨y,ZC,bQ,cM,ht⟩
  ·rw[fV t ht];rcases hI.temps t with ⟨y',k1,k2,k3,k4⟩|⟨y',k1,k2,k3,k4,k5⟩|k
   ·exact .inl ⟨y',ZaE,k2,k3,k4⟩
   ·rcases Ji.1 k1 with h|h
    ·subst h;exact absurd k5 ht
    ·exact .inr (.inl ⟨y',h,k2,k3,k4,k5⟩)
   ·exact .inr (.inr k)
theorem DInv.passChk {F:Fix}(hF:FixOk F){listed:Array Bool}{pre r:List Row}{j d:Nat}{gd:Option (Nat×Bool)}{op:FOp}(hI:DInv F listed a w pre ((j,.chk d gd op)::r) e H g) :
  DInv F listed a w (pre++[(j,.chk d gd op)]) r e H g:=by
 have aC:=P5 _ _ hF.rows pre _ _ hI.split;obtain⟨o,c1,c2,⟨y0,c3,c4,c5,c6,c7,c8⟩,c9⟩:=Qbez aC;have bU:=hI.rest;simp only[Jq,BP]at bU;obtain⟨⟨r1,r2,r3⟩,r4⟩:=bU;have ig:∀z∈pre,z∈F.L:=λz hz=>Zaa
 have f0:∀z t z',Co F listed (pre++[(j,.chk d gd op)]) z t z'↔Co F listed pre z t z':=by
  intro z t z';constructor
  ·rintro⟨b1,b2⟩;refine⟨?_,b2⟩;rcases Jb.1 b1 with b|b
   ·exact b
   ·simp at b;subst b;simp[Item.aP]at b2
  ·rintro⟨b1,b2⟩;exact⟨by simp[b1],b2⟩
 refine⟨by rw[hI.split];simp,r4,hI.stp,hI.size,hI.defers,hI.lsz,hI.closed,?_,?_,?_,?_,λy' dU z' cV=>hI.ne y' (by simp[dU]) z' (by simp[cV])⟩
 ·intro z hz jM;rcases Jb.1 hz with k|k
  ·exact hI.eDone z k jM
  ·simp at k;subst k;simp[Item.isE]at jM
 ·exact λz hz=>hI.postDone z Za2
 ·intro z hz eM gV;obtain⟨cz,sb⟩:=EB eM;have k:z∈pre:=by
   rcases Jb.1 hz with k|k
   ·exact k
   ·simp at k;subst k;simp[Item.aP]at cz
  have jA:Pend F listed a w pre e H g z->Pend F listed a w (pre++[(j,.chk d gd op)]) e H g z:=by
   rintro⟨o',x,ei,u,p1,p2,p3,p4,p5,p6,p7,p8⟩;refine⟨o',x,ei,u,p1,p2,p3,p4,p5,p6,p7,λt ht=>?_⟩;simp only[f0];exact p8 t ht
  rcases hI.pend z k eM gV with h|h
  ·rcases (Hg h).2 with h'|h'
   ·right;simp only at h';have rz:z=y0:=hF.inj (ig _ k) (ig _ c3) cz c4 (by rw[c5,<-h']);subst rz;refine⟨o,.f (some d) gd op,e,gdV gd (gdB e gd) (op.val e H),by rw[c5];exact c1,c2,by rw[c7];rfl,c6.symm,λh=>by rw[c8]at h;simp at h,⟨r1,r2,rfl⟩,?_,?_⟩
    ·intro d' cR;rw[c7]at cR;simp at cR;subst cR;exact r3
    ·intro t ht;simp only[f0];refine⟨λ_ _=>trivial,λbx=>?_⟩;rcases hI.temps t with ⟨y',k1,k2,k3,k4⟩|⟨y',k1,k2,k3,k4,k5⟩|k'
     ·exfalso;refine bx ⟨y',k1,k2,k3,k4,?_⟩;have:=c9 y' k1 k2 t k4 (by rw[<-c6];exact ht);rw[Fix.anc,c5];exact this
     ·exfalso;rcases Ji.1 k1 with h|h
      ·subst h;simp[Item.aP]at k2
      ·have:=(hF.pair (Cu (pre:=pre++[(j,.chk d gd op)]) Za3 (by simp[k]) h) cz k2).war t k5 ht;exact gV (hI.closed _ k4 _ this)
     ·exact k'
   ·exact .inl h'
  ·exact .inr (jA h)
 ·intro t;rcases hI.temps t with ⟨y',k1,k2,k3,k4⟩|⟨y',k1,k2,k3,k4,k5⟩|k
  ·exact .inl ⟨y',ZaE,k2,k3,k4⟩
  ·rcases Ji.1 k1 with h|h
   ·subst h;simp[Item.aP]at k2
   ·exact .inr (.inl ⟨y',h,k2,k3,k4,k5⟩)
  ·exact .inr (.inr k)
theorem G5 {d:Option Nat}{v:V}{e:Env}{t:Nat}(h:d≠some t):lk t (Bt d v e)=lk t e:=by
 cases d with
 |none=>rfl
 |some s=>
  simp only[Bt,lk];rw[if_neg];intro k;subst k;exact h rfl
theorem LF {d:Option Nat}{v:V}{e:Env}{t:Nat}(h:d=some t):lk t (Bt d v e)=v:=by
 subst h;simp[Bt,lk]
theorem Cn {a:Act}{d:Option Nat}{u:Value}{t:Nat}(h:d≠some t):(a.put d u).tmps.getD t undef=a.tmps.getD t undef:=by
 cases d with
 |none=>rfl
 |some s=>
  have:s≠t:=λk=>by subst k;exact h rfl
  simp only[Act.put];rw[Jg,Array.getElem?_setIfInBounds_ne this,<-Jg]
theorem Ed {a:Act}{d:Option Nat}{u:Value}{t:Nat}(h:d=some t)(ht:t<a.tmps.size):(a.put d u).tmps.getD t undef=u:=by
 subst h;simp only[Act.put];rw[Jg,J1 ht];rfl
theorem Bl {listed:Array Bool}{i j:Nat}(hi:i<listed.size):dn (listed.setIfInBounds i true) j↔j=i\/dn listed j:=by
 by_cases h:j=i
 ·subst h;simp[dn,hi]
 ·simp only[dn,getD_set_ne false (Jaq h),h,false_or]
theorem Ou {n:Nat}{ops:Array Oper}{o:Oper}{x:Item}(h:Bz P n ops o x=true):∀t,x.dst=some t->t<n:=by
 intro t ht;cases x <;> simp only[Bz,Jl]at h
 case f d gd op=>obtain⟨h1,h2⟩:=DF h.1.1;simp only[Item.dst]at ht;exact h2 t (h1.trans ht)
 case p d gd f xs=>obtain⟨h1,h2⟩:=DF h.1.1;simp only[Item.dst]at ht;exact h2 t (h1.trans ht)
 case e d gd op=>obtain⟨h1,h2⟩:=DF h.1.1;simp only[Item.dst]at ht;exact h2 t (h1.trans ht)
 case chk=>simp at h
theorem DInv.passE {F:Fix}(hF:FixOk F){listed:Array Bool}{pre r:List Row}{y:Row}(hI:DInv F listed a w pre (y::r) e H g)(hy:y.2.isE=true)(je:¬dn listed y.1)(pD:¬flo F.fa y.1=true)
  (eA:∀j,F.anc y.1 j->dn listed j) {v:V} {u:Value} {w':World} {H':Heap} {g':G}
  (bU:BP F.P (r.map Prod.snd) (Bt y.2.dst v e) H' F.KP F.K) (aQ:Stp H g w H' g' w') (hv:RepV w' g' v u) :
  DInv F (listed.setIfInBounds y.1 true) (a.put y.2.dst u) w' (pre++[y]) r (Bt y.2.dst v e) H' g':=by
 obtain⟨bQ,fT⟩:=Dv hy;obtain⟨o,ho⟩:=hF.row hI.split bQ;have af:y.1<listed.size:=Zav
 have ig:∀z∈pre,z∈F.L:=λz hz=>Zaa
 have oi:∀z∈pre,Gk F z y:=λz hz=>Cu hI.split hz ZC;refine⟨by rw[hI.split];simp,bU,hI.stp.trans aQ,by rw[(BS _ _ _).1];exact hI.size,by rw[(BS _ _ _).2];exact hI.defers,by simp[hI.lsz],?_,?_,?_,?_,?_,?_⟩
 ·intro i hi j hj;rw[Bl af]at hi⊢;rcases hi with rfl|hi
  ·exact .inr (eA j hj)
  ·exact .inr (hI.closed i hi j hj)
 ·intro z hz jM;rw[Bl af];rcases Jb.1 hz with k|k
  ·exact .inr (hI.eDone z k jM)
  ·simp at k;subst k;exact .inl rfl
 ·intro z hz cz fu;have py:=hF.pair (EF hI.split hz) bQ cz;rw[Bl af]at fu;obtain⟨k1,k2⟩:=hI.postDone z Za2 cz (fu.resolve_left (Jaq py.ne));exact⟨k1,k2.mono aQ λd hd=>Cn λh=>py.dst d h hd⟩
 ·intro z hz eM gV;obtain⟨cz,sb⟩:=EB eM;rw[Bl af]at gV;have gU:¬dn listed z.1:=λh=>gV (.inr h);have k:z∈pre:=by
   rcases Jb.1 hz with k|k
   ·exact k
   ·simp at k;subst k;rw[fT]at eM;simp at eM
  have hp:=hF.pair (oi z k) cz bQ;by_cases hh:z.2.hf=true
  ·right;rcases hI.pend z k eM gU with h|h
   ·have:=(Hg h).1;rw[bQ]at this;simp at this
   ·obtain⟨o',x,ei,u',p1,p2,p3,p4,p5,p6,p7,p8⟩:=h;refine⟨o',x,ei,u',p1,p2,p3,p4,p5,p6.hcongr (p5 hh),?_,?_⟩
    ·intro d hd;rw[G5 λh=>hp.dst d hd h];exact p7 d hd
    ·intro t ht;obtain⟨q1,q2⟩:=p8 t ht;have iE:y.2.dst≠some t:=λh=>by
      have:=hp.war t h ht;exact gU (eA _ this)
     have hb:∀z',Co F (listed.setIfInBounds y.1 true) (pre++[y]) z t z'↔Co F listed pre z t z':=by
      intro z';constructor
      ·rintro⟨b1,b2,b3,b4,b5⟩;rw[Bl af]at b3;refine⟨?_,b2,λh=>b3 (.inr h),b4,b5⟩;rcases Jb.1 b1 with b|b
       ·exact b
       ·simp at b;subst b;exact absurd b4 iE
      ·rintro⟨b1,b2,b3,b4,b5⟩;refine⟨by simp[b1],b2,?_,b4,b5⟩;rw[Bl af];rintro (h|h)
       ·exact (hF.pair (oi z' b1) b2 bQ).ne h
       ·exact b3 h
     simp only[hb,G5 iE,Cn iE];exact⟨q1,λh=>(q2 h).mono aQ.le⟩
  ·left;have:=ho.cover hy z k cz (by simpa using hh);refine this ?_
   cases hx:(F.ms.getD y.1 0).testBit z.1 with
   |false=>rfl
   |true=>exact absurd (eA _ hx) gU
 ·intro t;by_cases ht:y.2.dst=some t
  ·right;right;rw[LF ht,Ed ht ZaP];exact hv
  ·rw[G5 ht,Cn ht];rcases hI.temps t with ⟨y',k1,k2,k3,k4⟩|⟨y',k1,k2,k3,k4,k5⟩|k
   ·refine .inl ⟨y',ZaE,k2,?_,k4⟩;rw[Bl af];rintro (h|h)
    ·exact (hF.pair (oi y' k1) k2 bQ).ne h
    ·exact k3 h
   ·rcases Ji.1 k1 with h|h
    ·subst h;exact absurd k3 pD
    ·exact .inr (.inl ⟨y',h,k2,k3,(Bl af).2 (.inr k4),k5⟩)
   ·exact .inr (.inr (k.mono aQ.le))
 ·intro y' dU z' cV fZ eX jt fu bf d d' hd cR;have p1:=hF.pair (EF hI.split dU) bQ fZ;have p2:=hF.pair (EF hI.split cV) bQ eX;rw[Bl af]at jt fu;rw[Cn λh=>p1.dst d h hd,Cn λh=>p2.dst d' h cR];exact hI.ne y' (by simp[dU]) z' (by simp[cV]) fZ eX (jt.resolve_left (Jaq p1.ne)) (fu.resolve_left (Jaq p2.ne)) bf d d' hd cR
theorem DInv.passFa {F:Fix}(hF:FixOk F){listed:Array Bool}{pre r:List Row}{y:Row}(hI:DInv F listed a w pre (y::r) e H g)(bQ:y.2.aP=false)(je:dn listed y.1) :
  ∃e' H',DInv F listed a w (pre++[y]) r e' H' g:=by
 obtain⟨pD,pk⟩:=hI.postDone y ZC bQ je;obtain⟨d,cells,l,h1,h2,h3,h4⟩:=Qbjd hI.stp pk;obtain⟨d0,HN,l0,b0,sz0,T0,cs0,e1,e2,e3,e4,e5,e6,e7,e8,e9⟩:=pk.ok;obtain⟨o,ho⟩:=hF.row hI.split bQ;have hy:y.2.isE=true:=Zbn
 have fT:=(Dv hy).2;have jt:y.2.dst=some d:=Zbn
 have oi:∀z∈pre,Gk F z y:=λz hz=>Cu hI.split hz ZC;have bU:=hI.rest;simp only[Jq,h1,BP,gdO,gdB,true_and,EOp.eff]at bU;have qm:=bU.1 trivial l h2;refine⟨Bt (some d) (Up l) e,H.set l (.st cells),?_⟩;refine⟨by rw[hI.split];simp,qm,h3,hI.size,hI.defers,hI.lsz,hI.closed,?_,?_,?_,?_,λy' dU z' cV=>hI.ne y' (by simp[dU]) z' (by simp[cV])⟩
 ·intro z hz jM;rcases Jb.1 hz with k|k
  ·exact hI.eDone z k jM
  ·simp at k;subst k;exact je
 ·intro z hz cz fu;obtain⟨k1,k2⟩:=hI.postDone z Za2 cz fu;refine⟨k1,k2.other h4 λd' cR=>?_⟩;exact hI.ne y ZC z Za2 bQ cz je fu (hF.pair (EF hI.split hz) bQ cz).ne d d' jt cR
 ·intro z hz eM gV;obtain⟨cz,sb⟩:=EB eM;have k:z∈pre:=by
   rcases Jb.1 hz with k|k
   ·exact k
   ·simp at k;subst k;rw[fT]at eM;simp at eM
  have hp:=hF.pair (oi z k) cz bQ;by_cases hh:z.2.hf=true
  ·right;rcases hI.pend z k eM gV with h|h
   ·have:=(Hg h).1;rw[bQ]at this;simp at this
   ·obtain⟨o',x,ei,u',p1,p2,p3,p4,p5,p6,p7,p8⟩:=h;refine⟨o',x,ei,u',p1,p2,p3,p4,p5,p6.hcongr (p5 hh),?_,?_⟩
    ·intro d' cR;rw[G5 λh=>hp.dst d' cR (by rw[jt];exact h)];exact p7 d' cR
    ·intro t ht;obtain⟨q1,q2⟩:=p8 t ht;have iE:some d≠some t:=λh=>by
      have:=hp.war t (by rw[jt];exact h) ht;exact gV (hI.closed _ je _ this)
     have hb:∀z',Co F listed (pre++[y]) z t z'↔Co F listed pre z t z':=by
      intro z';constructor
      ·rintro⟨b1,b2,b3,b4,b5⟩;refine⟨?_,b2,b3,b4,b5⟩;rcases Jb.1 b1 with b|b
       ·exact b
       ·simp at b;subst b;rw[jt]at b4;exact absurd b4 iE
      ·rintro⟨b1,b2⟩;exact⟨by simp[b1],b2⟩
     simp only[hb,G5 iE];exact⟨q1,q2⟩
  ·left;refine ho.cover hy z k cz (by simpa using hh) ?_
   cases hx:(F.ms.getD y.1 0).testBit z.1 with
   |false=>rfl
   |true=>exact absurd (hI.closed _ je _ hx) gV
 ·intro t;by_cases ht:some d=some t
  ·right;right;rw[LF ht];simp at ht;subst ht;exact h4
  ·rw[G5 ht];rcases hI.temps t with ⟨y',k1,k2,k3,k4⟩|⟨y',k1,k2,k3,k4,k5⟩|k
   ·exact .inl ⟨y',ZaE,k2,k3,k4⟩
   ·rcases Ji.1 k1 with h|h
    ·subst h;rw[jt]at k5;exact absurd k5 ht
    ·exact .inr (.inl ⟨y',h,k2,k3,k4,k5⟩)
   ·exact .inr (.inr k)
theorem DInv.doneFl {F:Fix}(hF:FixOk F){listed:Array Bool}{pre post:List Row}{y:Row}(hI:DInv F listed a w pre post e H g)(fY:y∈pre)(hy:y.2.isFl=true)(je:¬dn listed y.1)
  (eA:∀j,F.anc y.1 j->dn listed j) {v:V} {u:Value} {w':World} {g':G} (rG:∀d,y.2.dst=some d->lk d e=v)
  (aQ:Stp H g w H g' w') (hv:RepV w' g' v u) :
  DInv F (listed.setIfInBounds y.1 true) (a.put y.2.dst u) w' pre post e H g':=by
 obtain⟨bQ,yY⟩:=EB hy;have jf:y∈F.L:=by rw[hI.split];simp[fY]
 obtain⟨A,B,nk⟩:=J0 jf;obtain⟨o,ho⟩:=hF.row nk bQ;have af:y.1<listed.size:=Zav
 have ig:∀z∈pre,z∈F.L:=λz hz=>Zaa
 refine⟨hI.split,hI.rest,hI.stp.trans aQ,by rw[(BS _ _ _).1];exact hI.size,by rw[(BS _ _ _).2];exact hI.defers,by simp[hI.lsz],?_,?_,?_,?_,?_,?_⟩
 ·intro i hi j hj;rw[Bl af]at hi⊢;rcases hi with rfl|hi
  ·exact .inr (eA j hj)
  ·exact .inr (hI.closed i hi j hj)
 ·intro z hz jM;rw[Bl af];exact .inr (hI.eDone z hz jM)
 ·intro z hz cz fu;have py:=hF.pair (Cu hI.split fY hz) bQ cz;rw[Bl af]at fu;obtain⟨k1,k2⟩:=hI.postDone z hz cz (fu.resolve_left (Jaq py.ne));exact⟨k1,k2.mono aQ λd hd=>Cn λh=>py.dst d h hd⟩
 ·intro z hz eM gV;obtain⟨cz,sb⟩:=EB eM;rw[Bl af]at gV;have gU:¬dn listed z.1:=λh=>gV (.inr h);have py:z≠y:=λh=>gV (.inl (by rw[h]));rcases hI.pend z hz eM gU with h|h
  ·exact .inl h
  ·right;obtain⟨o',x,ei,u',p1,p2,p3,p4,p5,p6,p7,p8⟩:=h;refine⟨o',x,ei,u',p1,p2,p3,p4,p5,p6,p7,?_⟩;intro t ht;obtain⟨q1,q2⟩:=p8 t ht;have hb:∀z',Co F (listed.setIfInBounds y.1 true) pre z t z'->Co F listed pre z t z':=by
    rintro z' ⟨b1,b2,b3,b4,b5⟩;rw[Bl af]at b3;exact⟨b1,b2,λh=>b3 (.inr h),b4,b5⟩
   refine⟨λz' cV=>q1 z' (hb z' cV),λbx=>?_⟩;by_cases iE:y.2.dst=some t
   ·have f0:Co F listed pre z t y:=by
     refine⟨fY,bQ,je,iE,?_⟩;rcases Q0x jf (ig z hz)with k|k|k
     ·exact absurd k.symm py
     ·exact (hF.pair k bQ cz).raw t iE ht
     ·exact absurd (eA _ ((hF.pair k cz bQ).war t iE ht)) gU
    rw[q1 y f0,rG t iE,Ed iE (by rw[hI.size];exact Ou ho.item t iE)];exact hv
   ·rw[Cn iE];refine (q2 λ⟨z',b⟩=>bx ⟨z',?_⟩).mono aQ.le;obtain⟨b1,b2,b3,b4,b5⟩:=b;refine⟨b1,b2,?_,b4,b5⟩;rw[Bl af];rintro (h|h)
    ·have:=hF.inj (ig _ b1) jf b2 bQ h;subst this;exact iE b4
    ·exact b3 h
 ·intro t;by_cases ht:y.2.dst=some t
  ·right;right;rw[rG t ht,Ed ht ZaP];exact hv
  ·rw[Cn ht];rcases hI.temps t with ⟨y',k1,k2,k3,k4⟩|⟨y',k1,k2,k3,k4,k5⟩|k
   ·refine .inl ⟨y',k1,k2,?_,k4⟩;rw[Bl af];rintro (h|h)
    ·have:=hF.inj (ig _ k1) jf k2 bQ h;subst this;exact ht k4
    ·exact k3 h
   ·exact .inr (.inl ⟨y',k1,k2,k3,(Bl af).2 (.inr k4),k5⟩)
   ·exact .inr (.inr (k.mono aQ.le))
 ·intro y' dU z' cV fZ eX jt fu bf d d' hd cR;have p1:=hF.pair (Cu hI.split fY dU) bQ fZ;have p2:=hF.pair (Cu hI.split fY cV) bQ eX;rw[Bl af]at jt fu;rw[Cn λh=>p1.dst d h hd,Cn λh=>p2.dst d' h cR];exact hI.ne y' dU z' cV fZ eX (jt.resolve_left (Jaq p1.ne)) (fu.resolve_left (Jaq p2.ne)) bf d d' hd cR
theorem DInv.doneFa {F:Fix}(hF:FixOk F){listed:Array Bool}{pre post:List Row}{y:Row}(hI:DInv F listed a w pre post e H g)(fY:y∈post)(bQ:y.2.aP=false)(pD:flo F.fa y.1=true)(je:¬dn listed y.1)
  (eA:∀j,F.anc y.1 j->dn listed j) {u:Value} {w':World} {g':G}
  (aQ:Stp H g w H g' w') (hv:Early F.g0 H g' w' (a.put y.2.dst u) y.2) (eG:∀x',Early F.g0 H g w a x'->∀d,x'.dst=some d->a.tmps.getD d undef≠u) :
  DInv F (listed.setIfInBounds y.1 true) (a.put y.2.dst u) w' pre post e H g':=by
 have jf:y∈F.L:=by rw[hI.split];simp[fY]
 obtain⟨A,B,nk⟩:=J0 jf;obtain⟨o,ho⟩:=hF.row nk bQ;have af:y.1<listed.size:=Zav
 have ig:∀z∈pre,z∈F.L:=λz hz=>Zaa
 have fk:∀z∈post,z∈F.L:=λz hz=>Zaa
 refine⟨hI.split,hI.rest,hI.stp.trans aQ,by rw[(BS _ _ _).1];exact hI.size,by rw[(BS _ _ _).2];exact hI.defers,by simp[hI.lsz],?_,?_,?_,?_,?_,?_⟩
 ·intro i hi j hj;rw[Bl af]at hi⊢;rcases hi with rfl|hi
  ·exact .inr (eA j hj)
  ·exact .inr (hI.closed i hi j hj)
 ·intro z hz jM;rw[Bl af];exact .inr (hI.eDone z hz jM)
 ·intro z hz cz fu;rw[Bl af]at fu;rcases fu with h|h
  ·have:=hF.inj (fk _ hz) jf cz bQ h;subst this;exact⟨pD,hv⟩
  ·obtain⟨k1,k2⟩:=hI.postDone z hz cz h;refine⟨k1,k2.mono aQ λd hd=>Cn λhh=>?_⟩;have:=hF.injDst (fk _ hz) jf cz bQ hd hh;subst this;exact je h
 ·intro z hz eM gV;obtain⟨cz,sb⟩:=EB eM;rw[Bl af]at gV;have gU:¬dn listed z.1:=λh=>gV (.inr h);rcases hI.pend z hz eM gU with h|h
  ·exact .inl h
  ·right;obtain⟨o',x,ei,u',p1,p2,p3,p4,p5,p6,p7,p8⟩:=h;refine⟨o',x,ei,u',p1,p2,p3,p4,p5,p6,p7,?_⟩;intro t ht;obtain⟨q1,q2⟩:=p8 t ht;have iE:y.2.dst≠some t:=λh=>by
    have:=(hF.pair (Cu hI.split hz fY) cz bQ).war t h ht;exact gU (eA _ this)
   have hb:∀z',Co F (listed.setIfInBounds y.1 true) pre z t z'↔Co F listed pre z t z':=by
    intro z';constructor
    ·rintro⟨b1,b2,b3,b4,b5⟩;rw[Bl af]at b3;exact⟨b1,b2,λh=>b3 (.inr h),b4,b5⟩
    ·rintro⟨b1,b2,b3,b4,b5⟩;refine⟨b1,b2,?_,b4,b5⟩;rw[Bl af];rintro (h|h)
     ·exact (hF.pair (Cu hI.split b1 fY) b2 bQ).ne h
     ·exact b3 h
   simp only[hb,Cn iE];exact⟨q1,λh=>(q2 h).mono aQ.le⟩
 ·intro t;by_cases ht:y.2.dst=some t
  ·exact .inr (.inl ⟨y,fY,bQ,pD,(Bl af).2 (.inl rfl),ht⟩)
  ·rw[Cn ht];rcases hI.temps t with ⟨y',k1,k2,k3,k4⟩|⟨y',k1,k2,k3,k4,k5⟩|k
   ·refine .inl ⟨y',k1,k2,?_,k4⟩;rw[Bl af];rintro (h|h)
    ·exact (hF.pair (Cu hI.split k1 fY) k2 bQ).ne h
    ·exact k3 h
   ·exact .inr (.inl ⟨y',k1,k2,k3,(Bl af).2 (.inr k4),k5⟩)
   ·exact .inr (.inr (k.mono aQ.le))
 ·have oY:∀z'∈post,z'.2.aP=false->dn listed z'.1->z'.1≠y.1->∀d d',y.2.dst=some d->z'.2.dst=some d'->(a.put y.2.dst u).tmps.getD d undef≠(a.put y.2.dst u).tmps.getD d' undef:=by
   intro z' cV eX fu bf d d' hd cR;obtain⟨_,k2⟩:=hI.postDone z' cV eX fu;rw[Ed hd (by rw[hI.size];exact Ou ho.item d hd),Cn λh=>bf ZaH];exact λh=>eG _ k2 d' cR h.symm
  intro y' dU z' cV fZ eX jt fu bf d d' hd cR;rw[Bl af]at jt fu;by_cases h1:y'.1=y.1
  ·have:=hF.inj (fk _ dU) jf fZ bQ h1;subst this;exact oY z' cV eX (fu.resolve_left λh=>bf h.symm) (λh=>bf h.symm) d d' hd cR
  ·by_cases h2:z'.1=y.1
   ·have:=hF.inj (fk _ cV) jf eX bQ h2;subst this;exact (oY y' dU fZ (jt.resolve_left h1) h1 d' d cR hd).symm
   ·rw[Cn λh=>h1 (by rw[hF.injDst (fk _ dU) jf fZ bQ hd h]),Cn λh=>h2 ZaH];exact hI.ne y' dU z' cV fZ eX (jt.resolve_left h1) (fu.resolve_left h2) bf d d' hd cR
def Fc (listed:Array Bool)(post:List Row):Prop:=post=[]\/∃y r,post=y::r/\y.2.isE=true/\¬dn listed y.1
theorem GK {F:Fix}(hF:FixOk F){listed:Array Bool}:∀(post pre:List Row) (e:Env) (H:Heap),DInv F listed a w pre post e H g->
  ∃pre' post' e' H',DInv F listed a w pre' post' e' H' g/\Fc listed post'
 |[],pre,e,H,hI=>⟨pre,[],e,H,hI,.inl rfl⟩
 |(i,x)::r,pre,e,H,hI=>by
  have z6:x.isE=false->x.aP=false->¬dn listed i:=by
   intro hx hc hd;obtain⟨_,pk⟩:=hI.postDone (i,x) ZC hc hd;obtain⟨d,cells,l,b,sz,T,cs,h1,_⟩:=pk.ok;simp only at h1;rw[h1]at hx;simp[Item.isE]at hx
  have bU:=hI.rest
  cases x with
  |chk d gd op=>exact GK hF r _ e H (hI.passChk hF)
  |f d gd op=>
   simp only[Jq,BP]at bU;exact GK hF r _ _ H (hI.passFl hF rfl _ ⟨bU.1,bU.2.1,rfl⟩ bU.2.2 (z6 rfl rfl))
  |p d gd f xs=>
   simp only[Jq,BP]at bU;obtain⟨r1,v,r2,r3⟩:=bU;exact GK hF r _ _ H (hI.passFl hF rfl _ ⟨r1,v,r2,rfl⟩ r3 (z6 rfl rfl))
  |e d gd op=>
   by_cases hd:dn listed i
   ·obtain⟨e',H',yM⟩:=hI.passFa hF rfl hd;exact GK hF r _ e' H' yM
   ·exact⟨pre,_,e,H,hI,.inr ⟨_,r,rfl,rfl,hd⟩⟩
theorem K4 {α:Type}{p q:α->Bool}:∀(l:List α),(∀x∈l,q x=true->p x=true)->(∃x∈l,p x=true/\q x=false)->l.countP q<l.countP p
 |[],_,h=>ZH
 |x::r,h1,h2=>by
  have aR:r.countP q<=r.countP p:=List.countP_mono_left λy hy=>h1 y (by simp[hy]);obtain⟨y,hy,k1,k2⟩:=h2;rcases Ji.1 hy with rfl|hy
  ·simp only[Jat,k1,k2];simp;omega
  ·have:=K4 r (λy hy=>h1 y (by simp[hy])) ⟨y,hy,k1,k2⟩;have hx:=h1 x ZC;simp only[Jat]
   cases hq:q x with
   |true=>rw[hx hq];simp;omega
   |false=>simp;split <;> omega
def unl (F:Fix)(listed:Array Bool):Nat:=(List.range F.ops.size).countP λi=>!listed.getD i false
theorem IP {F:Fix}(hF:FixOk F){listed:Array Bool}(bj:listed.size=F.ops.size)(hr:Region.ready .any F.ops listed=[]):∀(B A:List Row),F.L=A++B->
  (∀y∈A,y.2.aP=false->dn listed y.1)->∀y∈B,y.2.aP=false->dn listed y.1
 |[],A,h,hA,y,hy,hc=>by simp at hy
 |x::r,A,h,hA,y,hy,hc=>by
  have hx:x.2.aP=false->dn listed x.1:=by
   intro pH;obtain⟨o,ho⟩:=hF.row h pH;have af:x.1<listed.size:=by rw[bj];exact (Jk.1 ho.op).1
   by_cases hd:dn listed x.1
   ·exact hd
   ·exfalso;have:x.1∈Region.ready .any F.ops listed:=by
     rw[mem_ready];refine⟨?_,o,ho.op,λed tY hb=>?_⟩
     ·simp only[dn]at hd;rw[Jg,Js af]at hd⊢;simpa using hd
     ·obtain⟨z,hz,h1,h2⟩:=ho.aft ed tY hb;rw[<-h2];exact hA z hz h1
    rw[hr]at this;simp at this
  rcases Ji.1 hy with rfl|hy
  ·exact hx hc
  ·refine IP hF bj hr r (A++[x]) (by rw[h];simp) ?_ y hy hc;intro z hz cz;rcases Jb.1 hz with k|k
   ·exact hA z k cz
   ·simp at k;subst k;exact hx cz
theorem IH {F:Fix}(hF:FixOk F){listed:Array Bool}{pre post:List Row}(hI:DInv F listed a w pre post e H g)(aQ:Fc listed post)(hr:Region.ready .any F.ops listed=[]) :
  Post F.n F.H0 F.g0 F.w0 F.K a w:=by
 have bI:=IP hF hI.lsz hr F.L [] rfl ZC;rcases aQ with rfl|⟨y,r,rfl,hy,hd⟩
 ·refine⟨e,H,g,hI.rest,hI.stp,λt=>?_,hI.defers,hI.size⟩;rcases hI.temps t with ⟨y',k1,k2,k3,k4⟩|⟨y',k1,_⟩|k
  ·exact absurd (bI y' (by rw[hI.split];simp[k1]) k2) k3
  ·simp at k1
  ·exact k
 ·exact absurd (bI y Za3 (Dv hy).1) hd
theorem Qbjc {F:Fix}(hF:FixOk F){Q:Exit->Act->World->Prop}(hQ:∀a' w',Post F.n F.H0 F.g0 F.w0 F.K a' w'->Q .normal a' w')(hP:∀v a' w' H' g',F.KP v H'->Stp F.H0 F.g0 F.w0 H' g' w'->a'.defers=[]->a'.tmps.size=F.n->Q (.panic [{ v:=v,recovered:=false }]) a' w') :
  ∀(fuel:Nat) (listed:Array Bool) (a:Act) (w:World) (pre post:List Row) (e:Env) (H:Heap) (g:G),DInv F listed a w pre post e H g->Fc listed post->unl F listed<=fuel->
   wpAny F.P .any F.ops Q fuel listed a w:=by
 intro fuel
 induction fuel with
 |zero=>
  intro listed a w pre post e H g hI aQ hu;have hr:Region.ready .any F.ops listed=[]:=by
   rw[List.eq_nil_iff_forall_not_mem];intro i hi;rw[mem_ready]at hi;obtain⟨h1,o,h2,h3⟩:=hi;have af:i<F.ops.size:=(Jk.1 h2).1;have:0<unl F listed:=by
    unfold unl;rw[List.countP_pos_iff];refine⟨i,by simp[af],?_⟩;have fe:i<listed.size:=(by rw[hI.lsz];exact af);rw[Jg,Js fe]at h1⊢;simpa using h1
   omega
  exact⟨hr,hQ _ _ (IH hF hI aQ hr)⟩
 |succ fuel ih=>
  intro listed a w pre post e H g hI aQ hu;refine⟨λhr=>hQ _ _ (IH hF hI aQ hr),?_⟩;intro i hi;rw[mem_ready]at hi;obtain⟨h1,o,h2,h3⟩:=hi;have af:i<F.ops.size:=(Jk.1 h2).1;have fe:i<listed.size:=by rw[hI.lsz];exact af
  have cM:¬dn listed i:=by
   simp only[dn];rw[Jg,Js fe]at h1⊢;simpa using h1
  have iF:unl F (listed.setIfInBounds i true)<=fuel:=by
   have:unl F (listed.setIfInBounds i true)<unl F listed:=by
    refine K4 _ ?_ ⟨i,by simp[af],?_,?_⟩
    ·intro j hj hq;by_cases gC:i=j
     ·subst gC;simp[fe]at hq
     ·rw[getD_set_ne false gC]at hq;exact hq
    ·simpa[dn]using cM
    ·simp[fe]
   omega
  obtain⟨y,jf,bQ,f8⟩:=hF.all i af;subst f8;obtain⟨A,B,nk⟩:=J0 jf;obtain⟨o',ho⟩:=hF.row nk bQ;have iO:o'=o:=by have:=ho.op;rw[h2]at this;simpa using this.symm
  subst iO;have eA:∀j,F.anc y.1 j->dn listed j:=by
   intro j hj;obtain⟨ed,k1,k2,k3⟩:=ho.anc j hj;rcases k3 with k3|k3
   ·rw[<-k3];exact h3 ed k1 k2
   ·exact hI.closed _ (h3 ed k1 k2) j k3
  have db:∀a' w' pre' post' e' H' g',DInv F (listed.setIfInBounds y.1 true) a' w' pre' post' e' H' g'->wpAny F.P .any F.ops Q fuel (listed.setIfInBounds y.1 true) a' w':=by
   intro a' w' pre' post' e' H' g' yM;obtain⟨p2,q2,e2,H2,yL,dk⟩:=GK hF post' pre' e' H' yM;exact ih _ a' w' p2 q2 e2 H2 g' yL dk iF
  have bZ:y∈pre\/y∈post:=by
   have:y∈pre++post:=hI.split▸jf;exact Jb.1 this
  have rb:flo F.fa y.1=true->y∈post->wpOp F.P F.ops Q y.1 (wpAny F.P .any F.ops Q fuel (listed.setIfInBounds y.1 true)) a w:=by
   intro lc fY;refine Qbe5 h2 ho.item (ho.isFa lc) hI.stp.sat (λl z hz=>hI.stp.le.io l z hz) hI.size (g0:=F.g0) λu w' g' k1 k2 k3=>?_;exact db _ _ _ _ _ _ _ (hI.doneFa hF fY bQ lc cM eA k1 k2 k3)
  rcases bZ with fY|fY
  ·
   have iD:y.2.isFl=true:=by
    have hE:=hI.eDone y fY;revert hE bQ;cases y.2 <;> simp_all[Item.isFl,Item.aP,Item.isE]
   rcases hI.pend y fY iD cM with h|h
   ·exfalso;rcases aQ with rfl|⟨z,r,rfl,hz,_⟩
    ·simp[BI]at h
    ·have:=(Hg h).1;rw[(Dv hz).1]at this;simp at this
   ·obtain⟨o2,x,ei,v,p1,p2,p3,p4,p5,p6,p7,p8⟩:=h;rw[h2]at p1;simp only[Jf]at p1;subst p1;have bx:∀t,¬∃z,Co F listed pre y t z:=by
     rintro t ⟨z,b1,b2,b3,b4,b5⟩;exact b3 (eA _ b5)
    refine V0 (n:=F.n) h2 p2 p6 hI.stp.sat ?_ λu w' g' k1 k2=>?_
    ·intro t;rw[El];split
     ·rename_i ht
      rw[p4]at ht;exact (p8 t ht).2 (bx t)
     ·exact .unk _
    ·rw[p3];exact db _ _ _ _ _ _ _ (hI.doneFl hF fY iD cM eA p7 k1 k2)
  ·by_cases lc:flo F.fa y.1=true
   ·exact rb lc fY
   ·rcases aQ with rfl|⟨z,r,rfl,hz,fu⟩
    ·simp at fY
    ·have hyz:y=z:=by
      rcases Ji.1 fY with k|k
      ·exact k
      ·exfalso;have:=(hF.pair (EF hI.split k) (Dv hz).1 bQ).ord hz lc;exact fu (eA _ this)
     subst hyz;have bU:=hI.rest;have him:=ho.item;have zx:=@DInv.passE;obtain⟨yi,yx⟩:=y
     cases yx with
     |e d gd op=>
      simp only[Jq,BP]at bU;obtain⟨r1,r2,r3⟩:=bU;refine VT (n:=F.n) h2 him hI.stp.sat ?_ r1 r2 r3 (λx u w' H' g' k1 k2 k3=>?_) λv w' H' g' k1 k2=>hP v a w' H' g' k1 (hI.stp.trans k2) hI.defers hI.size
      ·intro t;rw[El];split
       ·rename_i ht
        rcases hI.temps t with ⟨y',b1,b2,b3,b4⟩|⟨y',b1,b2,b3,b4,b5⟩|k
        ·exfalso;exact b3 (eA _ ((hF.pair (Cu hI.split b1 ZC) b2 bQ).raw t b4 ht))
        ·exfalso;rcases Ji.1 b1 with h|h
         ·subst h;exact cM b4
         ·have:=(hF.pair (EF hI.split h) bQ b2).war t b5 ht;exact cM (hI.closed _ b4 _ this)
        ·exact k
       ·exact .unk _
      ·exact db _ _ _ _ _ _ _ (hI.passE hF hz cM lc eA (NY k1 k3) k2 k3)
     |f=>simp[Item.isE]at hz
     |p=>simp[Item.isE]at hz
     |chk=>simp[Item.isE]at hz
theorem NW (hs:Sat H g w)(k:Nat):Stp H g w H g { w with drawn:=k }:=by
 have aR:Le g w g { w with drawn:=k }:=⟨λ_ h=>⟨h,rfl⟩,λ_ _ h=>h,Jav _,λ_ _ _ h=>h,rfl,rfl,rfl⟩;have hk:∀l,Da g w g { w with drawn:=k } l:=λl b q hb=>⟨hb,rfl⟩;exact⟨aR,λl _ hn=>⟨hn,λb p hb=>⟨hb,rfl⟩⟩,hs.fresh,hs.names,hs.excl,hs.named,λl=>SatObj.keep_all hs aR hk l⟩
theorem Qbe4 {n id fa:Nat}{ord:List Nat}{ops:Array Oper}{its:List Item}{KP:Value->Heap->Prop}{K:Env->Heap->Prop}{Q:Exit->Act->World->Prop}(A6:P.follows .mixedOrders=true)(hm:EY P n ops fa ord its=true)(hs:Sat H g w)(he:EnvOk w g e a)(hn:a.tmps.size=n)(hd:a.defers=[])
  (hr:BP P its e H KP K) (hQ:∀a' w',Post n H g w K a' w'->Q .normal a' w') (hP:∀v a' w',Post n H g w (λ_ H'=>KP v H') a' w'->Q (.panic [{ v:=v,recovered:=false }]) a' w'):(Code.region id ops true).wp P Q a w:=by
 simp only[EY,Jl,beq_iff_eq,Jas,List.mem_range,List.any_eq_true,Jap]at hm;obtain⟨⟨⟨m1,m2⟩,m3⟩,m4⟩:=hm;let F:Fix:={ P,n,ops,ms:=EX ops.toList [],fa,L:=ord.zip its,H0:=H,g0:=g,w0:=w,KP,K };have hF:FixOk F:=⟨m3,λi hi=>m4 i hi⟩;have fN:(ord.zip its).map Prod.snd=its:=by
  rw[List.map_snd_zip];omega
 have aQ:=NW hs (w.drawn+1);have bC:∀i,¬dn (Array.replicate ops.size false) i:=by
  intro i h;simp only[dn,Jg,Array.getElem?_replicate]at h;split at h <;> simp at h
 have hI:DInv F (Array.replicate ops.size false) a { w with drawn:=w.drawn+1 } [] (ord.zip its) e H g:=by
  refine⟨rfl,by rw[fN];exact hr,aQ,hn,hd,by simp[F],λi hi=>absurd hi (bC i),ZC,λy _ _ h=>absurd h (bC _),ZC,λt=>?_,λy _ z _ _ _ h=>absurd h (bC _)⟩;exact .inr (.inr ((he t).mono aQ.le))
 obtain⟨p2,q2,e2,H2,yL,dk⟩:=GK hF _ _ _ _ hI;refine wp_region_any A6 ?_;refine Qbjc hF hQ (λv a' w' H' g' k1 k2 k3 k4=>hP v a' w' ⟨[],H',g',k1,k2,λt=>.unk _,k3,k4⟩) ops.size _ a _ p2 q2 e2 H2 g yL dk ?_;exact Nat.le_trans List.countP_le_length (by simp[F])
theorem Qbiu {c:Code}{Q:Exit->Act->World->Prop}(I:Nat->Act->World->Prop)(h₀:∃n,I n a w)
  (round:∀n a w,I n a w->c.wp P (Exit.then (λa' w'=>∃m,m<n/\I m a' w') Q) a w):(Code.loop c).wp P Q a w:=by
 intro b k cs;have key:∀n a w,I n a w->∃e a' w',Q e a' w'/\Arrives P (lone (b.at a (.code c::.inLoop c::k)) cs w) b k cs e a' w':=by
  intro n
  induction n using Nat.strongRecOn with
  |_ n ih=>
   intro a w hI;obtain⟨e,a₁,w₁,hq,ez⟩:=round n a w hI b (.inLoop c::k) cs
   cases e with
   |normal=>
    obtain⟨m,af,hI₁⟩:=hq;obtain⟨e₂,a₂,w₂,hq₂,uj⟩:=ih m af a₁ w₁ hI₁;exact⟨e₂,a₂,w₂,hq₂,.of_steps (Steps.trans ez (.one step_inLoop)) uj⟩
   |exit id=>exact⟨_,a₁,w₁,hq,.pass (x:=.inLoop c) rfl (λ_ _=>.inl ZC) ez⟩
   |goto l=>exact⟨_,a₁,w₁,hq,.pass (x:=.inLoop c) rfl (λ_ _=>.inl ZC) ez⟩
   |ret=>exact⟨_,a₁,w₁,hq,.pass (x:=.inLoop c) rfl (λ_ _=>.inl ZC) ez⟩
   |panic ch=>exact⟨_,a₁,w₁,hq,.pass (x:=.inLoop c) rfl (λ_ _=>.inl ZC) ez⟩
   |outgrown=>exact⟨_,a₁,w₁,hq,.pass (x:=.inLoop c) rfl (λ_ _=>.inl ZC) ez⟩
 obtain⟨n,hn⟩:=h₀;obtain⟨e,a',w',hq,ez⟩:=key n a w hn;exact⟨e,a',w',hq,.of_steps (.one step_loop) ez⟩
def xm:Exit->Option X
 |.normal=>some .nrm
 |.exit id=>some (.exit id)
 |.ret=>some .ret
 |.panic [{ v:=v,recovered:=false,goexit:=false }]=>some (.pan v)
 |_=>none
theorem DY {ch:List PanicEntry}{x:X}(h:xm (.panic ch)=some x):∃v,x=.pan v/\ch=[{ v:=v,recovered:=false }]:=by
 unfold xm at h;split at h <;> simp_all
def Dp (n:Nat)(H:Heap)(g:G)(w:World)(Q:X->Env->Heap->Prop)(x:Exit)(a:Act)(w':World):Prop:=
 ∃x',xm x=some x'/\Post n H g w (Q x') a w'
def mC (P:Program)(n:Nat):Code->SC->Bool
 |c,.seq .gh s=>mC P n c s
 |.skip,.skip=>true
 |.region _ ops false,.reg its _=>mIts P n ops 0 its
 |.region _ ops true,.jL fa ord its _=>EY P n ops fa ord its
 |.seq c d,.seq s t=>mC P n c s&&mC P n d t
 |.cond x c d,.cond y s t=>mO y x&&mC P n c s&&mC P n d t
 |.block i c,.block j s=>i == j&&mC P n c s
 |.loop c,.loop s=>mC P n c s
 |.exit i,.exit j=>i == j
 |.ret,.ret=>true
 |.scope c,.scope s=>mC P n c s
 |.label _,.skip=>true
 |_,_=>false
theorem HP {ks:List Nat}(h:EnvOk w g e a):EnvOk w g (trim ks e) a:=by
 intro t;unfold trim
 induction ks with
 |nil=>exact .unk _
 |cons k ks ih=>
  simp only[Jq,lk];split
  ·rename_i ht;subst ht;exact h t
  ·exact ih
theorem Post.trans {n:Nat}{H':Heap}{g':G}{w' w'':World}{K:Env->Heap->Prop}(h:Stp H g w H' g' w')(k:Post n H' g' w' K a w''):Post n H g w K a w'':=by
 obtain⟨e2,H2,g2,k1,k2,k3,k4,k5⟩:=k;exact⟨e2,H2,g2,k1,h.trans k2,k3,k4,k5⟩
theorem Qbe2 (A6:P.follows .mixedOrders=true){n:Nat}:∀(s:SC) (c:Code) (Q:X->Env->Heap->Prop) (e:Env) (H:Heap),mC P n c s=true->A9 P s Q e H->
  ∀(g:G) (w:World) (a:Act),Sat H g w->EnvOk w g e a->a.defers=[]->a.tmps.size=n->c.wp P (Dp n H g w Q) a w:=by
 intro s
 induction s with
 |skip=>
  intro c Q e H hm hc g w a hs he hd hn
  cases c with
  |skip=>exact wp_skip ⟨.nrm,rfl,e,H,g,hc,.refl hs,he,hd,hn⟩
  |label l=>exact wp_label ⟨.nrm,rfl,e,H,g,hc,.refl hs,he,hd,hn⟩
  |_=>simp[mC]at hm
 |reg its keep=>
  intro c Q e H hm hc g w a hs he hd hn
  cases c with
  |region id ops dr'=>
   cases dr' with
   |true=>simp[mC]at hm
   |false=>
    simp only[mC]at hm;simp only[A9]at hc;have hQ:∀a' w',Post n H g w (λe' H'=>Q .nrm (trim keep e') H') a' w'->Dp n H g w Q .normal a' w':=by
     rintro a' w' ⟨e2,H2,g2,k1,k2,k3,k4,k5⟩;exact⟨.nrm,rfl,_,H2,g2,k1,k2,HP k3,k4,k5⟩
    have hP:∀v a' w',Post n H g w (λ_ H'=>X.panK Q v H') a' w'->Dp n H g w Q (.panic [{ v:=v,recovered:=false }]) a' w':=by
     rintro v a' w' ⟨e2,H2,g2,k1,k2,k3,k4,k5⟩;exact⟨.pan v,rfl,[],H2,g2,k1,k2,λt=>.unk _,k4,k5⟩
    have hl:=IU its 0 hm;refine wp_region ?_;rw[List.range_eq_range',<-hl,Jar];exact Q3h hQ hP its 0 e H g w a hm (.refl hs) he hn hd hc
  |_=>simp[mC]at hm
 |jL fa ord its keep=>
  intro c Q e H hm hc g w a hs he hd hn
  cases c with
  |region id ops dr'=>
   cases dr' with
   |false=>simp[mC]at hm
   |true=>
    simp only[mC]at hm;simp only[A9]at hc;have hQ:∀a' w',Post n H g w (λe' H'=>Q .nrm (trim keep e') H') a' w'->Dp n H g w Q .normal a' w':=by
     rintro a' w' ⟨e2,H2,g2,k1,k2,k3,k4,k5⟩;exact⟨.nrm,rfl,_,H2,g2,k1,k2,HP k3,k4,k5⟩
    have hP:∀v a' w',Post n H g w (λ_ H'=>X.panK Q v H') a' w'->Dp n H g w Q (.panic [{ v:=v,recovered:=false }]) a' w':=by
     rintro v a' w' ⟨e2,H2,g2,k1,k2,k3,k4,k5⟩;exact⟨.pan v,rfl,[],H2,g2,k1,k2,λt=>.unk _,k4,k5⟩
    exact Qbe4 A6 hm hs he hn hd hc hQ hP
  |_=>simp[mC]at hm
 |seq s t ihs iht=>
  intro c Q e H hm hc g w a hs he hd hn;by_cases hg:s=.gh
  ·subst hg;have eP:mC P n c t=true:=by simpa[mC]using hm
   simp only[A9]at hc;obtain⟨e1,H1,h1,h2⟩:=hc;obtain⟨g1,k1,k2⟩:=h1 g w (λt=>a.tmps.getD t undef) hs he;refine wp_mono (iht c Q e1 H1 eP h2 g1 w a k1.sat k2 hd hn) ?_;rintro x a' w' ⟨x',q1,q2⟩;exact⟨x',q1,q2.trans k1⟩
  ·cases c with
   |seq c d=>
    have eP:mC P n c s=true/\mC P n d t=true:=by
     cases s <;> first|(exact absurd rfl hg)|simpa[mC]using hm
    simp only[A9]at hc;refine wp_seq (wp_mono (ihs c _ e H eP.1 hc g w a hs he hd hn) ?_);rintro x a' w' ⟨x',q1,e2,H2,g2,k1,k2,k3,k4,k5⟩
    cases x with
    |normal=>
     simp only[xm,Jf]at q1;subst q1;refine wp_mono (iht d Q e2 H2 eP.2 k1 g2 w' a' k2.sat k3 k4 k5) ?_;rintro x2 a2 w2 ⟨x2',r1,r2⟩;exact⟨x2',r1,r2.trans k2⟩
    |exit id=>
     simp only[xm,Jf]at q1;subst q1;exact⟨_,rfl,e2,H2,g2,k1,k2,k3,k4,k5⟩
    |ret=>
     simp only[xm,Jf]at q1;subst q1;exact⟨_,rfl,e2,H2,g2,k1,k2,k3,k4,k5⟩
    |panic ch=>
     obtain⟨v,rfl,rfl⟩:=DY q1;exact⟨_,rfl,e2,H2,g2,k1,k2,k3,k4,k5⟩
    |_=>simp[xm]at q1
   |_=>cases s <;> first|(exact absurd rfl hg)|simp[mC]at hm
 |cond y s t ihs iht=>
  intro c Q e H hm hc g w a hs he hd hn;cases c <;> simp[mC]at hm
  rename_i x c d
  obtain⟨⟨h1,h2⟩,h3⟩:=hm;simp only[A9]at hc;obtain⟨b,k1,k2,k3⟩:=hc;have hr:=HG he h1;rw[k1]at hr;have hb:=hr.aL.bz;exact wp_cond_split hb (λoq=>ihs c Q e H h2 (k2 oq) g w a hs he hd hn) (λoq=>iht d Q e H h3 (k3 oq) g w a hs he hd hn)
 |block id s ih=>
  intro c Q e H hm hc g w a hs he hd hn;cases c <;> simp[mC]at hm
  rename_i id' c
  obtain⟨rfl,h2⟩:=hm;simp only[A9]at hc;refine wp_block (wp_mono (ih c _ e H h2 hc g w a hs he hd hn) ?_);rintro x a' w' ⟨x',q1,e2,H2,g2,k1,k2⟩
  cases x with
  |normal=>
   simp only[xm,Jf]at q1;subst q1;exact⟨.nrm,rfl,e2,H2,g2,k1,k2⟩
  |exit id2=>
   simp only[xm,Jf]at q1;subst q1;simp only[X.inBlock]at k1;simp only[Exit.inBlock];split
   ·rename_i h;subst h;rw[if_pos rfl]at k1;exact⟨.nrm,rfl,e2,H2,g2,k1,k2⟩
   ·rename_i h;rw[if_neg h]at k1;exact⟨.exit id2,rfl,e2,H2,g2,k1,k2⟩
  |ret=>
   simp only[xm,Jf]at q1;subst q1;exact⟨.ret,rfl,e2,H2,g2,k1,k2⟩
  |panic ch=>
   obtain⟨v,rfl,rfl⟩:=DY q1;exact⟨.pan v,rfl,e2,H2,g2,k1,k2⟩
  |_=>simp[xm]at q1
 |loop s ih=>
  intro c Q e H hm hc g w a hs he hd hn;cases c <;> simp[mC]at hm
  rename_i c
  simp only[A9]at hc;obtain⟨I,⟨m0,h0⟩,ql⟩:=hc;refine Qbiu (λm a' w'=>Post n H g w (I m) a' w') ⟨m0,e,H,g,h0,.refl hs,he,hd,hn⟩ ?_;rintro m a1 w1 ⟨e1,H1,g1,k1,k2,k3,k4,k5⟩;refine wp_mono (ih c _ e1 H1 hm (ql m e1 H1 k1) g1 w1 a1 k2.sat k3 k4 k5) ?_;rintro x a' w' ⟨x',q1,e2,H2,g2,r1,r2,r3,r4,r5⟩
  cases x with
  |normal=>
   simp only[xm,Jf]at q1;subst q1;obtain⟨m',af,hI⟩:=r1;exact⟨m',af,e2,H2,g2,hI,k2.trans r2,r3,r4,r5⟩
  |exit id=>
   simp only[xm,Jf]at q1;subst q1;exact⟨_,rfl,e2,H2,g2,r1,k2.trans r2,r3,r4,r5⟩
  |ret=>
   simp only[xm,Jf]at q1;subst q1;exact⟨_,rfl,e2,H2,g2,r1,k2.trans r2,r3,r4,r5⟩
  |panic ch=>
   obtain⟨v,rfl,rfl⟩:=DY q1;exact⟨_,rfl,e2,H2,g2,r1,k2.trans r2,r3,r4,r5⟩
  |_=>simp[xm]at q1
 |exit id=>
  intro c Q e H hm hc g w a hs he hd hn;cases c <;> simp[mC]at hm;subst hm;exact wp_exit ⟨.exit _,rfl,e,H,g,hc,.refl hs,he,hd,hn⟩
 |ret=>
  intro c Q e H hm hc g w a hs he hd hn;cases c <;> simp[mC]at hm;exact wp_ret ⟨.ret,rfl,e,H,g,hc,.refl hs,he,hd,hn⟩
 |gh=>
  intro c Q e H hm hc g w a hs he hd hn;cases c <;> simp[mC]at hm
 |scope s ih=>
  intro c Q e H hm hc g w a hs he hd hn;cases c <;> simp[mC]at hm
  rename_i c
  simp only[A9]at hc;refine wp_scope_straight (wp_mono (ih c Q e H hm hc g w a hs he hd hn) ?_);rintro x a' w' ⟨x',q1,q2⟩
  cases x with
  |goto l=>simp[xm]at q1
  |_=>exact⟨x',q1,q2⟩
def mR (P:Program):ResultVar->RS->Bool
 |.tmp t,.tmp t'=>t == t'
 |.cell t ty,.cell t' n agg=>t == t'&&Dn P ty n agg
 |_,_=>false
def mRs (P:Program):List ResultVar->List RS->Bool
 |[],[]=>true
 |x::r,y::s=>mR P x y&&mRs P r s
 |_,_=>false
def mFn (P:Program)(f:FuncId)(nargs n:Nat)(s:SC)(rs:List RS):Bool:=
 fnOk P f&&(match P.funcs[f]? with
  |some fn=>(match fn.body with
   |some c=>fn.ntmps == n&&decide (nargs<=n)&&mC P n c s&&mRs P fn.results.toList rs
   |none=>false)
  |none=>false)
theorem SM {n:Nat}{x:ResultVar}{y:RS}(hm:mR P x y=true)(hs:Sat H g w)(he:EnvOk w g e a)(ho:y.op.obl true e H) :
  ∃v,(match x with
   |.tmp t=>(pure (a.tmps.getD t undef):Sem Value)
   |.cell t ty=>do loadVar ty (<-asAddr (a.tmps.getD t undef))).run P w=.ok v w/\RepV w g (y.op.val e H) v:=by
 cases x with
 |tmp t=>
  cases y with
  |tmp t'=>
   simp[mR]at hm;subst hm;have hr:=AK (x:=.t t) (y:=.tmp t) he (by simp[mO]) rfl ho;exact⟨a.tmps.getD t undef,rfl,hr⟩
  |cell=>simp[mR]at hm
 |cell t ty=>
  cases y with
  |tmp=>simp[mR]at hm
  |cell t' n agg=>
   simp only[mR,Jl,beq_iff_eq]at hm;obtain⟨rfl,h2⟩:=hm;obtain⟨d,i,k1,k2,k3,k4,k5⟩:=Q06 h2;obtain ⟨v, w', g', r1, r2, r3, _⟩ := s_ld (o := { dst := none, op := .load ty (.tmp t), type := 0, pos := "", after := #[], guard := none }) (x := .t t) (x' := .tmp t) rfl k1 k2 k3 k4 k5 (by simp [mO]) hs he rfl ho
   simp only[RS.op,FOp.obl]at ho;obtain⟨o1,o2,o3,o4,o5⟩:=ho;have wo:=AK (x:=.t t) (y:=.tmp t) he (by simp[mO]) rfl o1;rw[B2 o2]at wo;obtain⟨b,q,hv,_⟩:=LX hs wo.aL o3;have jy:a.tmps.getD t undef=.pointer (some ⟨b,q,none⟩):=hv;have bX := NZ (P := P) (o := { dst := none, op := .load ty (.tmp t), type := 0, pos := "", after := #[], guard := none }) (x := .t t) (x' := .tmp t) rfl k1 k2 k3 k4 k5 (by simp [mO]) hs he rfl ⟨o1, o2, o3, o4, o5⟩
   obtain⟨v2,q1,q2⟩:=bX;refine⟨v2,?_,q2⟩;simp only[execOp,Instr.loadAt,Act.eval,jy,Instr.sureAddr,Sem.run_bind,Sem.run_pure,Result.andThen_ok]at q1;simp only[jy,asAddr,Sem.run_bind,Sem.run_pure,Result.andThen_ok]
   cases hl:(loadVar ty ⟨b,q,none⟩).run P w with
   |ok u w2=>rw[hl]at q1;simp at q1;obtain⟨rfl,rfl⟩:=q1;rfl
   |halt h w2=>rw[hl]at q1;simp at q1
def rRun (tmps:Array Value):ResultVar->Sem Value
 |.tmp t=>pure (tmps.getD t undef)
 |.cell a t=>do loadVar t (<-asAddr (tmps.getD a undef))
theorem Qa57 {P:Program}{w:World}{tmps:Array Value}:∀(l:List ResultVar) (vs:List Value),l.length=vs.length->
  (∀(j:Nat) (x:ResultVar) (v:Value),l[j]? = some x->vs[j]? = some v->(rRun tmps x).run P w=.ok v w)->(l.mapM (rRun tmps)).run P w=.ok vs w:=by
 intro l
 induction l with
 |nil=>intro vs hl _;cases vs with
  |nil=>simp
  |cons=>simp at hl
 |cons x r ih=>
  intro vs hl h
  cases vs with
  |nil=>simp at hl
  |cons v vs=>
   have h0:=h 0 x v rfl rfl;have ih':=ih vs Zae λj y u h1 h2=>h (j+1) y u ZW Zaf;simp only[List.mapM_cons,Sem.run_bind,h0,Result.andThen_ok,ih',Sem.run_pure]
theorem TX {n:Nat}:∀(l:List ResultVar) (rs:List RS),mRs P l rs=true->Sat H g w->EnvOk w g e a->(∀r∈rs,r.op.obl true e H)->
  ∃vs:List Value,l.length=vs.length/\vs.length=rs.length/\(∀(j:Nat) (x:ResultVar) (v:Value),l[j]? = some x->vs[j]? = some v->(rRun a.tmps x).run P w=.ok v w)/\
   (∀(j:Nat) (x:V) (u:Value),(rs.map λr=>r.op.val e H)[j]? = some x->vs[j]? = some u->RepV w g x u):=by
 intro l
 induction l with
 |nil=>
  intro rs hm hs he ho
  cases rs with
  |nil=>exact⟨[],rfl,rfl,ZC,ZC⟩
  |cons=>simp[mRs]at hm
 |cons x r ih=>
  intro rs hm hs he ho
  cases rs with
  |nil=>simp[mRs]at hm
  |cons y rs=>
   simp only[mRs,Jl]at hm;obtain⟨v,h1,h2⟩:=SM (n:=n) hm.1 hs he (ho y ZC);obtain⟨vs,k1,k2,k3,k4⟩:=ih rs hm.2 hs he λz hz=>ho z Za2;refine⟨v::vs,ZaE,by simp[k2],?_,?_⟩
   ·intro j z u hz hu
    cases j with
    |zero=>
     simp at hz hu;subst hz;subst hu;exact h1
    |succ j=>exact k3 j z u ZaD (by simpa using hu)
   ·intro j z u hz hu
    cases j with
    |zero=>
     simp at hz hu;subst hz;subst hu;exact h2
    |succ j=>exact k4 j z u ZaD (by simpa using hu)
theorem Qbgc {fn:Func}{rs:List RS}(hm:mRs P fn.results.toList rs=true)(hs:Sat H g w)(he:EnvOk w g e a){K:Uk}(ho:A5 rs e H K) :
  ∃v x,(results fn a.tmps).run P w=.ok v w/\K x H/\RepV w g x v:=by
 obtain⟨h1,h2⟩:=ho;obtain⟨vs,k1,k2,k3,k4⟩:=TX (n:=0) _ _ hm hs he h1;have hr:=Qa57 (P:=P) (w:=w) (tmps:=a.tmps) _ _ k1 k3;have cG:(results fn a.tmps).run P w=.ok (if h:vs.toArray.size=1 then vs.toArray[0]else .tuple vs.toArray) w:=by
  have:results fn a.tmps=(do let vs <-fn.results.mapM (rRun a.tmps);pure (if h:vs.size=1 then vs[0]else .tuple vs)):=by
   unfold results;rfl
  rw[this,Array.mapM_eq_mapM_toList];simp only[Sem.run_bind,Sem.run_map,hr,Result.andThen_ok,Sem.run_pure]
 by_cases hl:vs.length=1
 ·obtain⟨v,rfl⟩:∃v,vs=[v]:=Jai.mp hl;obtain⟨r,rfl⟩:∃r,rs=[r]:=Jai.mp ZA;exact⟨v,_,by simpa using cG,h2,k4 0 _ v ZC rfl⟩
 ·have bj:¬vs.toArray.size=1:=Zae
  rw[dif_neg bj]at cG;refine⟨_,.tup (rs.map λr=>r.op.val e H),cG,?_,.tup _ _ (by simp[k2]) k4⟩;split at h2
  ·rename_i r;simp at k2;omega
  ·exact h2
def Q7 (rs:List RS)(K:V->Heap->Prop):X->Env->Heap->Prop
 |.nrm,e,H=>A5 rs e H K
 |.ret,e,H=>A5 rs e H K
 |.exit _,_,_=>False
 |.pan v,_,H=>K (.pn v) H
theorem Tq:∀(args:List V) (i t:Nat),lk t (zipE i args)=if i<=t then args.getD (t-i) .unk else .unk:=by
 intro args
 induction args with
 |nil=>intro i t;simp[zipE,lk]
 |cons v r ih=>
  intro i t;simp only[zipE,lk,ih];split
  ·rename_i h;subst h;simp
  ·rename_i h
   split
   ·rw[if_pos ZA];have:t-i=(t-(i+1))+1:=ZA;rw[this];simp
   ·rw[if_neg ZA]
theorem Qd (A6:P.follows .mixedOrders=true){f n:Nat}{s:SC}{rs:List RS}{args:List V}{H:Heap}{K:V->Heap->Prop}
  (hm:mFn P f args.length n s rs=true) (hc:A9 P s (Q7 rs K) (zipE 0 args) H):Qv P f args H K:=by
 simp only[mFn,Jl]at hm;obtain⟨aw,hm⟩:=hm;refine⟨aw,?_⟩;intro g w vs hs hl hv
 cases hf:P.funcs[f]? with
 |none=>rw[hf]at hm;simp at hm
 |some fn=>
  rw[hf]at hm;simp only at hm
  cases hb:fn.body with
  |none=>rw[hb]at hm;simp at hm
  |some c=>
   rw[hb]at hm;simp only[Jl,beq_iff_eq,decide_eq_true_eq]at hm;obtain⟨⟨⟨h1,h2⟩,h3⟩,h4⟩:=hm;refine calls_of_wp hf hb ?_;have he:EnvOk w g (zipE 0 args) { tmps:=vs.toArray++Array.replicate (fn.ntmps-vs.toArray.size) undef,defers:=[] }:=by
    intro t;rw[Tq,if_pos (Jaw _),Nat.sub_zero];by_cases ht:t<args.length
    ·have zq:t<vs.length:=ZA;have hg:(vs.toArray++Array.replicate (fn.ntmps-vs.toArray.size) undef).getD t undef=vs[t]:=by
      simp[Array.getD,zq,Array.getElem_append];intro h;omega
     rw[hg];exact hv t _ _ (by rw[Je,Jw ht];rfl) (Jw zq)
    ·rw[Je,List.getElem?_eq_none ZA];exact .unk _
   refine wp_mono (Qbe2 A6 s c _ (zipE 0 args) H h3 hc g w _ hs he rfl ZG) ?_;rintro x a' w' ⟨x',q1,e2,H2,g2,k1,k2,k3,k4,k5⟩;have key:A5 rs e2 H2 K->a'.defers=[]/\∃v,(results fn a'.tmps).run P w'=.ok v w'/\((∃v' x H' g',Ending.returned v=.returned v'/\K x H'/\Stp H g w H' g' w'/\RepV w' g' x v')\/(∃v' H' g',Ending.returned v=.panicked [{ v:=v',recovered:=false }]/\K (.pn v') H'/\Stp H g w H' g' w')):=by
    intro wq;obtain⟨v,x,r1,r2,r3⟩:=Qbgc h4 k2.sat k3 wq;exact⟨k4,v,r1,.inl ⟨v,x,H2,g2,rfl,r2,k2,r3⟩⟩
   cases x with
   |normal=>
    simp only[xm,Jf]at q1;subst q1;exact key k1
   |ret=>
    simp only[xm,Jf]at q1;subst q1;exact key k1
   |exit id=>
    simp only[xm,Jf]at q1;subst q1;exact k1.elim
   |panic ch=>
    obtain⟨v,rfl,rfl⟩:=DY q1;exact⟨k4,.inr ⟨v,H2,g2,rfl,k1,k2⟩⟩
   |_=>simp[xm]at q1
end Go.AE
namespace Go.AE
variable {P:Program}{H:Heap}{e:Env}
def X.sq (P:Program)(b:SC)(Q:X->Env->Heap->Prop):X->Env->Heap->Prop:=X.next (A9 P b Q) Q
theorem T4 {KP:Value->Heap->Prop}{K:V->Heap->Prop}{x:C}:Ci KP K (.c x) H=K (.c x) H:=rfl
theorem Xq {KP:Value->Heap->Prop}{K:V->Heap->Prop}{x:List C}:Ci KP K (.ag x) H=K (.ag x) H:=rfl
theorem FJ {KP:Value->Heap->Prop}{K:V->Heap->Prop}{x:List V}:Ci KP K (.tup x) H=K (.tup x) H:=rfl
theorem Qbog {KP:Value->Heap->Prop}{K:V->Heap->Prop}:Ci KP K .unk H=K .unk H:=rfl
theorem Xp {KP:Value->Heap->Prop}{K:V->Heap->Prop}{v:Value}:Ci KP K (.pn v) H=KP v H:=rfl
theorem S0 {b:SC}{Q:X->Env->Heap->Prop}:X.sq P b Q .nrm e H=A9 P b Q e H:=rfl
theorem Sz {b:SC}{Q:X->Env->Heap->Prop}:X.sq P b Q .ret e H=Q .ret e H:=rfl
theorem T8 {b:SC}{Q:X->Env->Heap->Prop}{i:Nat}:X.sq P b Q (.exit i) e H=Q (.exit i) e H:=rfl
theorem Tc {i:Nat}{Q:X->Env->Heap->Prop}:X.inBlock i Q .nrm e H=Q .nrm e H:=rfl
theorem Tb {i:Nat}{Q:X->Env->Heap->Prop}:X.inBlock i Q .ret e H=Q .ret e H:=rfl
theorem Vy {i:Nat}{Q:X->Env->Heap->Prop}:X.inBlock i Q (.exit i) e H=Q .nrm e H:=by simp[X.inBlock]
theorem FB {i j:Nat}{Q:X->Env->Heap->Prop}(h:(j == i)=false):X.inBlock i Q (.exit j) e H=Q (.exit j) e H:=by
 have:j≠i:=ZI
 simp[X.inBlock,this]
theorem Xc {a:SC}{Q:X->Env->Heap->Prop}(h:A9 P a Q e H):A9 P (.scope a) Q e H:=h
theorem Qh {a b:SC}{Q:X->Env->Heap->Prop}(h:A9 P a (X.sq P b Q) e H):A9 P (.seq a b) Q e H:=h
theorem Qbl0 {K K':Env->Heap->Prop}{Q:X->Env->Heap->Prop}:X.next K (X.next K' Q)=X.next K Q:=by
 funext x e H
 cases x <;> rfl
theorem Q1 {a b c:SC}{Q:X->Env->Heap->Prop}(h:A9 P (.seq a (.seq b c)) Q e H):A9 P (.seq (.seq a b) c) Q e H:=by
 simp only[A9]at h⊢;rw[Qbl0];exact h
theorem Qq {its:List Item}{keep:List Nat}{Q:X->Env->Heap->Prop}(h:regT P its e H (X.panK Q) λe' H'=>Q .nrm (trim keep e') H'):A9 P (.reg its keep) Q e H:=h
theorem AY {fa:Nat}{ord:List Nat}{its:List Item}{keep:List Nat}{Q:X->Env->Heap->Prop}(h:BP P its e H (X.panK Q) λe' H'=>Q .nrm (trim keep e') H'):A9 P (.jL fa ord its keep) Q e H:=h
theorem Qa {its:List Item}{keep:List Nat}{b:SC}{Q:X->Env->Heap->Prop}(h:regT P its e H (X.panK Q) λe' H'=>A9 P b Q (trim keep e') H'):A9 P (.seq (.reg its keep) b) Q e H:=h
theorem AC {fa:Nat}{ord:List Nat}{its:List Item}{keep:List Nat}{b:SC}{Q:X->Env->Heap->Prop}(h:BP P its e H (X.panK Q) λe' H'=>A9 P b Q (trim keep e') H'):A9 P (.seq (.jL fa ord its keep) b) Q e H:=h
theorem Qf {t:Opd}{a b:SC}{Q:X->Env->Heap->Prop}{c:Bool}(hc:t.raw e=.c (.bool c))(h1:c=true->A9 P a Q e H)(h2:c=false->A9 P b Q e H):A9 P (.cond t a b) Q e H:=⟨c,hc,h1,h2⟩
theorem Qe {i:Nat}{a:SC}{Q:X->Env->Heap->Prop}(h:A9 P a (X.inBlock i Q) e H):A9 P (.block i a) Q e H:=h
theorem Qu {i:Nat}{Q:X->Env->Heap->Prop}(h:Q (.exit i) e H):A9 P (.exit i) Q e H:=h
theorem Qk {Q:X->Env->Heap->Prop}(h:Q .ret e H):A9 P .ret Q e H:=h
theorem Qi {Q:X->Env->Heap->Prop}(h:Q .nrm e H):A9 P .skip Q e H:=h
theorem Qx {a:SC}{Q:X->Env->Heap->Prop}(I:Nat->Env->Heap->Prop)(n:Nat)(h0:I n e H)
  (h:∀n e1 H1,I n e1 H1->A9 P a (X.next (λe2 H2=>∃m,m<n/\I m e2 H2) Q) e1 H1):A9 P (.loop a) Q e H:=⟨I,⟨n,h0⟩,h⟩
theorem Qbph {e:Env}:gdO e none=True:=rfl
theorem Qbpg {e:Env}:gdB e none=true:=rfl
theorem Qbpi {p:Bool}{v:V}:gdV none p v=v:=rfl
theorem Qbpj {p:Bool}{v:V}{x:Nat×Bool}:gdV (some x) p v=.gd p v:=rfl
theorem Xk {e:Env}:trim [] e=[]:=rfl
theorem Qbol {k:Nat}{ks:List Nat}{e:Env}:trim (k::ks) e=(k,lk k e)::trim ks e:=rfl
theorem Xj {a:Prop}:(true=true->a)=a:=ZC
theorem Qbji {a:Prop}:(false=true->a)=True:=ZC
theorem Qbon {a:Prop}:(true=false->a)=True:=ZC
theorem Qbe8 {a:Prop}:(false=false->a)=a:=ZC
theorem Sp {a:Prop}:(a/\True)=a:=ZC
theorem RO {a:Prop}:(True/\a)=a:=ZC
theorem RN {a:Prop}:(True->a)=a:=ZC
theorem Sg {a:Prop}:(a->True)=True:=ZC
theorem b_f {b:Bool}:(b == false) = !b:=by cases b <;> rfl
theorem b_t {b:Bool}:(b == true)=b:=by cases b <;> rfl
theorem Qbpl {a:Prop}:(a->a)=True:=ZC
theorem Qbjv {a b:Prop}:(a->b->a)=True:=propext ⟨λ_=>trivial,λ_ h _=>h⟩
theorem Qbjw {a b:Prop}:(a->a/\b)=(a->b):=propext ⟨λh x=>(h x).2,λh x=>⟨x,h x⟩⟩
theorem Vw {a b:Prop}:(a->a->b)=(a->b):=ZC
theorem Qa5y {α:Type}{p:α->Prop}:(∀x∈([]:List α),p x)=True:=ZC
def D4 (H:Heap)(p:C)(vs:List C)(K:V->Heap->Prop):Prop:=
 match p with
 |.ptr l k=>match H l with
  |.st cells=>k+vs.length<=cells.length/\∀H',H'=H.set l (.st (D5 cells k vs))->K .unk H'
  |_=>False
 |.ep (.ai l sz st n) z i k=>match H l with
  |.vec y rows=>y=sz/\z=sz/\i<n/\st+n<=rows.length/\k+vs.length<=sz/\
    ∀H',H'=H.set l (.vec sz (rows.set (st+i) (D5 (rows.getD (st+i) []) k vs)))->K .unk H'
  |_=>False
 |_=>False
def appQ (H:Heap)(sz:Nat)(a b:C)(K:V->Heap->Prop):Prop:=
 aW H b/\b.aO=sz/\match a with
 |.sl true z rows=>z=sz/\(rows=[]\/rowsOf H b≠[])/\(∀r∈rows++rowsOf H b,ak r=true)/\rows.length+ax b<=LIM/\
   ∀l,H l=.none->∀H',H'=H.set l (.vec sz (rows++rowsOf H b))->K (.c (.ai l sz 0 (rows.length+ax b))) H'
 |.ai l z st n=>match H l with
  |.vec y rows=>z=sz/\y=sz/\st+n<=rows.length/\(∀r∈rowsOf H b,ak r=true)/\n+ax b<=LIM/\
    ∀l',(H.set l .none) l'=.none->∀H',H'=(H.set l .none).set l' (.vec sz ((rows.drop st).take n++rowsOf H b))->
     K (.c (.ai l' sz 0 (n+ax b))) H'
  |_=>False
 |_=>False
def updQ (H:Heap)(tag:Nat)(m k:C)(v:V)(K:V->Heap->Prop):Prop:=
 match m with
 |.mp l=>match H l with
  |.map n es=>BX tag k es/\es.length+1<=LIM/\∀H',H'=H.set l (.map (n+1) (updE k v es))->K .unk H'
  |_=>False
 |_=>False
def delQ (H:Heap)(tag:Nat)(m k:C)(K:V->Heap->Prop):Prop:=
 match m with
 |.mp l=>match H l with
  |.map n es=>BX tag k es/\∀H',H'=H.set l (.map (n+1) (delE k es))->K .unk H'
  |_=>False
 |.mnil=>BX tag k []/\K .unk H
 |_=>False
theorem BG {α:Type}{a:α}{p:α->Prop}:(∀x,x=a->p x)=p a:=propext ⟨λh=>h a rfl,λh x hx=>hx▸h⟩
section
variable {p:Bool}{K:Uk}
theorem Qboh {a:C}{vs:List C}:Cw H a vs K=D4 H a vs K:=by
 cases a with
 |ptr l k=>simp only[Cw,D4];cases hh:H l <;> simp only[hh,BG]
 |ep s z i k=>
  cases s with
  |ai l sz st n=>simp only[Cw,D4];cases hh:H l <;> simp only[hh,BG]
  |_=>rfl
 |_=>rfl
theorem VR {sz:Nat}{a b:C}:appT H sz a b K=appQ H sz a b K:=by
 unfold appT appQ;refine congrArg (And _) (congrArg (And _) ?_)
 cases a with
 |sl fl z rows=>cases fl <;> simp only[BG]
 |ai l z st n=>simp only[];cases hh:H l <;> simp only[hh,BG]
 |_=>rfl
theorem Tx {tag:Nat}{m k:C}{v:V}:updT H tag m k v K=updQ H tag m k v K:=by
 cases m with
 |mp l=>simp only[updT,updQ];cases hh:H l <;> simp only[hh,BG]
 |_=>rfl
theorem Xa {tag:Nat}{m k:C}:delT H tag m k K=delQ H tag m k K:=by
 cases m with
 |mp l=>simp only[delT,delQ];cases hh:H l <;> simp only[hh,BG]
 |_=>rfl
theorem Qbje {cells:List C}:(EOp.alloc cells).eff P p e H K=∀l,H l=.none->∀H',H'=H.set l (.st cells)->K (Up l) H':=Zap
theorem Qbo2 {a:Opd}:(EOp.boxm a).eff P p e H K=(a.fine p e/\(a.v e).cells≠[]/\∀l,H l=.none->∀H',H'=H.set l (.st (a.v e).cells)->K (Up l) H'):=Zap
theorem V5 {n:Nat}{a v:Opd}:(EOp.sto n a v).eff P p e H K=(a.fine p e/\v.fine p e/\(a.v e).isC/\(v.v e).cells.length=n/\0<n/\D4 H (a.v e).c1 (v.v e).cells K):=by simp only[EOp.eff,Qboh]
theorem VD {sz:Nat}{a b:Opd}:(EOp.app sz a b).eff P p e H K=(a.fine p e/\b.fine p e/\(a.v e).isC/\(b.v e).isC/\appQ H sz (a.v e).c1 (b.v e).c1 K):=by simp only[EOp.eff,VR]
theorem V8 {sz:Nat}{zero:List C}{n:Opd}:(EOp.mks sz zero n).eff P p e H K=(n.fine p e/\Cl (n.v e)/\0<=AB (n.v e)/\AB (n.v e)<=LIM/\
   ∀l,H l=.none->∀H',H'=H.set l (.vec sz (List.replicate (AB (n.v e)).toNat zero))->K (.c (.ai l sz 0 (AB (n.v e)).toNat)) H'):=Zap
theorem V9:EOp.mkm.eff P p e H K=∀l,H l=.none->∀H',H'=H.set l (.map 0 [])->K (.c (.mp l)) H':=Zap
theorem V4 {tag:Nat}{m k v:Opd}:(EOp.upd tag m k v).eff P p e H K=(m.fine p e/\k.fine p e/\v.fine p e/\(m.v e).isC/\(k.v e).isC/\(v.v e).cells≠[]/\updQ H tag (m.v e).c1 (k.v e).c1 (v.v e) K):=by simp only[EOp.eff,Tx]
theorem VB {tag:Nat}{m k:Opd}:(EOp.del tag m k).eff P p e H K=(m.fine p e/\k.fine p e/\(m.v e).isC/\(k.v e).isC/\delQ H tag (m.v e).c1 (k.v e).c1 K):=by simp only[EOp.eff,Xa]
theorem Qbo5 {m:Opd}:(EOp.clrm m).eff P p e H K=(m.fine p e/\match m.v e with
  |.c (.mp l)=>match H l with
   |.map n _=>∀H',H'=H.set l (.map (n+1) [])->K .unk H'
   |_=>False
  |_=>False):=by
 simp only[EOp.eff];refine congrArg (And _) ?_
 cases m.v e with
 |c x=>cases x with
  |mp l=>simp only[];cases hh:H l <;> simp only[hh,BG]
  |_=>rfl
 |_=>rfl
theorem Qbo6 {sz:Nat}{zero:List C}{m:Opd}:(EOp.clrs sz zero m).eff P p e H K=(m.fine p e/\match m.v e with
  |.c (.ai l z st n)=>z=sz/\match H l with
   |.vec y rows=>y=sz/\st+n<=rows.length/\∀H',H'=H.set l (.vec sz (rows.take st++List.replicate n zero++rows.drop (st+n)))->K .unk H'
   |_=>False
  |_=>False):=by
 simp only[EOp.eff];refine congrArg (And _) ?_
 cases m.v e with
 |c x=>cases x with
  |ai l z st n=>simp only[];refine congrArg (And _) ?_;cases hh:H l <;> simp only[hh,BG]
  |_=>rfl
 |_=>rfl
theorem Qbo4 {f:Nat}{args:List Opd}:(EOp.call f args).eff P p e H K=((∀x∈args,x.fine p e)/\Qv P f (args.map λx=>x.v e) H K):=rfl
theorem Qbjf {f:Opd}{args:List Opd}:(EOp.ft f args).eff P p e H K=(f.fine p e/\(∀x∈args,x.fine p e)/\match f.v e with
  |.c (.fn n caps)=>Qv P n ((args.map λx=>x.v e)++caps.map .c) H K
  |_=>False):=rfl
theorem V6 {m:Opd}:(EOp.rng m).eff P p e H K=(m.fine p e/\match m.v e with
  |.c (.mp l)=>match H l with
   |.map n es=>es.Nodup/\∀i,H i=.none->∀H',H'=H.set i (.iter (some (l,n)) es none)->K (.c (.itr i)) H'
   |_=>False
  |.c .mnil=>∀i,H i=.none->∀H',H'=H.set i (.iter none [] none)->K (.c (.itr i)) H'
  |_=>False):=by
 simp only[EOp.eff];refine congrArg (And _) ?_
 cases m.v e with
 |c x=>cases x with
  |mp l=>simp only[];cases hh:H l <;> simp only[hh,BG]
  |mnil=>simp only[BG]
  |_=>rfl
 |_=>rfl
theorem Qbo9 {a:Opd}:(EOp.rngs a).eff P p e H K=(a.fine p e/\match a.v e with
  |.c (.str s)=>∀i,H i=.none->∀H',H'=H.set i (.sit s 0)->K (.c (.itr i)) H'
  |_=>False):=by
 simp only[EOp.eff];refine congrArg (And _) ?_
 cases a.v e with
 |c x=>cases x with
  |str s=>simp only[BG]
  |_=>rfl
 |_=>rfl
theorem Qbo8 {it:Opd}:(EOp.nxts it).eff P p e H K=(it.fine p e/\match it.v e with
  |.c (.itr i)=>match H i with
   |.sit s q=>(s.length<=q->K (.tup [.c (.bool false)]) H)/\
     ∀(c:Int) (wd:Nat),q<s.length->1<=wd->((s.getD q 0).toNat<128->c=((s.getD q 0).toNat:Int)/\wd=1)->(128<=(s.getD q 0).toNat->128<=c)->
      ∀H',H'=H.set i (.sit s (q+wd))->K (.tup [.c (.bool true),Uv q,.c (.int .i32 c)]) H'
   |_=>False
  |_=>False):=by
 simp only[EOp.eff];refine congrArg (And _) ?_
 cases it.v e with
 |c x=>cases x with
  |itr i=>
   simp only[];cases hh:H i <;> simp only[BG]
  |_=>rfl
 |_=>rfl
theorem V7 {it:Opd}:(EOp.nxt it).eff P p e H K=(it.fine p e/\match it.v e with
  |.c (.itr i)=>match H i with
   |.iter none left _=>K (.tup [.c (.bool false)]) H
   |.iter (some (l,n)) left cur=>(∃es,H l=.map n es)/\(left=[]->K (.tup [.c (.bool false)]) H)/\
     ∀x left',x∈left->(∀y,y∈left'↔y∈left/\y≠x)->left'.Nodup->left'.length+1=left.length->
      ∀H',H'=H.set i (.iter (some (l,n)) left' (some x))->K (.tup [.c (.bool true),.c x.1,x.2]) H'
   |_=>False
  |_=>False):=by
 simp only[EOp.eff];refine congrArg (And _) ?_
 cases it.v e with
 |c x=>cases x with
  |itr i=>
   simp only[]
   cases hh:H i with
   |iter m left cur=>cases m with
    |none=>rfl
    |some y=>simp only[BG]
   |_=>rfl
  |_=>rfl
 |_=>rfl
theorem VA {it:Opd}:(EOp.ent it).eff P p e H K=(it.fine p e/\match it.v e with
  |.c (.itr i)=>match H i with
   |.iter (some (l,n)) left (some x)=>(∃es,H l=.map n es)/\K (.tup [.c x.1,x.2]) H
   |_=>False
  |_=>False):=rfl
def cpyQ (H:Heap)(sz:Nat)(a b:C)(K:V->Heap->Prop):Prop:=
 aW H b/\b.aO=sz/\match a with
 |.ai l z st n=>match H l with
  |.vec y rows=>z=sz/\y=sz/\st+n<=rows.length/\ax b<=n/\(∀r∈rowsOf H b,ak r=true)/\
    ∀H',H'=H.set l (.vec sz (rows.take st++rowsOf H b++rows.drop (st+ax b)))->K (.c (.int .i64 (ax b))) H'
  |_=>False
 |_=>False
theorem Xb {sz:Nat}{a b:C}:cpyT H sz a b K=cpyQ H sz a b K:=by
 unfold cpyT cpyQ;refine congrArg (And _) (congrArg (And _) ?_)
 cases a with
 |ai l z st n=>simp only[];cases hh:H l <;> simp only[hh,BG]
 |_=>rfl
theorem VC {sz:Nat}{a b:Opd}:(EOp.cpy sz a b).eff P p e H K=(a.fine p e/\b.fine p e/\(a.v e).isC/\(b.v e).isC/\cpyQ H sz (a.v e).c1 (b.v e).c1 K):=by simp only[EOp.eff,Xb]
theorem Qbo3 {sz:Nat}{parts:List Opd}:(EOp.bslm sz parts).eff P p e H K=((∀x∈parts,x.fine p e/\(x.v e).cells.length=sz)/\∀l,H l=.none->∀H',H'=H.set l (.vec sz (parts.map λx=>(x.v e).cells))->K (.c (.ai l sz 0 parts.length)) H'):=Zap
theorem Qbo7 {a:Opd}:(EOp.nilq a).eff P p e H K=(a.fine p e/\match a.v e with
  |.c (.sl _ _ rows)=>∀b:Bool,(b=true->rows=[])->K (.c (.bool b)) H
  |_=>False):=rfl
end
theorem Qbpq {k:IntKind}{n:Int}:(C.int k n).ah=false:=rfl
theorem Qbjz {b:Bool}:(C.bool b).ah=false:=rfl
theorem Qbpv {s:List UInt8}:(C.str s).ah=false:=rfl
theorem VM {f:Bool}{sz:Nat}{r:List (List C)}:(C.sl f sz r).ah=false:=rfl
theorem VN {c:List C}:(C.pp c).ah=false:=rfl
theorem Vt {c:C}{a i k:Nat}:(C.ep c a i k).ah=false:=rfl
theorem Qbj2:C.pnil.ah=false:=rfl
theorem Qbps {l k:Nat}:(C.ptr l k).ah=false:=rfl
theorem EA {l a b c:Nat}:(C.ai l a b c).ah=false:=rfl
theorem Vr {l:Nat}:(C.mp l).ah=false:=rfl
theorem Qbj1:C.mnil.ah=false:=rfl
theorem Qbpu {n:Nat}:(C.stb n).ah=false:=rfl
theorem Qbpt {n:Nat}:(C.slb n).ah=false:=rfl
theorem Vu {a:Bool}{k:List C}{r:List (List C)}:(C.cm a k r).ah=false:=rfl
theorem Vs {f:Nat}{c:List C}:(C.fn f c).ah=false:=rfl
theorem Qbj0:C.fnil.ah=false:=rfl
theorem Qbpr {l:Nat}:(C.itr l).ah=false:=rfl
theorem YZ:C.unk.ah=false:=rfl
theorem VO {sz:Nat}{r:List (List C)}:(C.ow sz r).ah=true:=rfl
theorem Vb {f:Bool}{sz:Nat}{r:List (List C)}:ax (.sl f sz r)=r.length:=rfl
theorem Y9 {l a b c:Nat}:ax (.ai l a b c)=c:=rfl
theorem Qbjg {f:Bool}{sz:Nat}{r:List (List C)}:(C.sl f sz r).aO=sz:=rfl
theorem Qbe6 {l a b c:Nat}:(C.ai l a b c).aO=a:=rfl
theorem Qbmg {f:Bool}{sz:Nat}{r:List (List C)}:rowsOf H (.sl f sz r)=r:=rfl
theorem Qbgf {l a st n:Nat}:rowsOf H (.ai l a st n)=match H l with
  |.vec _ rows=>(rows.drop st).take n
  |_=>[]:=rfl
theorem TO {f:Bool}{sz:Nat}{r:List (List C)}:aW H (.sl f sz r)=True:=rfl
theorem Yl {l sz st n:Nat}:aW H (.ai l sz st n)=match H l with
  |.vec z rows=>z=sz/\st+n<=rows.length
  |_=>False:=rfl
section
variable {K:Uk}
theorem VQ {sz z:Nat}{rows:List (List C)}{b:C}:appQ H sz (.sl true z rows) b K=(aW H b/\b.aO=sz/\z=sz/\(rows=[]\/rowsOf H b≠[])/\(∀r∈rows++rowsOf H b,ak r=true)/\rows.length+ax b<=LIM/\
   ∀l,H l=.none->∀H',H'=H.set l (.vec sz (rows++rowsOf H b))->K (.c (.ai l sz 0 (rows.length+ax b))) H'):=rfl
theorem Qbov {sz l z st n:Nat}{b:C}:appQ H sz (.ai l z st n) b K=(aW H b/\b.aO=sz/\match H l with
  |.vec y rows=>z=sz/\y=sz/\st+n<=rows.length/\(∀r∈rowsOf H b,ak r=true)/\n+ax b<=LIM/\
    ∀l',(H.set l .none) l'=.none->∀H',H'=(H.set l .none).set l' (.vec sz ((rows.drop st).take n++rowsOf H b))->
     K (.c (.ai l' sz 0 (n+ax b))) H'
  |_=>False):=rfl
end
theorem T9 {lo hi:Option Int}{fl:Bool}{sz:Nat}{rows:List (List C)}:sliC lo hi (.sl fl sz rows)=.sl (fl&&(hi.isNone || rows.isEmpty)) sz ((rows.take (hi.getD rows.length).toNat).drop (lo.getD 0).toNat):=rfl
theorem Xv {lo hi:Option Int}{l sz st n:Nat}:sliC lo hi (.ai l sz st n)=.ai l sz (st+(lo.getD 0).toNat) ((hi.getD n).toNat-(lo.getD 0).toNat):=rfl
attribute [go_sem] VC cpyQ T4 Xq FJ Qbog Xp b_f b_t Qbpl Qbjv Qbjw Vw regT BP Bt lk Qbph Qbpg Qbpi Qbpj gdO gdB Opd.v Opd.raw Opd.fine V.bare V.fine FOp.val FOp.obl FOp.fct Qbje Qbo2 V5 VD V8 V9 V4 VB Qbo5 Qbo6 Qbo4 Qbjf V6 V7 Qbo9 Qbo8 VA Qbo7 Qbo3 Xk Qbol
 V.c1 V.isC V.isAg V.cells C4 CN fadC binC binO Cy ak D4 VQ Qbov updQ delQ zipE GO T9 Xv bnds TO Yl Vb Y9 Qbmg Qbgf Qbjg Qbe6 Qbpq Qbjz Qbpv VM VN Vt Qbj2 Qbps EA Vr Qbj1 Qbpu Qbpt Vu Vs Qbj0 Qbpr YZ VO Cl DU AB DS Xj Qbji Qbon Qbe8 Sp RO RN Sg
 S0 Sz T8 Tc Tb Vy Jq J7 D5 List.take_succ_cons List.take_zero List.take_nil List.drop_succ_cons Jac List.drop_nil
 List.length_cons Jak J3 J6 List.headD_cons Bool.not_false Bool.not_true Bool.and_true Bool.true_and Bool.and_false Bool.false_and and_self eq_self Bool.false_eq_true Jy Jr Jaw Jav not_true_eq_false not_false_eq_true ite_true ite_false ne_eq Option.map_some Option.map_none Option.getD_some Option.getD_none Option.isNone_some Option.isNone_none List.isEmpty_nil List.isEmpty_cons Bool.or_true Bool.true_or Bool.or_false Bool.false_or optI optF Int.toNat_natCast Int.natCast_nonneg Int.add_sub_cancel List.forall_mem_cons Qa5y
end Go.AE
namespace Go.AE
abbrev fI (d : Nat) (o : FOp) : Item := .f (some d) none o
abbrev eI (d : Nat) (o : EOp) : Item := .e (some d) none o
abbrev gT (d t : Nat) (o : FOp) : Item := .f (some d) (some (t, true)) o
abbrev gF (d t : Nat) (o : FOp) : Item := .f (some d) (some (t, false)) o
abbrev kI (n : Int) : Opd := .k (.c (.int .i64 n))
abbrev mJ (d a : Nat) : Item := .f (some d) none (.mv (.t a))
abbrev fJ (d n a : Nat) : Item := .f (some d) none (.fad n (.t a))
abbrev lJ (d a : Nat) : Item := .f (some d) none (.ld 1 false (.t a))
abbrev tJ (d n a : Nat) : Item := .f (some d) none (.ld n true (.t a))
abbrev nJ (d a : Nat) : Item := .f (some d) none (.len (.t a))
abbrev kJ (d a : Nat) : Item := .f (some d) none (.nck (.t a))
abbrev oJ (d a : Nat) : Item := .f (some d) none (.not (.t a))
abbrev iJ (d n a b : Nat) : Item := .f (some d) none (.iad n (.t a) (.t b))
abbrev bJ (d : Nat) (o : BinOp) (a b : Nat) : Item := .f (some d) none (.bin 0 o (.t a) (.t b))
abbrev cJ (d : Nat) (o : BinOp) (a : Nat) (n : Int) : Item := .f (some d) none (.bin 0 o (.t a) (.k (.c (.int .i64 n))))
abbrev gTm (d g a : Nat) : Item := .f (some d) (some (g, true)) (.mv (.t a))
abbrev gFm (d g a : Nat) : Item := .f (some d) (some (g, false)) (.mv (.t a))
abbrev gTf (d g n a : Nat) : Item := .f (some d) (some (g, true)) (.fad n (.t a))
abbrev gFf (d g n a : Nat) : Item := .f (some d) (some (g, false)) (.fad n (.t a))
abbrev gTl (d g a : Nat) : Item := .f (some d) (some (g, true)) (.ld 1 false (.t a))
abbrev gFl (d g a : Nat) : Item := .f (some d) (some (g, false)) (.ld 1 false (.t a))
abbrev aJ (d f : Nat) (l : List Opd) : Item := .e (some d) none (.call f l)
abbrev sJ (k a b : Nat) : Item := .e none none (.sto k (.t a) (.t b))
abbrev fB (d : Nat) (b : Bool) : Item := .f (some d) none (.mv (.k (.c (.bool b))))
abbrev zJ (d : Nat) (n : Int) : Item := .f (some d) none (.mv (.k (.c (.int .i64 n))))
abbrev hJ (d a : Nat) : Item := .chk d none (.ld 1 false (.t a))
abbrev pT (d a b : Nat) : Item := .f (some d) none (.pick (.t a) (.k (.c (.bool true))) (.t b))
abbrev pF (d a b : Nat) : Item := .f (some d) none (.pick (.t a) (.t b) (.k (.c (.bool false))))
abbrev xJ (d k a b : Nat) : Item := .e (some d) none (.app k (.t a) (.t b))
abbrev vJ (d a : Nat) : Item := .f (some d) none (.box (.t a))
abbrev sR (l : List Item) (k : List Nat) (n : SC) : SC := .seq (.reg l k) n
abbrev cX (t i : Nat) (n : SC) : SC := .seq (.cond (.t t) .skip (.exit i)) n
abbrev bL (i : Nat) (l : SC) : SC := .block i (.loop l)
abbrev cT (t : Nat) (a b : SC) : SC := .cond (.t t) a b
theorem Sx : Int.toNat 0 = 0 := rfl
theorem Sw : Int.toNat 1 = 1 := rfl
theorem T3 : Int.toNat 2000 = 2000 := rfl
attribute [go_sem] sJ fB zJ hJ pT pF xJ vJ mJ fJ lJ tJ nJ kJ oJ iJ bJ cJ gTm gFm gTf gFf gTl gFl aJ fI eI gT gF kI false_implies Sx Sw T3
universe u
variable {α:Sort u}
def fc (n:Nat)(k:Nat->α):α:=
 match n with
 |0=>k 0
 |m+1=>k (m+1)
def dK (n:Nat)(k:Opd->Nat->α):α:=fc n λn=>
 match n % 16 with
 |0=>k (.k (.c (.int .i64 0))) (n / 16)
 |1=>k (.k (.c (.int .i64 1))) (n / 16)
 |2=>k (.k (.c (.bool false))) (n / 16)
 |3=>k (.k (.c (.bool true))) (n / 16)
 |4=>k (.k (.c (.sl true (n / 16 % 16) []))) (n / 256)
 |5=>k (.t (n / 16 % 256)) (n / 4096)
 |6=>k (.k (.c (.int .i64 (n / 16 % 256:Nat)))) (n / 4096)
 |7=>k (.k (.c (.int .i64 (-1)))) (n / 16)
 |8=>k (.k (.c .pnil)) (n / 16)
 |9=>k (.k (.c (.int .i64 (n / 16 % 65536:Nat)))) (n / 1048576)
 |10=>k (.k (.c .fnil)) (n / 16)
 |_=>k (.k (.c .mnil)) (n / 16)
def dO (d n:Nat)(k:Opd->Nat->α):α:=fc n λn=>
 match n / 8 % 2 with
 |0=>k (.t (d-1-n % 8)) (n / 16)
 |_=>match n % 8 with
  |0=>k (.t (n / 16 % 16)) (n / 256)
  |1=>k (.t (16+n / 16 % 16)) (n / 256)
  |2=>k (.t (32+n / 16 % 16)) (n / 256)
  |3=>k (.t (48+n / 16 % 16)) (n / 256)
  |4=>k (.t (64+n / 16 % 16)) (n / 256)
  |5=>k (.t (80+n / 16 % 16)) (n / 256)
  |6=>k (.t (96+n / 16 % 16)) (n / 256)
  |_=>dK (n / 16) k
def dOs:Nat->Nat->Nat->(List Opd->Nat->α)->α
 |0,_,n,k=>k [] n
 |c+1,d,n,k=>dO d n λx n=>dOs c d n λl n=>k (x::l) n
def dP (n:Nat)(k:BinOp->α):α:=
 match n % 16 with
 |0=>k .add
 |1=>k .sub
 |2=>k .eql
 |3=>k .neq
 |4=>k .lss
 |5=>k .leq
 |6=>k .gtr
 |7=>k .geq
 |8=>k .mul
 |9=>k .quo
 |10=>k .rem
 |11=>k .and
 |12=>k .or
 |_=>k .xor
def dC:Nat->Nat->(List C->Nat->α)->α
 |0,n,k=>k [] n
 |c+1,n,k=>fc n λn=>match n % 16 with
  |0=>dC c (n / 16) λl n=>k (.int .i64 0::l) n
  |1=>dC c (n / 16) λl n=>k (.str []::l) n
  |2=>dC c (n / 16) λl n=>k (.bool false::l) n
  |3=>dC c (n / 16) λl n=>k (.pnil::l) n
  |4=>dC c (n / 16) λl n=>k (.mnil::l) n
  |5=>dC c (n / 16) λl n=>k (.fnil::l) n
  |6=>dC c (n / 16) λl n=>k (.int .u8 0::l) n
  |_=>dC c (n / 256) λl m=>k (.sl true (n / 16 % 16) []::l) m
def dPt:Nat->Nat->Nat->(List (Nat×Nat×Opd)->Nat->α)->α
 |0,_,n,k=>k [] n
 |c+1,d,n,k=>dO d (n / 256) λx m=>dPt c d m λl m=>k ((n % 16,n / 16 % 16,x)::l) m
def dF (t d n:Nat)(k:FOp->Nat->α):α:=fc n λn=>
 match t with
 |0=>dO d n λa n=>k (.mv a) n
 |1=>dO d n λa n=>k (.ld 1 false a) n
 |2=>dO d (n / 16) λa m=>k (.fad (n % 16) a) m
 |3=>dO d (n / 16) λa m=>dO d m λi m=>k (.iad (n % 16) a i) m
 |4=>dO d (n / 16) λa m=>dO d m λb m=>dP n λo=>k (.bin 0 o a b) m
 |5=>dO d n λa n=>k (.len a) n
 |6=>dO d (n / 16) λa m=>k (.ld (n % 16) true a) m
 |7=>dO d n λa n=>k (.nck a) n
 |8=>dO d n λa n=>k (.not a) n
 |9=>dO d n λa n=>k (.box a) n
 |10=>dO d n λa n=>dO d n λb n=>dO d n λc n=>k (.pick a b c) n
 |11=>dO d (n / 16) λa m=>k (.ext a (n % 16)) m
 |12=>dOs (n / 16 % 16) d (n / 256) λl m=>k (.kO (n % 16) l) m
 |13=>dC (n % 16) (n / 16) λz m=>dPt (m % 16) d (m / 16) λl m=>k (.bld z l) m
 |14=>dOs (n / 256 % 16) d (n / 4096) λl m=>k (.mkf (n % 256) l) m
 |_=>dO d (n / 256) λa m=>dO d m λb m=>dP (n / 16) λo=>k (.bin (n % 16) o a b) m
def dE (t d n:Nat)(k:EOp->Nat->α):α:=fc n λn=>
 match t with
 |0=>dOs (n / 256 % 16) d (n / 4096) λl m=>k (.call (n % 256) l) m
 |1=>dO d (n / 16) λa m=>dO d m λb m=>k (.sto (n % 16) a b) m
 |2=>dO d (n / 16) λa m=>dO d m λb m=>k (.app (n % 16) a b) m
 |3=>dC (n % 16) (n / 16) λz m=>k (.alloc z) m
 |4=>dO d (n / 16) λa m=>dOs (n % 16) d m λl m=>k (.ft a l) m
 |_=>dO d n λa m=>k (.boxm a) m
def gdD (n:Nat):Option (Nat×Bool):=some (n / 2,match n % 2 with
 |0=>false
 |_=>true)
def gx {β:Type}(d:β):List β->Nat->β
 |[],_=>d
 |x::_,0=>x
 |_::l,n+1=>gx d l n
def dI (is:List Item)(d n:Nat)(k:Item->Nat->Nat->α):α:=fc n λn=>
 match n % 16 with
 |13=>dE 0 d (n / 16) λo m=>k (.e (some d) none o) (d+1) m
 |14=>dE 1 d (n / 16) λo m=>k (.e none none o) d m
 |15=>match n / 16 % 16 with
  |0=>dF (n / 256 % 16) d (n / 2^20) λo m=>k (.f (some d) (gdD (n / 4096 % 256)) o) (d+1) m
  |1=>dF (n / 256 % 16) d (n / 2^12) λo m=>k (.f (some d) none o) (d+1) m
  |2=>dE (n / 256 % 16) d (n / 2^12) λo m=>k (.e (some d) none o) (d+1) m
  |3=>dE (n / 256 % 16) d (n / 2^20) λo m=>k (.e (some d) (gdD (n / 4096 % 256)) o) (d+1) m
  |4=>dF (n / 256 % 16) d (n / 2^20) λo m=>k (.chk (n / 4096 % 256) none o) d m
  |5=>dF (n / 256 % 16) d (n / 2^28) λo m=>k (.chk (n / 4096 % 256) (gdD (n / 2^20 % 256)) o) d m
  |6=>dE (n / 256 % 16) d (n / 2^20) λo m=>k (.e none (gdD (n / 4096 % 256)) o) d m
  |7=>k (gx (.e none none .mkm) is (n / 256 % 16)) d (n / 4096)
  |_=>k (gx (.e none none .mkm) is (n / 256 % 16)) (d+1) (n / 4096)
 |t=>dF t d (n / 16) λo m=>k (.f (some d) none o) (d+1) m
def dJ (is:List Item)(d n:Nat)(k:Item->Nat->Nat->α):α:=fc n λn=>
 match n % 256 with
 |159=>dI is (n / 256 % 256) (n / 65536) k
 |_=>dI is d n k
def dL (ts:List (List Item))(is:List Item):Nat->Nat->Nat->(List Item->Nat->α)->α
 |0,_,n,k=>match n % 16 with
  |0=>k [] (n / 16)
  |t=>k (gx [] ts (t-1)) (n / 16)
 |c+1,d,n,k=>dJ is d n λx d n=>dL ts is c d n λl n=>k (x::l) n
def dQ (n:Nat)(k:Nat->Nat->α):α:=fc n λn=>
 match n % 16 with
 |15=>k (n / 16 % 256) (n / 4096)
 |c=>k c (n / 16)
def dLs (ts:List (List Item))(is:List Item)(n:Nat)(k:List Item->Nat->α):α:=
 dQ n λc n=>dL ts is c (n % 256) (n / 256) k
def dN:Nat->Nat->Nat->(List Nat->Nat->α)->α
 |0,_,n,k=>k [] n
 |c+1,d,n,k=>fc n λn=>match n % 16 with
  |15=>dN c (n / 16 % 256+1) (n / 4096) λl m=>k ((n / 16 % 256)::l) m
  |x=>dN c (d+x+1) (n / 16) λl m=>k ((d+x)::l) m
def dR:Nat->Nat->List Nat
 |0,_=>[]
 |c+1,i=>i::dR c (i+1)
def dX:Nat->Nat->(List Nat->Nat->α)->α
 |0,n,k=>k [] n
 |c+1,n,k=>fc n λn=>dX c (n / 256) λl m=>k ((n % 256)::l) m
def dS (cs:List SC)(ts:List (List Item))(is:List Item):Nat->Nat->(SC->Nat->α)->α
 |0,n,k=>k .skip n
 |f+1,n,k=>fc n λn=>match n % 16 with
  |0=>dLs ts is (n / 16) λl m=>dQ m λc m=>dN c 0 m λkp m=>k (.reg l kp) m
  |1=>dLs ts is (n / 16) λl m=>dQ m λc m=>dN c 0 m λkp m=>dS cs ts is f m λb m=>k (.seq (.reg l kp) b) m
  |2=>dS cs ts is f (n / 16) λa m=>dS cs ts is f m λb m=>k (.seq a b) m
  |3=>dS cs ts is f (n / 4096) λa m=>dS cs ts is f m λb m=>k (.cond (.t (n / 16 % 256)) a b) m
  |4=>dS cs ts is f (n / 4096) λa m=>k (.block (n / 16 % 256) a) m
  |5=>dS cs ts is f (n / 16) λa m=>k (.loop a) m
  |6=>k (.exit (n / 16 % 256)) (n / 4096)
  |7=>k .ret (n / 16)
  |8=>k .skip (n / 16)
  |9=>k (gx .skip cs (n / 16 % 16)) (n / 256)
  |10=>dX (n / 4096 % 256) (n / 2^20) λo m=>dLs ts is m λl m=>dQ m λc m=>dN c 0 m λkp m=>k (.jL (n / 16 % 256) o l kp) m
  |11=>dS cs ts is f (n / 2^20) λb m=>k (.seq (.cond (.t (n / 16 % 256)) .skip (.exit (n / 4096 % 256))) b) m
  |12=>dS cs ts is f (n / 16) λa m=>k (.scope a) m
  |13=>k .gh (n / 16)
  |15=>dQ (n / 4096) λc m=>dLs ts is m λl m=>dQ m λc' m=>dN c' 0 m λkp m=>k (.jL (n / 16 % 256) (dR c 0) l kp) m
  |_=>dOs 1 0 (n / 16) λt m=>dS cs ts is f m λa m=>dS cs ts is f m λb m=>k (.cond (t.headD (.t 0)) a b) m
def Pz (a b:α):Prop:=a=b
theorem dcI {n:Nat}:((no_index (OfNat.ofNat n):Nat):Int)=OfNat.ofNat n:=rfl
abbrev dW (n:Nat)(cs:List SC)(ts:List (List Item))(is:List Item:=[]){c:SC}
  (h:Pz (dS cs ts is 40 n (λc _=>c)) c:=by
   conv=>arg 1;whnf
   dsimp only[gdD,gx,dR,List.headD_cons,Nat.reduceMod,Nat.reduceDiv,Nat.reduceAdd,Nat.reduceSub,Nat.reducePow,dcI];exact rfl):SC:=c
abbrev dZ (n:Nat)(a:SC:=.skip)(t:List Item:=[])(b:SC:=.skip){c:SC}
  (h:Pz (dS [a,b] [t] [] 40 n (λc _=>c)) c:=by
   conv=>arg 1;whnf
   dsimp only[gdD,gx,dR,List.headD_cons,Nat.reduceMod,Nat.reduceDiv,Nat.reduceAdd,Nat.reduceSub,Nat.reducePow,dcI];exact rfl):SC:=c
abbrev dY (n:Nat)(t:List Item:=[])(is:List Item:=[]){c:List Item}
  (h:Pz (dLs [t] is n (λc _=>c)) c:=by
   conv=>arg 1;whnf
   dsimp only[gdD,gx,dR,List.headD_cons,Nat.reduceMod,Nat.reduceDiv,Nat.reduceAdd,Nat.reduceSub,Nat.reducePow,dcI];exact rfl):List Item:=c
attribute [go_sem] dZ dY dW
end Go.AE
namespace Go.AE
variable {P:Program}{H:Heap}{g:G}{w:World}{e:Env}
def Obj.used:Obj->Bool
 |.none=>false
 |_=>true
def Heap.frz (H:Heap)(S:Nat->Bool):Heap:=λl=>if S l then .none else H l
def G.frz (g:G)(H:Heap)(S:Nat->Bool):G:=
 { g with
  per:=λb=>g.per b || (match g.own b with
   |some (l,_)=>S l&&(H l).used
   |none=>false)
  own:=λb=>match g.own b with
   |some (l,p)=>if S l&&(H l).used then none else some (l,p)
   |none=>none }
theorem HL (H:Heap)(S:Nat->Bool)(g:G)(w:World):Le g w (g.frz H S) w:=
 ⟨λb h=>⟨by simp[G.frz,h],rfl⟩,λ_ _ h=>h,Jav _,λ_ _ _ h=>h,rfl,rfl,rfl⟩
theorem Hc {S:Nat->Bool}{m:Nat}(hm:¬(S m=true/\(H m).used=true)):Da g w (g.frz H S) w m:=by
 intro b q hb;refine⟨?_,rfl⟩;have:¬(S m&&(H m).used)=true:=ZaV
 simp only[G.frz,hb];rw[if_neg this]
theorem Fz (hs:Sat H g w)(S:Nat->Bool):Stp H g w (H.frz S) (g.frz H S) w:=by
 have aR:=HL H S g w;refine⟨aR,λm hm hn=>?_,⟨λb hb=>?_,hs.names,λb x hb=>?_,λb m p hb=>?_,λm=>?_⟩⟩
 ·refine⟨by simp only[Heap.frz,hn];split <;> rfl,?_⟩;exact Hc (by rw[hn];simp[Obj.used])
 ·obtain⟨h1,h2⟩:=hs.fresh b hb;simp[G.frz,h1,h2]
 ·have aT:(match g.own b with
   |some (l,p)=>if S l&&(H l).used then none else some (l,p)
   |none=>none)=some x:=hb
  show (g.per b || (match g.own b with
   |some (l,_)=>S l&&(H l).used
   |none=>false))=false
  cases ho:g.own b with
  |none=>rw[ho]at aT;simp at aT
  |some y=>
   obtain⟨l,p⟩:=y;rw[ho]at aT;simp only at aT⊢;have:=hs.excl b _ ho;by_cases hx:(S l&&(H l).used)=true
   ·rw[if_pos hx]at aT;simp at aT
   ·simp[this,hx]
 ·have aT:(match g.own b with
   |some (l,p)=>if S l&&(H l).used then none else some (l,p)
   |none=>none)=some (m,p):=hb
  cases ho:g.own b with
  |none=>rw[ho]at aT;simp at aT
  |some y=>
   obtain⟨l,q⟩:=y;rw[ho]at aT;simp only at aT;by_cases hx:(S l&&(H l).used)=true
   ·rw[if_pos hx]at aT;simp at aT
   ·rw[if_neg hx]at aT;simp at aT;obtain⟨rfl,rfl⟩:=aT;exact hs.named b _ _ ho
 ·by_cases hS:S m=true
  ·simp[Heap.frz,hS,SatObj]
  ·have dG:H.frz S m=H m:=by simp[Heap.frz,hS]
   have hk:Da g w (g.frz H S) w m:=Hc (by simp[hS]);refine SatObj.keep (H':=H.frz S) hs aR hk dG λm' v left cur hc v' es hv=>?_;by_cases mM:S m'=true
   ·simp[Heap.frz,mM]at hv
   ·have:H.frz S m'=H m':=(by simp[Heap.frz,mM]);rw[this]at hv;exact .inl ⟨hv,Hc (by simp[mM])⟩
inductive FrzC (H:Heap)(S:Nat->Bool):C->C->Prop
 |same (c:C) (h:c.ah=false):FrzC H S c c
 |sl (fl:Bool) (sz:Nat) (rows rows':List (List C)) (hl:rows'.length=rows.length) (hr:∀(i:Nat) (r r':List C),rows[i]? = some r->rows'[i]? = some r'->r'.length=r.length)
   (hc:∀(i:Nat) (r r':List C) (j:Nat) (c c':C),rows[i]? = some r->rows'[i]? = some r'->r[j]? = some c->r'[j]? = some c'->FrzC H S c c'):FrzC H S (.sl fl sz rows) (.sl false sz rows')
 |pp (cells cells':List C) (hl:cells'.length=cells.length) (hc:∀(j:Nat) (c c':C),cells[j]? = some c->cells'[j]? = some c'->FrzC H S c c'):FrzC H S (.pp cells) (.pp cells')
 |ai (l sz st n:Nat) (all rows rows':List (List C)) (hS:S l=true) (hH:H l=.vec sz all) (hb:st+n<=all.length) (bA:rows=(all.drop st).take n)
   (hl:rows'.length=rows.length) (hr:∀(i:Nat) (r r':List C),rows[i]? = some r->rows'[i]? = some r'->r'.length=r.length)
   (hc:∀(i:Nat) (r r':List C) (j:Nat) (c c':C),rows[i]? = some r->rows'[i]? = some r'->r[j]? = some c->r'[j]? = some c'->FrzC H S c c'):FrzC H S (.ai l sz st n) (.sl false sz rows')
 |ptr (l k:Nat) (all cells cells':List C) (hS:S l=true) (hH:H l=.st all) (mu:cells=all.drop k) (hl:cells'.length=cells.length)
   (hc:∀(j:Nat) (c c':C),cells[j]? = some c->cells'[j]? = some c'->FrzC H S c c'):FrzC H S (.ptr l k) (.pp cells')
 |ow (sz:Nat) (rows rows':List (List C)) (hl:rows'.length=rows.length) (hr:∀(i:Nat) (r r':List C),rows[i]? = some r->rows'[i]? = some r'->r'.length=r.length)
   (hc:∀(i:Nat) (r r':List C) (j:Nat) (c c':C),rows[i]? = some r->rows'[i]? = some r'->r[j]? = some c->r'[j]? = some c'->FrzC H S c c'):FrzC H S (.ow sz rows) (.sl false sz rows')
theorem Bo {α:Type}{l l':List α}(h:l'.length=l.length){i:Nat}{x:α}(hx:l'[i]? = some x):∃y,l[i]? = some y:=by
 have:i<l'.length:=(Jv.1 hx).1;exact⟨l[i]'ZA,Jw ZA⟩
theorem Ga {S:Nat->Bool}{b l:Nat}{p:List Nat}(ho:g.own b=some (l,p))(hS:S l=true)(hu:(H l).used=true):(g.frz H S).per b=true:=by
 simp[G.frz,ho,hS,hu]
theorem FZ (hs:Sat H g w){S:Nat->Bool}{c c':C}(h:FrzC H S c c') :
  (∀v,RepC w g c v->RepC w (g.frz H S) c' v)/\∀l p v,S l=true->(H l).used=true->RepO w g l p c v->RepC w (g.frz H S) c' v:=by
 have aR:=HL H S g w
 induction h with
 |same c h=>
  refine⟨λv hv=>hv.mono aR,λl p v _ _ hv=>?_⟩;exact (hv.plain_of λsz rows hc=>by subst hc;simp[C.ah]at h).mono aR
 |sl fl sz rows rows' hl hr hc ih=>
  have key:∀v,RepC w g (.sl fl sz rows) v->RepC w (g.frz H S) (.sl false sz rows') v:=by
   intro v hv
   cases hv with
   |bT _ _ ad=>
    have:rows'=[]:=Jx.1 Zae;subst this;exact .bT _ _ _
   |sl _ _ _ b off cap val h1 h2 h3 h4 h5 h6 h7=>
    rw[<-hl]at h1 h2 h3⊢;refine .sl false sz rows' b off cap val h1 ZC h3 (aR.per b h4).1 (λi r' bd=>?_) (λi r' j c' bd cf=>?_) (λi r' j c' bd cf=>?_)
    ·obtain⟨r,bR⟩:=Bo hl bd;rw[hr i r r' bR bd];exact h5 i r bR
    ·obtain⟨r,bR⟩:=Bo hl bd;obtain⟨c,dg⟩:=Bo (hr i r r' bR bd) cf;exact h6 i r j c bR dg
    ·obtain⟨r,bR⟩:=Bo hl bd;obtain⟨c,dg⟩:=Bo (hr i r r' bR bd) cf;exact (ih i r r' j c c' bR bd dg cf).1 _ (h7 i r j c bR dg)
  exact⟨key,λl p v _ _ hv=>key v (hv.plain_of λ_ _ hc=>Zbo)⟩
 |pp cells cells' hl hc ih=>
  have key:∀v,RepC w g (.pp cells) v->RepC w (g.frz H S) (.pp cells') v:=by
   intro v hv
   cases hv with
   |pp _ b off val h1 h2 h3=>
    refine .pp cells' b off val (aR.per b h1).1 (λj c' cf=>?_) (λj c' cf=>?_)
    ·obtain⟨c,dg⟩:=Bo hl cf;exact h2 j c dg
    ·obtain⟨c,dg⟩:=Bo hl cf;exact (ih j c c' dg cf).1 _ (h3 j c dg)
  exact⟨key,λl p v _ _ hv=>key v (hv.plain_of λ_ _ hc=>Zbo)⟩
 |ai l sz st n all rows rows' hS hH hb bA hl hr hc ih=>
  have key:∀v,RepC w g (.ai l sz st n) v->RepC w (g.frz H S) (.sl false sz rows') v:=by
   intro v hv;have am:rows.length=n:=by rw[bA];simp;omega
   cases hv with
   |bS _ _ _ ad=>
    have:rows'=[]:=Jx.1 ZA;subst this;exact .bT _ _ _
   |ai _ _ _ _ cap b base T m h1 h2 h3 h4=>
    have bh:=hs.objs l;rw[hH]at bh;obtain⟨b',base',T',cs,val,r1,r2,r3,r4,r5,r6,r7,r8⟩:=SatVec.of bh h1;rw[h1]at r1;simp only[Jf,Jaf,true_and]at r1;obtain⟨rfl,rfl⟩:=r1;have cY:=Ga (g:=g) (H:=H) r2 hS Zbp;have b8:∀(i:Nat) (r:List C),rows[i]? = some r->all[st+i]? = some r:=by
     intro i r hi;rw[bA,List.getElem?_take]at hi;split at hi
     ·rw[Jan]at hi;exact hi
     ·simp at hi
    have hn:n=rows'.length:=ZA;rw[hn]at h2⊢;refine .sl false sz rows' b (base+st * sz) cap (λi j=>val (st+i) j) ZA ZC h2 cY (λi r' bd=>?_) (λi r' j c' bd cf=>?_) (λi r' j c' bd cf=>?_)
    ·obtain⟨r,bR⟩:=Bo hl bd;rw[hr i r r' bR bd];exact r6 _ r (b8 i r bR)
    ·obtain⟨r,bR⟩:=Bo hl bd;obtain⟨c,dg⟩:=Bo (hr i r r' bR bd) cf;rw[EG r3,show base+st * sz+i * sz+j=base+(st+i) * sz+j by rw[Nat.add_mul];omega];exact r7 _ r j c (b8 i r bR) dg
    ·obtain⟨r,bR⟩:=Bo hl bd;obtain⟨c,dg⟩:=Bo (hr i r r' bR bd) cf;exact (ih i r r' j c c' bR bd dg cf).2 l _ _ hS Zbp (r8 _ r j c (b8 i r bR) dg)
  exact⟨key,λl p v _ _ hv=>key v (hv.plain_of λ_ _ hc=>Zbo)⟩
 |ptr l k all cells cells' hS hH mu hl hc ih=>
  have key:∀v,RepC w g (.ptr l k) v->RepC w (g.frz H S) (.pp cells') v:=by
   intro v hv
   cases hv with
   |ptr _ _ b sz base h1=>
    have bh:=hs.objs l;rw[hH]at bh;obtain⟨b',sz',T,cs,r1,r2,r3,r4,r5⟩:=bh;rw[h1]at r1;simp only[Jf,Jaf]at r1;obtain⟨rfl,rfl,rfl⟩:=r1;have cY:=Ga (g:=g) (H:=H) r2 hS Zbp;have b8:∀(j:Nat) (c:C),cells[j]? = some c->all[k+j]? = some c:=by
     intro j c hj;rw[mu,Jan]at hj;exact hj
    have lh:∀(j:Nat) (c:C),all[j]? = some c->cs[j]? = some (cs.getD j undef):=by
     intro j c hj;have af:j<cs.size:=(by rw[r4];exact (Jv.1 hj).1);rw[Js af,Jg,Js af];rfl
    refine .pp cells' b (0+k) (λj=>cs.getD (k+j) undef) cY (λj c' cf=>?_) (λj c' cf=>?_)
    ·obtain⟨c,dg⟩:=Bo hl cf;rw[EG r3,show 0+k+j=k+j by omega];exact lh _ c (b8 j c dg)
    ·obtain⟨c,dg⟩:=Bo hl cf;exact (ih j c c' dg cf).2 l _ _ hS Zbp (r5 _ c _ (b8 j c dg) (lh _ c (b8 j c dg)))
  exact⟨key,λl p v _ _ hv=>key v (hv.plain_of λ_ _ hc=>Zbo)⟩
 |ow sz rows rows' hl hr hc ih=>
  refine⟨λv hv=>(by cases hv),λl p v hS hu hv=>?_⟩
  cases hv with
  |plain _ _ _ h=>cases h
  |ownil _ _ ad=>
   have:rows'=[]:=Jx.1 Zae;subst this;exact .bT _ _ _
  |ow _ _ _ b off cap T cs val h1 h2 h3 h4 h5 h6 h7 h8=>
   have cY:=Ga (g:=g) (H:=H) h3 hS hu;rw[<-hl]at h1 h2⊢;refine .sl false sz rows' b off cap val h1 ZC h2 cY (λi r' bd=>?_) (λi r' j c' bd cf=>?_) (λi r' j c' bd cf=>?_)
   ·obtain⟨r,bR⟩:=Bo hl bd;rw[hr i r r' bR bd];exact h6 i r bR
   ·obtain⟨r,bR⟩:=Bo hl bd;obtain⟨c,dg⟩:=Bo (hr i r r' bR bd) cf;rw[EG h4];exact h7 i r j c bR dg
   ·obtain⟨r,bR⟩:=Bo hl bd;obtain⟨c,dg⟩:=Bo (hr i r r' bR bd) cf;exact (ih i r r' j c c' bR bd dg cf).2 l _ _ hS hu (h8 i r j c bR dg)
inductive FrzV (H:Heap)(S:Nat->Bool):V->V->Prop
 |c (a b:C) (h:FrzC H S a b):FrzV H S (.c a) (.c b)
 |ag (cs cs':List C) (hl:cs'.length=cs.length) (h:∀(j:Nat) (c c':C),cs[j]? = some c->cs'[j]? = some c'->FrzC H S c c'):FrzV H S (.ag cs) (.ag cs')
 |tup (xs xs':List V) (hl:xs'.length=xs.length) (h:∀(j:Nat) (x x':V),xs[j]? = some x->xs'[j]? = some x'->FrzV H S x x'):FrzV H S (.tup xs) (.tup xs')
 |unk (x:V):FrzV H S x .unk
theorem FD (hs:Sat H g w){S:Nat->Bool}{x x':V}(h:FrzV H S x x'):∀v,RepV w g x v->RepV w (g.frz H S) x' v:=by
 induction h with
 |c a b h=>
  intro v hv;exact .c _ _ ((FZ hs h).1 v hv.aL)
 |ag cs cs' hl h=>
  intro v hv
  cases hv with
  |ag _ vs h1 h2=>
   refine .ag cs' vs ZA λj c' u cf hu=>?_;obtain⟨c,hc⟩:=Bo hl cf;exact (FZ hs (h j c c' hc cf)).1 u (h2 j c u hc hu)
 |tup xs xs' hl h ih=>
  intro v hv
  cases hv with
  |tup _ vs h1 h2=>
   refine .tup xs' vs ZA λj x' u gg hu=>?_;obtain⟨x,hx⟩:=Bo hl gg;exact ih j x x' hx gg u (h2 j x u hx hu)
 |unk x=>exact λv _=>.unk v
abbrev frzK (K:V->Heap->Prop):V->Heap->Prop
 |.pn v,H'=>∃S,K (.pn v) (H'.frz S)
 |x,H'=>∃S x',FrzV H' S x x'/\K x' (H'.frz S)
theorem Qbpf {K:V->Heap->Prop}{x:V}{v:Value}(h:frzK K x H)(hr:RepV w g x v):∃S x',FrzV H S x x'/\K x' (H.frz S):=by
 cases hr <;> exact h
theorem Qbiz {f:Nat}{args:List V}{K:V->Heap->Prop}(h:Qv P f args H (frzK K)):Qv P f args H K:=by
 refine⟨h.1,λg w vs hs hl hv=>?_⟩;refine Calls.mono (h.2 g w vs hs hl hv) ?_;rintro e w' (⟨v,x,H',g',he,hx,aQ,hr⟩|⟨v,H',g',he,hx,aQ⟩)
 ·obtain⟨S,x',hf,hk⟩:=Qbpf hx hr;exact .inl ⟨v,x',H'.frz S,g'.frz H' S,he,hk,aQ.trans (Fz aQ.sat S),FD aQ.sat hf v hr⟩
 ·obtain⟨S,hk⟩:∃S,K (.pn v) (H'.frz S):=hx;exact .inr ⟨v,H'.frz S,g'.frz H' S,he,hk,aQ.trans (Fz aQ.sat S)⟩
theorem Qbev {f:Nat}{args:List V}{K K':V->Heap->Prop}(h:Qv P f args H K)(hk:∀x H',K x H'->K' x H'):Qv P f args H K':=by
 refine⟨h.1,λg w vs hs hl hv=>?_⟩;refine Calls.mono (h.2 g w vs hs hl hv) ?_;rintro e w' (⟨v,x,H',g',he,hx,aQ,hr⟩|⟨v,H',g',he,hx,aQ⟩)
 ·exact .inl ⟨v,x,H',g',he,hk x H' hx,aQ,hr⟩
 ·exact .inr ⟨v,H',g',he,hk _ H' hx,aQ⟩
def FrzK (H:Heap)(S:Nat->Bool)(c c':C):Prop:=c'=c\/(c.ah=false/\FrzC H S c c')
inductive FrzO (H:Heap)(S:Nat->Bool):Obj->Obj->Prop
 |same (o:Obj):FrzO H S o o
 |st (cells cells':List C) (hl:cells'.length=cells.length) (h:∀(j:Nat) (c c':C),cells[j]? = some c->cells'[j]? = some c'->FrzK H S c c'):FrzO H S (.st cells) (.st cells')
 |vec (sz:Nat) (rows rows':List (List C)) (hl:rows'.length=rows.length) (hr:∀(i:Nat) (r r':List C),rows[i]? = some r->rows'[i]? = some r'->r'.length=r.length)
   (h:∀(i:Nat) (r r':List C) (j:Nat) (c c':C),rows[i]? = some r->rows'[i]? = some r'->r[j]? = some c->r'[j]? = some c'->FrzK H S c c'):FrzO H S (.vec sz rows) (.vec sz rows')
def FrzH (H:Heap)(S:Nat->Bool)(H':Heap):Prop:=∀m,(S m=true/\H' m=.none)\/(S m=false/\FrzO H S (H m) (H' m))
theorem CP (H:Heap)(S:Nat->Bool):FrzH H S (H.frz S):=λm=>by
 cases h:S m with
 |true=>exact .inl ⟨rfl,by simp[Heap.frz,h]⟩
 |false=>exact .inr ⟨rfl,by simp[Heap.frz,h];exact .same _⟩
theorem FrzH.set {S:Nat->Bool}{H':Heap}(h:FrzH H S H'){l:Nat}{o:Obj}(hl:S l=false)(ho:FrzO H S (H l) o):FrzH H S (H'.set l o):=λm=>by
 by_cases hm:m=l
 ·subst hm;rw[Heap.aE];exact .inr ⟨hl,ho⟩
 ·rw[Heap.aj _ _ hm];exact h m
theorem Iw (hs:Sat H g w){S:Nat->Bool}{H':Heap}(h:FrzH H S H'):Stp H g w H' (g.frz H S) w:=by
 have h0:=Fz hs S;have aR:=h0.le;have ex:∀m,S m=false->Da g w (g.frz H S) w m:=λm hm=>Hc (by simp[hm]);have uJ:∀(l:Nat) (p:List Nat) (c c':C) (v:Value),S l=false->FrzK H S c c'->RepO w g l p c v->RepO w (g.frz H S) l p c' v:=by
  intro l p c c' v hl hk hr;rcases hk with rfl|⟨h1,h2⟩
  ·exact hr.move aR λq b hb=>⟨(ex l hl b _ hb).1,rfl⟩
  ·exact .plain _ _ _ _ ((FZ hs h2).1 v (hr.plain_of λsz rows hc=>by subst hc;simp[C.ah]at h1))
 refine⟨aR,λm hm hn=>?_,⟨h0.sat.fresh,h0.sat.names,h0.sat.excl,h0.sat.named,λm=>?_⟩⟩
 ·refine⟨?_,Hc (by rw[hn];simp[Obj.used])⟩;rcases h m with ⟨_,h1⟩|⟨_,h1⟩
  ·exact h1
  ·rw[hn]at h1;generalize H' m=o at h1;cases h1;rfl
 ·rcases h m with ⟨_,h1⟩|⟨hS,h1⟩
  ·rw[h1];exact trivial
  ·have ho:=hs.objs m;generalize hA:H m=A at h1 ho;generalize hB:H' m=B at h1
   cases h1 with
   |same=>
    have:=SatObj.keep (H':=H') hs aR (ex m hS) (hB.trans hA.symm) λm' v left cur hc v' es hv=>?_
    ·rw[hB]at this;exact this
    ·rcases h m' with ⟨_,h2⟩|⟨mM,h2⟩
     ·rw[h2]at hv;simp at hv
     ·rw[hv]at h2;generalize hA':H m'=A' at h2;cases h2;exact .inl ⟨rfl,ex m' mM⟩
   |st cells cells' hl hc=>
    obtain⟨b,sz,T,cs,r1,r2,r3,r4,r5⟩:=ho;refine⟨b,sz,T,cs,r1,(ex m hS b _ r2).1,r3,by rw[hl];exact r4,λk c' v cf hv=>?_⟩;obtain⟨c,dg⟩:=Bo hl cf;exact uJ _ _ c c' v hS (hc k c c' dg cf) (r5 k c v dg hv)
   |vec sz rows rows' hl hr hc=>
    rcases ho with ⟨r1,r2⟩|⟨b,base,T,cs,val,r1,r2,r3,r4,r5,r6,r7,r8⟩
    ·refine .inl ⟨?_,r2⟩;subst r1;exact Jx.1 hl
    ·refine .inr ⟨b,base,T,cs,val,r1,(ex m hS b _ r2).1,r3,by rw[hl];exact r4,by rw[hl];exact r5,λi r' bd=>?_,λi r' j c' bd cf=>?_,λi r' j c' bd cf=>?_⟩
     ·obtain⟨r,bR⟩:=Bo hl bd;rw[hr i r r' bR bd];exact r6 i r bR
     ·obtain⟨r,bR⟩:=Bo hl bd;obtain⟨c,dg⟩:=Bo (hr i r r' bR bd) cf;exact r7 i r j c bR dg
     ·obtain⟨r,bR⟩:=Bo hl bd;obtain⟨c,dg⟩:=Bo (hr i r r' bR bd) cf;exact uJ _ _ c c' _ hS (hc i r r' j c c' bR bd dg cf) (r8 i r j c bR dg)
abbrev finK (K:V->Heap->Prop):V->Heap->Prop
 |.pn v,H'=>K (.pn v) H'
 |x,H'=>∃S x' H2,FrzV H' S x x'/\FrzH H' S H2/\K x' H2
theorem Td {K:Uk}{x:C}:finK K (.c x) H=∃S x' H2,FrzV H S (.c x) x'/\FrzH H S H2/\K x' H2:=rfl
theorem V2 {K:Uk}{x:List C}:finK K (.ag x) H=∃S x' H2,FrzV H S (.ag x) x'/\FrzH H S H2/\K x' H2:=rfl
theorem Qbpa {K:Uk}{x:List V}:finK K (.tup x) H=∃S x' H2,FrzV H S (.tup x) x'/\FrzH H S H2/\K x' H2:=rfl
theorem V1 {K:V->Heap->Prop}{v:Value}:finK K (.pn v) H=K (.pn v) H:=rfl
attribute [go_sem] Td V2 Qbpa V1
theorem Qbpb {K:V->Heap->Prop}{x:V}{v:Value}(h:finK K x H)(hr:RepV w g x v):∃S x' H2,FrzV H S x x'/\FrzH H S H2/\K x' H2:=by
 cases hr <;> exact h
theorem CG {f:Nat}{args:List V}{K:V->Heap->Prop}(h:Qv P f args H (finK K)):Qv P f args H K:=by
 refine⟨h.1,λg w vs hs hl hv=>?_⟩;refine Calls.mono (h.2 g w vs hs hl hv) ?_;rintro e w' (⟨v,x,H',g',he,hx,aQ,hr⟩|⟨v,H',g',he,hx,aQ⟩)
 ·obtain⟨S,x',H2,hf,hh,hk⟩:=Qbpb hx hr;exact .inl ⟨v,x',H2,g'.frz H' S,he,hk,aQ.trans (Iw aQ.sat hh),FD aQ.sat hf v hr⟩
 ·exact .inr ⟨v,H',g',he,hx,aQ⟩
theorem DK {e e':Env}(S:Nat->Bool){H2:Heap}(h:∀t,FrzV H S (lk t e) (lk t e'))(hh:FrzH H S H2):Fh e H e' H2:=by
 intro g w tmps hs hr;exact⟨g.frz H S,Iw hs hh,λt=>FD hs (h t) _ (hr t)⟩
def un (H:Heap)(m:Nat):Bool:=!(H m).used
theorem Fy {m:Nat}(h:H m≠.none):un H m=false:=by
 unfold un;cases hm:H m <;> first|rfl|exact absurd hm h
theorem C5 {m:Nat}(h:H m=.none):un H m=true:=by simp[un,h,Obj.used]
theorem Fs {H':Heap}{m:Nat}(h:H m≠.none):H'.frz (un H) m=H' m:=by simp[Heap.frz,Fy h]
def C.plain:C->Bool
 |.int _ _|.bool _|.str _|.sl _ _ _|.pp _|.pnil|.mnil|.slb _|.stb _|.cm _ _ _|.fnil|.unk=>true
 |_=>false
theorem Qg {S:Nat->Bool}{c:C}(h:c.plain=true):FrzC H S c c:=.same c (by cases c <;> simp_all[C.plain,C.ah])
theorem FC {S:Nat->Bool}{l sz n:Nat}{rows:List (List C)}(hS:S l=true)(hH:H l=.vec sz rows)(hn:n=rows.length)(hr:∀r∈rows,∀c∈r,c.ah=false):FrzC H S (.ai l sz 0 n) (.sl false sz rows):=by
 subst hn;refine .ai l sz 0 rows.length rows rows rows hS hH ZA ZC rfl (λi r r' h1 h2=>by rw[h1]at h2;simp at h2;rw[h2]) (λi r r' j c c' h1 h2 h3 h4=>?_);rw[h1]at h2;simp at h2;subst h2;rw[h3]at h4;simp at h4;subst h4;exact .same _ (hr r (Ja h1) c (Ja h3))
theorem Es {S:Nat->Bool}{fl:Bool}{sz:Nat}{rows:List (List C)}(hr:∀r∈rows,∀c∈r,c.ah=false):FrzC H S (.sl fl sz rows) (.sl false sz rows):=by
 refine .sl fl sz rows rows rfl (λi r r' h1 h2=>by rw[h1]at h2;simp at h2;rw[h2]) (λi r r' j c c' h1 h2 h3 h4=>?_);rw[h1]at h2;simp at h2;subst h2;rw[h3]at h4;simp at h4;subst h4;exact .same _ (hr r (Ja h1) c (Ja h3))
inductive FrzL (H:Heap)(S:Nat->Bool):List C->List C->Prop
 |nil:FrzL H S [] []
 |cons {c c':C} {l l':List C} (h:FrzC H S c c') (t:FrzL H S l l'):FrzL H S (c::l) (c'::l')
theorem FrzL.spec {S:Nat->Bool}{l l':List C}(h:FrzL H S l l'):l'.length=l.length/\∀(j:Nat) (c c':C),l[j]? = some c->l'[j]? = some c'->FrzC H S c c':=by
 induction h with
 |nil=>exact⟨rfl,λj c c' h=>ZH⟩
 |cons h t ih=>
  refine⟨Zbq,λj c c' h1 h2=>?_⟩
  cases j with
  |zero=>simp at h1 h2;subst h1;subst h2;exact h
  |succ j=>simp at h1 h2;exact ih.2 j c c' h1 h2
theorem FrzL.ag {S:Nat->Bool}{l l':List C}(h:FrzL H S l l'):FrzV H S (.ag l) (.ag l'):=.ag _ _ h.spec.1 h.spec.2
inductive FrzKL (H:Heap)(S:Nat->Bool):List C->List C->Prop
 |nil:FrzKL H S [] []
 |same {c:C} {l l':List C} (t:FrzKL H S l l'):FrzKL H S (c::l) (c::l')
 |cons {c c':C} {l l':List C} (h:c.ah=false) (h':FrzC H S c c') (t:FrzKL H S l l'):FrzKL H S (c::l) (c'::l')
theorem FrzKL.st {S:Nat->Bool}{l l':List C}(h:FrzKL H S l l'):FrzO H S (.st l) (.st l'):=by
 have:l'.length=l.length/\∀(j:Nat) (c c':C),l[j]? = some c->l'[j]? = some c'->FrzK H S c c':=by
  induction h with
  |nil=>exact⟨rfl,λj c c' h=>ZH⟩
  |same t ih=>
   refine⟨Zbq,λj c c' h1 h2=>?_⟩
   cases j with
   |zero=>simp at h1 h2;subst h1;subst h2;exact .inl rfl
   |succ j=>simp at h1 h2;exact ih.2 j c c' h1 h2
  |cons h h' t ih=>
   refine⟨Zbq,λj c c' h1 h2=>?_⟩
   cases j with
   |zero=>simp at h1 h2;subst h1;subst h2;exact .inr ⟨h,h'⟩
   |succ j=>simp at h1 h2;exact ih.2 j c c' h1 h2
 exact .st _ _ this.1 this.2
end Go.AE
namespace Go.AE
variable {P:Program}{H0 H H':Heap}{E L:Ul}
structure Kn (H0 H:Heap)(E L:Ul):Prop where
 get:∀p∈E++L,H p.1=p.2/\p.2≠.none
 ext:∀p∈E,H0 p.1≠.none
 loc:∀p∈L,H0 p.1=.none
 dE:(E.map Prod.fst).Nodup
 dL:(L.map Prod.fst).Nodup
 chg:∀m,H0 m≠.none->m∉E.map Prod.fst->H m=H0 m
def Upd (H H':Heap)(U:List (Nat×Obj)):Prop:=(∀p∈U,H' p.1=p.2)/\∀m,H m≠.none->m∉U.map Prod.fst->H' m=H m
theorem Kn.ao (H:Heap):Kn H H [] []:=⟨ZC,ZC,ZC,ZC,ZC,λ_ _ _=>rfl⟩
theorem Kn.start1 {l:Nat}{o:Obj}(h:H l=o)(ho:o≠.none):Kn H H [(l,o)] []:=
 ⟨by simp[h,ho],by simp[h,ho],ZC,ZC,ZC,λ_ _ _=>rfl⟩
theorem Kn.start2 {l m:Nat}{o q:Obj}(h:H l=o)(ho:o≠.none)(h2:H m=q)(hq:q≠.none)(hn:l≠m):Kn H H [(l,o),(m,q)] []:=
 ⟨by simp[h,ho,h2,hq],by simp[h,ho,h2,hq],ZC,ZaO,ZC,λ_ _ _=>rfl⟩
theorem Kn.e (hk:Kn H0 H E L)(i:Nat){l:Nat}{o:Obj}(h:E[i]? = some (l,o)):H l=o:=
 (hk.get (l,o) (Jc _ (Ja h))).1
theorem Kn.l (hk:Kn H0 H E L)(i:Nat){l:Nat}{o:Obj}(h:L[i]? = some (l,o)):H l=o:=
 (hk.get (l,o) (Jd _ (Ja h))).1
theorem Kn.free (hk:Kn H0 H E L)(i:Nat){l:Nat}{o:Obj}(h:L[i]? = some (l,o)):H0 l=.none:=hk.loc (l,o) (Ja h)
theorem Kn.un (hk:Kn H0 H E L)(i:Nat){l:Nat}{o:Obj}(h:L[i]? = some (l,o)):un H0 l=true:=C5 (hk.free i h)
theorem Kn.usedE (hk:Kn H0 H E L)(i:Nat){l:Nat}{o:Obj}(h:E[i]? = some (l,o)):H0 l≠.none:=hk.ext (l,o) (Ja h)
theorem Kn.ne (hk:Kn H0 H E L)(i j:Nat){l m:Nat}{o q:Obj}(h:E[i]? = some (l,o))(h2:L[j]? = some (m,q)):l≠m:=λhh=>by
 subst hh;exact hk.usedE i h (hk.free j h2)
theorem AV {L:Ul}{p:Nat×Obj}(h:p∈L):p.1∈L.map Prod.fst:=List.mem_map_of_mem h
theorem C9 {L:Ul}(hd:(L.map Prod.fst).Nodup){i j:Nat}{p q:Nat×Obj}(hi:L[i]? = some p)(hj:L[j]? = some q)(h:p.1=q.1):i=j:=by
 have h1:(L.map Prod.fst)[i]? = some p.1:=by simp[hi]
 have h2:(L.map Prod.fst)[j]? = some q.1:=by simp[hj]
 have af:i<(L.map Prod.fst).length:=(Jv.1 h1).1;exact (List.getElem?_inj af hd).1 (by rw[h1,h2,h])
theorem Kn.neL (hk:Kn H0 H E L)(i j:Nat){l m:Nat}{o q:Obj}(h:L[i]? = some (l,o))(h2:L[j]? = some (m,q))(gC:i≠j):l≠m:=λhh=>
 gC (C9 hk.dL h h2 hh)
theorem Kn.newFree (hk:Kn H0 H E L){x:Nat}(hx:H x=.none):H0 x=.none/\x∉E.map Prod.fst/\x∉L.map Prod.fst:=by
 have bx:∀p∈E++L,p.1≠x:=λp hp hh=>by
  obtain⟨h1,h2⟩:=hk.get p hp;rw[hh,hx]at h1;exact h2 h1.symm
 have hE:x∉E.map Prod.fst:=λh=>by
  obtain⟨p,hp,hh⟩:=Jh.1 h;exact bx p (Jc _ hp) hh
 refine⟨?_,hE,λh=>?_⟩
 ·cases h0:H0 x with
  |none=>rfl
  |_=>have:=hk.chg x (by rw[h0];simp) hE;rw[hx,h0]at this;simp at this
 ·obtain⟨p,hp,hh⟩:=Jh.1 h;exact bx p (Jd _ hp) hh
theorem Kn.alloc (hk:Kn H0 H E L){x:Nat}{o:Obj}(hx:H x=.none)(ho:o≠.none):Kn H0 (H.set x o) E (L++[(x,o)]):=by
 obtain⟨h1,h2,h3⟩:=hk.newFree hx;refine⟨λp hp=>?_,hk.ext,λp hp=>?_,hk.dE,?_,λm hm hn=>?_⟩
 ·rw[<-Jm]at hp;rcases Jb.1 hp with hp|hp
  ·have:p.1≠x:=λhh=>by
    rcases Jb.1 hp with hp|hp
    ·exact h2 (hh▸AV hp)
    ·exact h3 (hh▸AV hp)
   rw[Heap.aj _ _ this];exact hk.get p hp
  ·simp at hp;subst hp;exact⟨Heap.aE _ _ _,ho⟩
 ·rcases Jb.1 hp with hp|hp
  ·exact hk.loc p hp
  ·simp at hp;subst hp;exact h1
 ·rw[Jn];refine Jj.2 ⟨hk.dL,ZC,λa ha b hb=>?_⟩;simp at hb;subst hb;exact λhh=>h3 (hh▸ha)
 ·have:m≠x:=λhh=>by subst hh;exact hm h1
  rw[Heap.aj _ _ this];exact hk.chg m hm hn
theorem DH {L:Ul}{i:Nat}{x:Nat}{o o':Obj}(h:L[i]? = some (x,o)):(L.set i (x,o')).map Prod.fst=L.map Prod.fst:=by
 rw[J8];refine List.ext_getElem? λj=>?_;rw[J5];split
 ·rename_i gC
  subst gC;have af:=(Jv.1 h).1;rw[if_pos (by simpa using af)];simp[h]
 ·rfl
theorem C8 {α:Type}{L:List α}{i:Nat}{x p:α}(h:p∈L.set i x):p=x\/∃j,j≠i/\L[j]? = some p:=by
 obtain⟨j,hj⟩:=List.getElem?_of_mem h;rw[J5]at hj;split at hj
 ·split at hj
  ·simp at hj;exact .inl hj.symm
  ·simp at hj
 ·rename_i hn;exact .inr ⟨j,λh=>hn h.symm,hj⟩
theorem Kn.setL (hk:Kn H0 H E L)(i:Nat){x:Nat}{o o':Obj}(h:L[i]? = some (x,o))(ho:o'≠.none):Kn H0 (H.set x o') E (L.set i (x,o')):=by
 have hf:=hk.free i h;refine⟨λp hp=>?_,hk.ext,λp hp=>?_,hk.dE,by rw[DH h];exact hk.dL,λm hm hn=>?_⟩
 ·rcases Jb.1 hp with hp|hp
  ·have:p.1≠x:=λhh=>hk.ext p hp (hh▸hf);rw[Heap.aj _ _ this];exact hk.get p (Jc _ hp)
  ·rcases C8 hp with rfl|⟨j,hj,hp⟩
   ·exact⟨Heap.aE _ _ _,ho⟩
   ·have:p.1≠x:=λhh=>hj (C9 hk.dL hp h hh);rw[Heap.aj _ _ this];exact hk.get p (Jd _ (Ja hp))
 ·rcases C8 hp with rfl|⟨j,hj,hp⟩
  ·exact hf
  ·exact hk.loc p (Ja hp)
 ·have:m≠x:=λhh=>by subst hh;exact hm hf
  rw[Heap.aj _ _ this];exact hk.chg m hm hn
theorem Kn.setE (hk:Kn H0 H E L)(i:Nat){x:Nat}{o o':Obj}(h:E[i]? = some (x,o))(ho:o'≠.none):Kn H0 (H.set x o') (E.set i (x,o')) L:=by
 have hf:=hk.usedE i h;refine⟨λp hp=>?_,λp hp=>?_,hk.loc,by rw[DH h];exact hk.dE,hk.dL,λm hm hn=>?_⟩
 ·rcases Jb.1 hp with hp|hp
  ·rcases C8 hp with rfl|⟨j,hj,hp⟩
   ·exact⟨Heap.aE _ _ _,ho⟩
   ·have:p.1≠x:=λhh=>hj (C9 hk.dE hp h hh);rw[Heap.aj _ _ this];exact hk.get p (Jc _ (Ja hp))
  ·have:p.1≠x:=λhh=>hf (hh▸hk.loc p hp);rw[Heap.aj _ _ this];exact hk.get p (Jd _ hp)
 ·rcases C8 hp with rfl|⟨j,hj,hp⟩
  ·exact hf
  ·exact hk.ext p (Ja hp)
 ·rw[DH h]at hn;have:m≠x:=λhh=>by subst hh;exact hn (AV (p:=(m,o)) (Ja h))
  rw[Heap.aj _ _ this];exact hk.chg m hm hn
theorem Kn.app (hk:Kn H0 H E L)(i:Nat){y y':Nat}{o o':Obj}(h:L[i]? = some (y,o))(hy:(H.set y .none) y'=.none)(ho:o'≠.none) :
  Kn H0 ((H.set y .none).set y' o') E (L.set i (y',o')):=by
 have hf:=hk.free i h;have pD:H0 y'=.none/\y'∉E.map Prod.fst/\∀(j:Nat) (p:Nat×Obj),j≠i->L[j]? = some p->p.1≠y':=by
  by_cases yW:y'=y
  ·subst yW;refine⟨hf,λhh=>?_,λj p hj hp hh=>hj (C9 hk.dL hp h hh)⟩;obtain⟨p,hp,hh⟩:=Jh.1 hh;exact hk.ext p hp (hh▸hf)
  ·rw[Heap.aj _ _ yW]at hy;obtain⟨h1,h2,h3⟩:=hk.newFree hy;exact⟨h1,h2,λj p hj hp hh=>h3 (hh▸AV (Ja hp))⟩
 obtain⟨h1,h2,h3⟩:=pD;refine⟨λp hp=>?_,hk.ext,λp hp=>?_,hk.dE,?_,λm hm hn=>?_⟩
 ·rcases Jb.1 hp with hp|hp
  ·have a1:p.1≠y:=λhh=>hk.ext p hp (hh▸hf);have a2:p.1≠y':=λhh=>hk.ext p hp (hh▸h1);rw[Heap.aj _ _ a2,Heap.aj _ _ a1];exact hk.get p (Jc _ hp)
  ·rcases C8 hp with rfl|⟨j,hj,hp⟩
   ·exact⟨Heap.aE _ _ _,ho⟩
   ·have a1:p.1≠y:=λhh=>hj (C9 hk.dL hp h hh);rw[Heap.aj _ _ (h3 j p hj hp),Heap.aj _ _ a1];exact hk.get p (Jd _ (Ja hp))
 ·rcases C8 hp with rfl|⟨j,hj,hp⟩
  ·exact h1
  ·exact hk.loc p (Ja hp)
 ·rw[J8];refine Jad.2 λa b ha hb eH=>?_;rw[List.length_set,J2]at ha hb;have gl:∀(j:Nat) (hj:j<L.length),j≠i->L[j].1≠y':=λj hj hji=>h3 j L[j] hji (Jw hj);have hd:=Jad.1 hk.dL a b ZaF ZX eH;simp only[J9,List.getElem_map]at hd⊢;by_cases e1:i=a
  ·subst e1;rw[if_pos rfl,if_neg ZA];exact λhh=>gl b hb ZA hh.symm
  ·rw[if_neg e1];by_cases e2:i=b
   ·subst e2;rw[if_pos rfl];exact gl a ha ZA
   ·rw[if_neg e2];exact hd
 ·have a1:m≠y:=λhh=>by subst hh;exact hm hf
  have a2:m≠y':=λhh=>by subst hh;exact hm h1
  rw[Heap.aj _ _ a2,Heap.aj _ _ a1];exact hk.chg m hm hn
theorem Kn.callg (hk:Kn H0 H E L){U E2 L2:Ul}(hu:Upd H H' U)(hE:E2.map Prod.fst=E.map Prod.fst)(hL:L2.map Prod.fst=L.map Prod.fst)
  (h:∀p∈E2++L2,p.2≠.none/\(p∈U\/(p∈E++L/\p.1∉U.map Prod.fst))) (hU:∀u∈U,u.1∈E.map Prod.fst\/u.1∈L.map Prod.fst):Kn H0 H' E2 L2:=by
 have cq:∀{A B:Ul} {p:Nat×Obj},B.map Prod.fst=A.map Prod.fst->p∈B->∃q∈A,q.1=p.1:=λnk hp=>by
  have:=AV hp;rw[nk]at this;obtain⟨q,h1,h2⟩:=Jh.1 this;exact⟨q,h1,h2⟩
 refine⟨λp hp=>?_,λp hp=>?_,λp hp=>?_,by rw[hE];exact hk.dE,by rw[hL];exact hk.dL,λm hm hn=>?_⟩
 ·obtain⟨h1,h2⟩:=h p hp;refine⟨?_,h1⟩;rcases h2 with h2|⟨h2,h3⟩
  ·exact hu.1 p h2
  ·obtain⟨a1,a2⟩:=hk.get p h2;rw[hu.2 p.1 (by rw[a1];exact a2) h3,a1]
 ·obtain⟨q,hq,hh⟩:=cq hE hp;rw[<-hh];exact hk.ext q hq
 ·obtain⟨q,hq,hh⟩:=cq hL hp;rw[<-hh];exact hk.loc q hq
 ·rw[hE]at hn;have h0:=hk.chg m hm hn;rw[hu.2 m (by rw[h0];exact hm) (λhh=>?_),h0];obtain⟨u,hu1,fb⟩:=Jh.1 hh;rcases hU u hu1 with a|a
  ·exact hn (fb▸a)
  ·obtain⟨q,hq,hh⟩:=Jh.1 a;exact hm (by rw[<-fb,<-hh];exact hk.loc q hq)
theorem Kn.au (hk:Kn H0 H E L)(hu:Upd H H' []):Kn H0 H' E L:=hk.callg hu rfl rfl (λp hp=>⟨(hk.get p hp).2,.inr ⟨hp,ZC⟩⟩) ZC
theorem Kn.aq (hk:Kn H0 H E L)(i:Nat){l:Nat}{o o':Obj}(h:E[i]? = some (l,o))(hu:Upd H H' [(l,o')])(ho:o'≠.none):Kn H0 H' (E.set i (l,o')) L:=by
 refine hk.callg hu (DH h) rfl (λp hp=>?_) (λu hu=>by simp at hu;subst hu;exact .inl (AV (p:=(l,o)) (Ja h)));rcases Jb.1 hp with hp|hp
 ·rcases C8 hp with rfl|⟨j,hj,hp⟩
  ·exact⟨ho,.inl ZC⟩
  ·have hm:=Jc L (Ja hp);exact⟨(hk.get p hm).2,.inr ⟨hm,by simp;exact λhh=>hj (C9 hk.dE hp h hh)⟩⟩
 ·have hm:=Jd E hp;exact⟨(hk.get p hm).2,.inr ⟨hm,by simp;exact λhh=>hk.usedE i h (hh▸hk.loc p hp)⟩⟩
theorem Kn.callL (hk:Kn H0 H E L)(i:Nat){l:Nat}{o o':Obj}(h:L[i]? = some (l,o))(hu:Upd H H' [(l,o')])(ho:o'≠.none):Kn H0 H' E (L.set i (l,o')):=by
 refine hk.callg hu rfl (DH h) (λp hp=>?_) (λu hu=>by simp at hu;subst hu;exact .inr (AV (p:=(l,o)) (Ja h)));rcases Jb.1 hp with hp|hp
 ·have hm:=Jc L hp;exact⟨(hk.get p hm).2,.inr ⟨hm,by simp;exact λhh=>hk.ext p hp (hh▸hk.free i h)⟩⟩
 ·rcases C8 hp with rfl|⟨j,hj,hp⟩
  ·exact⟨ho,.inl ZC⟩
  ·have hm:=Jd E (Ja hp);exact⟨(hk.get p hm).2,.inr ⟨hm,by simp;exact λhh=>hj (C9 hk.dL hp h hh)⟩⟩
theorem Kn.callEE (hk:Kn H0 H E L)(i j:Nat){l m:Nat}{o o' q q':Obj}(h:E[i]? = some (l,o))(h2:E[j]? = some (m,q))(gC:i≠j)(hu:Upd H H' [(l,o'),(m,q')])(ho:o'≠.none)(hq:q'≠.none) :
  Kn H0 H' ((E.set i (l,o')).set j (m,q')) L:=by
 have vh:(E.set i (l,o'))[j]? = some (m,q):=by rw[J5];rw[if_neg gC];exact h2
 refine hk.callg hu ((DH vh).trans (DH h)) rfl (λp hp=>?_) (λu hu=>?_)
 ·rcases Jb.1 hp with hp|hp
  ·rcases C8 hp with rfl|⟨b,hb,hp⟩
   ·exact⟨hq,.inl ZC⟩
   ·rcases C8 (Ja hp)with rfl|⟨c,hc,cp⟩
    ·exact⟨ho,.inl ZC⟩
    ·have hm:=Jc L (Ja cp);rw[J5]at hp;split at hp
     ·rename_i nW
      split at hp
      ·simp at hp;subst hp;exact⟨ho,.inl ZC⟩
      ·simp at hp
     ·rename_i nW
      refine⟨(hk.get p hm).2,.inr ⟨hm,?_⟩⟩;simp only[Jq,J7,Ji,Jaa,or_false,not_or];exact⟨λhh=>nW (C9 hk.dE hp h hh).symm,λhh=>hb (C9 hk.dE hp h2 hh)⟩
  ·have hm:=Jd E hp;refine⟨(hk.get p hm).2,.inr ⟨hm,?_⟩⟩;simp only[Jq,J7,Ji,Jaa,or_false,not_or];exact⟨λhh=>hk.usedE i h (hh▸hk.loc p hp),λhh=>hk.usedE j h2 (hh▸hk.loc p hp)⟩
 ·simp at hu;rcases hu with rfl|rfl
  ·exact .inl (AV (p:=(l,o)) (Ja h))
  ·exact .inl (AV (p:=(m,q)) (Ja h2))
theorem Kn.fin (hk:Kn H0 H E L):Upd H0 (H.frz (Go.AE.un H0)) E:=by
 refine⟨λp hp=>?_,λm hm hn=>?_⟩
 ·rw[Fs (hk.ext p hp)];exact (hk.get p (Jc _ hp)).1
 ·rw[Fs hm];exact hk.chg m hm hn
abbrev unK (H:Heap)(K:V->Heap->Prop):V->Heap->Prop
 |.pn v,H'=>K (.pn v) (H'.frz (un H))
 |x,H'=>∃x',FrzV H' (un H) x x'/\K x' (H'.frz (un H))
theorem RM {K:Uk}{H0:Heap}{x:C}:unK H0 K (.c x) H=∃x',FrzV H (un H0) (.c x) x'/\K x' (H.frz (un H0)):=rfl
theorem Sv {K:Uk}{H0:Heap}{x:List C}:unK H0 K (.ag x) H=∃x',FrzV H (un H0) (.ag x) x'/\K x' (H.frz (un H0)):=rfl
theorem T2 {K:Uk}{H0:Heap}{x:List V}:unK H0 K (.tup x) H=∃x',FrzV H (un H0) (.tup x) x'/\K x' (H.frz (un H0)):=rfl
theorem T1 {K:Uk}{H0:Heap}:unK H0 K .unk H=∃x',FrzV H (un H0) .unk x'/\K x' (H.frz (un H0)):=rfl
theorem Su {K:V->Heap->Prop}{H0:Heap}{v:Value}:unK H0 K (.pn v) H=K (.pn v) (H.frz (un H0)):=rfl
attribute [go_sem] RM Sv T2 T1 Su
theorem Qz {f:Nat}{args:List V}{K:Uk}(h:Qv P f args H (unK H K)):Qv P f args H K:=
 Qbiz (Qbev h λx H' hx=>by
  cases x with
  |pn v=>exact⟨un H,hx⟩
  |_=>
   obtain⟨x',h1,h2⟩:=hx;exact⟨un H,x',h1,h2⟩)
theorem Kn.al (hk:Kn H0 H E L){x:Nat}{o:Obj}(hx:H x=.none)(h1:H'=H.set x o)(ho:o≠.none:=by nofun):Kn H0 H' E (L++[(x,o)]):=h1▸hk.alloc hx ho
theorem Kn.aA (hk:Kn H0 H E L)(i:Nat){x:Nat}{o o':Obj}(h:L[i]? = some (x,o))(h1:H'=H.set x o')(ho:o'≠.none:=by nofun):Kn H0 H' E (L.set i (x,o')):=h1▸hk.setL i h ho
theorem Kn.stE (hk:Kn H0 H E L)(i:Nat){x:Nat}{o o':Obj}(h:E[i]? = some (x,o))(h1:H'=H.set x o')(ho:o'≠.none:=by nofun):Kn H0 H' (E.set i (x,o')) L:=h1▸hk.setE i h ho
theorem Kn.ap (hk:Kn H0 H E L)(i:Nat){y y':Nat}{o o':Obj}(h:L[i]? = some (y,o))(hy:(H.set y .none) y'=.none)(h1:H'=(H.set y .none).set y' o')(ho:o'≠.none:=by nofun):Kn H0 H' E (L.set i (y',o')):=h1▸hk.app i h hy ho
end Go.AE
namespace Go.AE.Y
theorem Qr {x:Int}(h1:-(2^63)<=x:=by omega)(h2:x<2^63:=by omega):inR .i64 x:=by
 unfold inR;have a1:IntKind.min .i64=-(2^63):=ZN
 have a2:IntKind.max .i64=2^63-1:=ZN
 rw[a1,a2];omega
theorem IJ (b:UInt8):inR .i64 (b.toNat:Int):=Qr ZA (by have:=b.toNat_lt;omega)
def B3 (bs:List UInt8):List (List C):=bs.map λb=>[.int .u8 b.toNat]
theorem Dr (bs:List UInt8):(B3 bs).length=bs.length:=by simp[B3]
theorem Q2o (bs:List UInt8)(i:Nat)(h:i<bs.length):(B3 bs).getD i []=[.int .u8 (bs.getD i 0).toNat]:=by
 simp[B3,Je,h]
theorem Tt {a b:Int}(ha:0<=a)(hb:0<=b)(Ah:a<2^62)(aT:b<2^62):0<=CO .xor .i64 a b:=by
 obtain⟨m,rfl⟩:=Jae ha;obtain⟨n,rfl⟩:=Jae hb;have hm:m<2^62:=ZA
 have hn:n<2^62:=ZA
 have hx:m ^^^ n<2^62:=Nat.xor_lt_two_pow hm hn;have h1:(BitVec.ofInt (IntKind.bits .i64) (m:Int) ^^^ BitVec.ofInt (IntKind.bits .i64) (n:Int)).toNat=m ^^^ n:=by
  have hb:IntKind.bits .i64=64:=rfl;rw[hb,BitVec.toNat_xor];have e1:(BitVec.ofInt 64 (m:Int)).toNat=m:=ZG
  have e2:(BitVec.ofInt 64 (n:Int)).toNat=n:=ZG
  rw[e1,e2]
 simp only[CO];rw[h1];simp only[IntKind.wrap];have hb:IntKind.bits .i64=64:=rfl;have hm:((m ^^^ n:Nat):Int) % 2 ^ 64=(m ^^^ n:Nat):=Int.emod_eq_of_lt ZA ZA;rw[hb,hm];rw[if_neg]
 ·omega
 ·simp only[Jl,decide_eq_true_eq,not_and];intro _;omega
structure Rdr where
 l:Nat
 fl:Bool
 bs:List UInt8
def Rdr.o (R:Rdr)(k:Nat):Obj:=.st [.sl R.fl 1 (B3 R.bs),.int .i64 k]
theorem Rdr.an (R:Rdr)(k:Nat):R.o k≠.none:=by simp[Rdr.o]
def Qc (ns:List Int):List (List C):=ns.map λn=>[.int .i64 n]
theorem Qb (ns:List Int):(Qc ns).length=ns.length:=Zat
theorem Qo (ns:List Int)(i:Nat)(h:i<ns.length):(Qc ns).getD i []=[Ui (ns.getD i 0)]:=by
 simp[Qc,Je,h]
theorem De (a b:List Int):Qc (a++b)=Qc a++Qc b:=Zat
theorem Qw (ns:List Int):∀r∈Qc ns,ak r=true:=by
 intro r hr;simp[Qc]at hr;obtain⟨n,_,rfl⟩:=hr;rfl
def Bg (ss:List (List UInt8)):List (List C):=ss.map λs=>[.str s]
theorem BB (ss:List (List UInt8)):(Bg ss).length=ss.length:=by simp[Bg]
theorem Hn (ss:List (List UInt8))(i:Nat)(h:i<ss.length):(Bg ss).getD i []=[.str (ss.getD i [])]:=by
 simp[Bg,Je,h]
theorem Qbit:Bg []=[]:=rfl
theorem Qbc8 (a:List (List UInt8))(n:List UInt8):Bg a++[[.str n]]=Bg (a++[n]):=by simp[Bg]
theorem OE (ns:List (List UInt8)):∀r∈Bg ns,ak r=true:=by
 intro r hr;simp[Bg]at hr;obtain⟨n,_,rfl⟩:=hr;rfl
theorem noOw_mem {rows:List (List C)}(h:∀r∈rows,ak r=true):∀r∈rows,∀c∈r,c.ah=false:=λr hr c hc=>by
 have:=h r hr;simp only[ak,Jas]at this;simpa using this c hc
theorem Ym {a b:List (List C)}(ha:∀r∈a,ak r=true)(hb:∀r∈b,ak r=true):∀r∈a++b,ak r=true:=λr hr=>by
 rcases Jb.1 hr with h|h
 ·exact ha r h
 ·exact hb r h
inductive Ex where
 |mk (op n:Int) (name:List UInt8) (kids:List Ex)
def Ex.op:Ex->Int|.mk op _ _ _=>op
def Ex.n:Ex->Int|.mk _ n _ _=>n
def Ex.name:Ex->List UInt8|.mk _ _ s _=>s
def Ex.kids:Ex->List Ex|.mk _ _ _ k=>k
mutual
def Ex.cells:Ex->List C
 |.mk op n name kids=>[.int .i64 op,.int .i64 n,.str name,.sl false 4 (AO kids)]
def AO:List Ex->List (List C)
 |[]=>[]
 |x::r=>x.cells::AO r
end
theorem Ex.aF (x:Ex):x.cells=[Ui x.op,Ui x.n,.str x.name,.sl false 4 (AO x.kids)]:=by
 cases x;simp[Ex.cells,Ex.op,Ex.n,Ex.name,Ex.kids]
theorem Oz (l:List Ex):AO l=l.map Ex.cells:=by
 induction l with
 |nil=>simp[AO]
 |cons x r ih=>simp[AO,ih]
theorem BK (l:List Ex):(AO l).length=l.length:=by simp[Oz]
theorem ET (l:List Ex)(i:Nat)(h:i<l.length):(AO l).getD i []=(l[i]'h).cells:=by
 simp[Oz,Je,h]
theorem Qbe7 (a:List Ex)(x:Ex):AO a++[x.cells]=AO (a++[x]):=by simp[Oz]
theorem Ex.ak (x:Ex):Go.AE.ak x.cells=true:=Za7
theorem Hj (l:List Ex):∀r∈AO l,Go.AE.ak r=true:=by
 intro r hr;rw[Oz]at hr;obtain⟨x,_,rfl⟩:=Jh.1 hr;exact x.ak
theorem Ex.az (x:Ex):x.cells.length=4:=Za7
mutual
def Ex.size:Ex->Nat
 |.mk _ _ _ kids=>1+AR kids
def AR:List Ex->Nat
 |[]=>0
 |x::r=>x.size+AR r
end
mutual
def Ex.ok:Ex->Prop
 |.mk op _ _ kids=>(op=10->kids.length=2)/\Bj kids
def Bj:List Ex->Prop
 |[]=>True
 |x::r=>x.ok/\Bj r
end
theorem Q94 {l:List Ex}(h:Bj l):∀x∈l,x.ok:=by
 induction l with
 |nil=>simp
 |cons y r ih=>
  simp only[Bj]at h;intro x hx;rcases Ji.1 hx with rfl|hx
  ·exact h.1
  ·exact ih h.2 x hx
theorem Qbjh {a b:List Ex}(ha:Bj a)(hb:Bj b):Bj (a++b):=by
 induction a with
 |nil=>exact hb
 |cons x r ih=>simp only[Bj]at ha;exact⟨ha.1,ih ha.2⟩
theorem PF (a b:List Ex):AR (a++b)=AR a+AR b:=by
 induction a with
 |nil=>simp[AR]
 |cons x r ih=>simp[AR,ih];omega
theorem Ex.size_pos (x:Ex):1<=x.size:=by cases x;simp[Ex.size]
theorem G9 {l:List Ex}{x:Ex}(h:x∈l):x.size<=AR l:=by
 induction l with
 |nil=>simp at h
 |cons y r ih=>
  simp only[AR];rcases Ji.1 h with rfl|h
  ·omega
  ·have:=ih h;omega
theorem Ex.size_kids (x:Ex):x.size=1+AR x.kids:=by cases x;simp[Ex.size,Ex.kids]
theorem Ex.ok_kids {x:Ex}(h:x.ok):Bj x.kids:=by cases x;simp only[Ex.ok]at h;exact h.2
theorem Ex.ok_and {x:Ex}(h:x.ok)(h1:x.op=10):x.kids.length=2:=by cases x;simp only[Ex.ok]at h;exact h.1 h1
theorem Ex.frz {H:Heap}{S:Nat->Bool}{fl:Bool}(x:Ex):FrzV H S (.ag [Ui x.op,Ui x.n,.str x.name,.sl fl 4 (AO x.kids)]) (.ag x.cells):=by
 rw[x.aF];exact (FrzL.cons (Qg rfl) (FrzL.cons (Qg rfl) (FrzL.cons (Qg rfl) (FrzL.cons (Es (noOw_mem (Hj _))) FrzL.nil)))).ag
variable {H:Heap}{S:Nat->Bool}
inductive FrzR (H:Heap)(S:Nat->Bool):List (List C)->List (List C)->Prop
 |nil:FrzR H S [] []
 |cons {r r':List C} {l l':List (List C)} (h:FrzL H S r r') (t:FrzR H S l l'):FrzR H S (r::l) (r'::l')
theorem FrzR.spec {l l':List (List C)}(h:FrzR H S l l'):l'.length=l.length/\∀(i:Nat) (r r':List C),l[i]? = some r->l'[i]? = some r'->FrzL H S r r':=by
 induction h with
 |nil=>exact⟨rfl,λj c c' h=>ZH⟩
 |cons h t ih=>
  refine⟨Zbq,λj c c' h1 h2=>?_⟩
  cases j with
  |zero=>simp at h1 h2;subst h1;subst h2;exact h
  |succ j=>simp at h1 h2;exact ih.2 j c c' h1 h2
theorem FrzR.sl {fl:Bool}{sz:Nat}{l l':List (List C)}(h:FrzR H S l l'):FrzC H S (.sl fl sz l) (.sl false sz l'):=
 .sl fl sz l l' h.spec.1 (λi r r' h1 h2=>(h.spec.2 i r r' h1 h2).spec.1) λi r r' j c c' h1 h2 h3 h4=>(h.spec.2 i r r' h1 h2).spec.2 j c c' h3 h4
theorem FrzR.ai {l sz n:Nat}{rows rows':List (List C)}(hS:S l=true)(hH:H l=.vec sz rows)(hn:n=rows.length)(h:FrzR H S rows rows'):FrzC H S (.ai l sz 0 n) (.sl false sz rows'):=by
 subst hn;exact .ai l sz 0 rows.length rows rows rows' hS hH ZA ZC h.spec.1 (λi r r' h1 h2=>(h.spec.2 i r r' h1 h2).spec.1) λi r r' j c c' h1 h2 h3 h4=>(h.spec.2 i r r' h1 h2).spec.2 j c c' h3 h4
end Go.AE.Y
namespace Go.AE
open Go.AE.Y
variable {H:Heap}{S:Nat->Bool}
theorem FrzL.same {l:List C}(h:ak l=true):FrzL H S l l:=by
 induction l with
 |nil=>exact .nil
 |cons c r ih=>
  simp only[ak,J3,Jl,Jap]at h ih;exact .cons (.same _ h.1) (ih (by simpa using h.2))
end Go.AE
namespace Go.AE.Y
variable {H:Heap}{S:Nat->Bool}
theorem FrzR.same {l:List (List C)}(h:∀r∈l,ak r=true):FrzR H S l l:=by
 induction l with
 |nil=>exact .nil
 |cons c r ih=>exact .cons (.same (h _ Ju)) (ih λx hx=>h x (Jt _ hx))
theorem FrzR.app {a a' b b':List (List C)}(h:FrzR H S a a')(k:FrzR H S b b'):FrzR H S (a++b) (a'++b'):=by
 induction h with
 |nil=>exact k
 |cons h t ih=>exact .cons h ih
end Go.AE.Y
namespace Go.AE
open Go.AE.Y
variable {H:Heap}{S:Nat->Bool}
theorem Upd.set2 {H H':Heap}{a b:Nat}{oa ob o:Obj}(h:Upd H H' [(a,oa),(b,ob)])(hn:a≠b):Upd H (H'.set b o) [(a,oa),(b,o)]:=by
 refine⟨λp hp=>?_,λm hm hx=>?_⟩
 ·simp at hp;rcases hp with rfl|rfl
  ·show (H'.set b o) a=oa;rw[Heap.aj _ _ hn];exact h.1 (a,oa) ZC
  ·exact Heap.aE _ _ _
 ·have:m≠b:=by simp at hx;exact hx.2
  rw[Heap.aj _ _ this];exact h.2 m hm (by simpa using hx)
end Go.AE
namespace Go.AE.Y
variable {H:Heap}{S:Nat->Bool}
inductive St where
 |mk (op:Int) (name:List UInt8) (args:List Ex) (body els:List St)
def St.op:St->Int|.mk op _ _ _ _=>op
def St.name:St->List UInt8|.mk _ s _ _ _=>s
def St.args:St->List Ex|.mk _ _ a _ _=>a
def St.body:St->List St|.mk _ _ _ b _=>b
def St.els:St->List St|.mk _ _ _ _ e=>e
mutual
def St.cells:St->List C
 |.mk op name args body els=>[.int .i64 op,.str name,.sl false 4 (AO args),.sl false 5 (AF body),.sl false 5 (AF els)]
def AF:List St->List (List C)
 |[]=>[]
 |x::r=>x.cells::AF r
end
theorem St.aF (x:St):x.cells=[Ui x.op,.str x.name,.sl false 4 (AO x.args),.sl false 5 (AF x.body),.sl false 5 (AF x.els)]:=by
 cases x;simp[St.cells,St.op,St.name,St.args,St.body,St.els]
theorem P4 (l:List St):AF l=l.map St.cells:=by
 induction l with
 |nil=>simp[AF]
 |cons x r ih=>simp[AF,ih]
theorem BV (l:List St):(AF l).length=l.length:=by simp[P4]
theorem ES (l:List St)(i:Nat)(h:i<l.length):(AF l).getD i []=(l[i]'h).cells:=by
 simp[P4,Je,h]
theorem FI (a b:List St):AF a++AF b=AF (a++b):=by simp[P4]
theorem St.ak (x:St):Go.AE.ak x.cells=true:=Za7
theorem G4 (l:List St):∀r∈AF l,Go.AE.ak r=true:=by
 intro r hr;rw[P4]at hr;obtain⟨x,_,rfl⟩:=Jh.1 hr;exact x.ak
theorem St.az (x:St):x.cells.length=5:=Za7
mutual
def St.size:St->Nat
 |.mk _ _ args body els=>1+AR args+Q8 body+Q8 els
def Q8:List St->Nat
 |[]=>0
 |x::r=>x.size+Q8 r
end
mutual
def St.ok:St->Prop
 |.mk _ _ args body els=>0<args.length/\Bj args/\Bc body/\Bc els
def Bc:List St->Prop
 |[]=>True
 |x::r=>x.ok/\Bc r
end
theorem Qboi {l:List St}(h:Bc l):∀x∈l,x.ok:=by
 induction l with
 |nil=>simp
 |cons y r ih=>
  simp only[Bc]at h;intro x hx;rcases Ji.1 hx with rfl|hx
  ·exact h.1
  ·exact ih h.2 x hx
theorem FH {a b:List St}(ha:Bc a)(hb:Bc b):Bc (a++b):=by
 induction a with
 |nil=>exact hb
 |cons x r ih=>simp only[Bc]at ha;exact⟨ha.1,ih ha.2⟩
theorem Hm (a b:List St):Q8 (a++b)=Q8 a+Q8 b:=by
 induction a with
 |nil=>simp[Q8]
 |cons x r ih=>simp[Q8,ih];omega
theorem St.size_eq (x:St):x.size=1+AR x.args+Q8 x.body+Q8 x.els:=by cases x;simp[St.size,St.args,St.body,St.els]
theorem St.ok_eq (x:St):x.ok=(0<x.args.length/\Bj x.args/\Bc x.body/\Bc x.els):=by cases x;simp[St.ok,St.args,St.body,St.els]
theorem OD {l:List St}{x:St}(h:x∈l):x.size<=Q8 l:=by
 induction l with
 |nil=>simp at h
 |cons y r ih=>
  simp only[Q8];rcases Ji.1 h with rfl|h
  ·omega
  ·have:=ih h;omega
structure Fn where
 name:List UInt8
 params:List (List UInt8)
 body:List St
def Fn.cells (f:Fn):List C:=[.str f.name,.sl false 1 (Bg f.params),.sl false 5 (AF f.body)]
def AU (l:List Fn):List (List C):=l.map Fn.cells
theorem Cp (l:List Fn):(AU l).length=l.length:=by simp[AU]
theorem G6 (l:List Fn)(i:Nat)(h:i<l.length):(AU l).getD i []=(l[i]'h).cells:=by
 simp[AU,Je,h]
theorem LQ (a:List Fn)(x:Fn):AU a++[x.cells]=AU (a++[x]):=by simp[AU]
theorem Fn.ak (x:Fn):Go.AE.ak x.cells=true:=rfl
theorem Fn.az (x:Fn):x.cells.length=3:=rfl
theorem LR (l:List Fn):∀r∈AU l,Go.AE.ak r=true:=by
 intro r hr;obtain⟨x,_,rfl⟩:=Jh.1 hr;exact x.ak
structure GS where
 fns:List Fn
 ffl:C×Ul
 vars:List (List UInt8)
 vfl:Bool
 next:Int
 left:Int
def GS.o (s:GS)(R:Rdr):Obj:=.st [.ptr R.l 0,s.ffl.1,.sl s.vfl 1 (Bg s.vars),.int .i64 s.next,.int .i64 s.left]
theorem GS.an (s:GS)(R:Rdr):s.o R≠.none:=by simp[GS.o]
structure GS.ok (s:GS)(k:Nat):Prop where
 n0:-1<=s.next
 n1:s.next<=k+10
 l0:-(4 * (k:Int)+10)<=s.left
 l1:s.left<=100
 v:s.vars.length<=k+10
 f:∀f∈s.fns,f.params.length<=3
 fn:s.fns.length<=3
theorem GS.ok.mono {s:GS}{k k':Nat}(h:s.ok k)(hk:k<=k'):s.ok k':=
 ⟨h.n0,by have:=h.n1;omega,by have:=h.l0;omega,h.l1,by have:=h.v;omega,h.f,h.fn⟩
end Go.AE.Y
namespace Go.AE
variable {H0 H H':Heap}{E L B:Ul}
theorem Upd.drop2 {H H':Heap}{a b:Nat}{oa ob:Obj}(h:Upd H H' [(a,oa),(b,ob)])(hb:H b=ob):Upd H H' [(a,oa)]:=by
 refine⟨λp hp=>h.1 p (by simp at hp;subst hp;simp),λm hm hx=>?_⟩;by_cases fC:m=b
 ·subst fC;rw[hb];exact h.1 (m,ob) ZC
 ·exact h.2 m hm (by simp at hx⊢;exact⟨hx,fC⟩)
theorem Upd.drop1 {H H':Heap}{a:Nat}{oa:Obj}(h:Upd H H' [(a,oa)])(ha:H a=oa):Upd H H' []:=by
 refine⟨ZC,λm hm hx=>?_⟩;by_cases fC:m=a
 ·subst fC;rw[ha];exact h.1 (m,oa) ZC
 ·exact h.2 m hm (by simpa using fC)
theorem Kn.perm {L':Ul}(h:Kn H0 H E L)(hp:L.Perm L'):Kn H0 H E L':=
 ⟨λp cp=>h.get p (by
   rcases Jb.1 cp with a|a
   ·exact Jc _ a
   ·exact Jd _ (hp.mem_iff.2 a)),h.ext,λp cp=>h.loc p (hp.mem_iff.2 cp),h.dE,(hp.map Prod.fst).nodup_iff.1 h.dL,h.chg⟩
def Gr (Lg:List (Nat×Obj))(sz:Nat)(rows:List (List C))(c:C):Prop:=
 (c=.sl true sz []/\rows=[]/\Lg=[])\/∃y,c=.ai y sz 0 rows.length/\Lg=[(y,.vec sz rows)]
theorem Gr.nil (sz:Nat):Gr [] sz [] (.sl true sz []):=.inl ⟨rfl,rfl,rfl⟩
theorem Gr.mk (y sz:Nat)(rows:List (List C)){n:Nat}(hn:n=rows.length):Gr [(y,.vec sz rows)] sz rows (.ai y sz 0 n):=.inr ⟨y,by rw[hn],rfl⟩
variable {sz:Nat}{rows:List (List C)}{c:C}{Lg:Ul}
theorem Gr.ah (h:Gr Lg sz rows c):c.ah=false:=by rcases h with ⟨rfl,_⟩|⟨y,rfl,_⟩ <;> rfl
theorem Gr.aO (h:Gr Lg sz rows c):c.aO=sz:=by rcases h with ⟨rfl,_⟩|⟨y,rfl,_⟩ <;> rfl
theorem Gr.ax (h:Gr Lg sz rows c):ax c=rows.length:=by
 rcases h with ⟨rfl,rfl,_⟩|⟨y,rfl,_⟩ <;> rfl
theorem Gr.get (h:Gr Lg sz rows c)(kn:Kn H0 H E (B++Lg)):aW H c/\rowsOf H c=rows:=by
 rcases h with ⟨rfl,rfl,_⟩|⟨y,rfl,rfl⟩
 ·exact⟨trivial,rfl⟩
 ·have hy:H y=.vec sz rows:=(kn.get (y,.vec sz rows) ZC).1;refine⟨?_,?_⟩
  ·simp[aW,hy]
  ·simp[rowsOf,hy]
theorem Gr.aW (h:Gr Lg sz rows c)(kn:Kn H0 H E (B++Lg)):Go.AE.aW H c:=(h.get kn).1
theorem Gr.rowsOf (h:Gr Lg sz rows c)(kn:Kn H0 H E (B++Lg)):Go.AE.rowsOf H c=rows:=(h.get kn).2
theorem Gr.frz (h:Gr Lg sz rows c)(kn:Kn H0 H E (B++Lg))(hr:∀r∈rows,ak r=true):FrzC H (un H0) c (.sl false sz rows):=by
 rcases h with ⟨rfl,rfl,_⟩|⟨y,rfl,rfl⟩
 ·exact Y.FrzR.nil.sl
 ·exact (Y.FrzR.same hr).ai (C5 (kn.loc (y,.vec sz rows) ZC)) (kn.get (y,.vec sz rows) ZC).1 rfl
theorem Gr.frzR {rows':List (List C)}(h:Gr Lg sz rows c)(kn:Kn H0 H E (B++Lg))(hr:Y.FrzR H (un H0) rows rows'):FrzC H (un H0) c (.sl false sz rows'):=by
 rcases h with ⟨rfl,rfl,_⟩|⟨y,rfl,rfl⟩
 ·cases hr;exact Y.FrzR.nil.sl
 ·exact hr.ai (C5 (kn.loc (y,.vec sz rows) ZC)) (kn.get (y,.vec sz rows) ZC).1 rfl
structure Slc (H:Heap)(sz:Nat)(rws:List (List C))(b:C):Prop where
 ok:aW H b
 sz:b.aO=sz
 rows:rowsOf H b=rws
 len:Go.AE.ax b=rws.length
theorem Slc.mk' (H:Heap)(fl:Bool)(sz:Nat)(rows:List (List C)):Slc H sz rows (.sl fl sz rows):=⟨trivial,rfl,rfl,rfl⟩
theorem Kn.grow {K:Uk}{new:List (List C)}{b:C}(kn:Kn H0 H E (B++Lg))(hc:Gr Lg sz rows c)(hb:Slc H sz new b)
  (h1:∀r∈new,ak r=true) (h2:rows.length+new.length<=LIM)
  (h:∀y' H',Kn H0 H' E (B++[(y',.vec sz (rows++new))])->K (.c (.ai y' sz 0 (rows.length+new.length))) H'):appQ H sz c b K:=by
 refine⟨hb.ok,hb.sz,?_⟩;rcases hc with ⟨rfl,rfl,rfl⟩|⟨y,rfl,rfl⟩
 ·simp only[hb.rows,hb.len,Jr,Jak,Jar];refine⟨trivial,.inl trivial,h1,Zaf,λl hl H' dG=>?_⟩;rw[Jaj]at kn;have:=h l H' (by simpa using kn.al hl dG);simpa using this
 ·have hy:H y=.vec sz rows:=(kn.get (y,.vec sz rows) ZC).1;simp only[hy,hb.rows,hb.len,Jac,List.take_length];refine⟨trivial,trivial,ZA,h1,h2,λl' de H' dG=>?_⟩;refine h l' H' ?_;have:=kn.ap B.length (y:=y) (o:=.vec sz rows) ZC de dG;simpa using this
end Go.AE
namespace Go.AE.Y
variable {H H':Heap}{R:Rdr}{gl:Nat}{s s':GS}{L:Ul}{o q:Obj}
def FnsOk (H:Heap)(R:Rdr)(gl:Nat)(s:GS):Prop:=Gr s.ffl.2 3 (AU s.fns) s.ffl.1/\∀p∈s.ffl.2,H p.1=p.2/\p.1≠R.l/\p.1≠gl
theorem FnsOk.keep (h:FnsOk H R gl s)(kn:Kn H H' [(R.l,o),(gl,q)] L)(h1:s'.fns=s.fns)(h2:s'.ffl=s.ffl):FnsOk H' R gl s':=by
 refine⟨by rw[h1,h2];exact h.1,λp hp=>?_⟩;rw[h2]at hp;obtain⟨a1,a2,a3⟩:=h.2 p hp;refine⟨?_,a2,a3⟩;have hn:p.2≠.none:=by
  rcases h.1 with ⟨_,_,hx⟩|⟨y,_,hx⟩
  ·rw[hx]at hp;simp at hp
  ·rw[hx]at hp;simp at hp;subst hp;simp
 rw[kn.chg p.1 (by rw[a1];exact hn) (by simp[a2,a3]),a1]
theorem FnsOk.rd (h:FnsOk H R gl s):aW H s.ffl.1=True/\rowsOf H s.ffl.1=AU s.fns:=by
 rcases h.1 with ⟨h1,h2,h3⟩|⟨y,h1,h3⟩
 ·rw[h1,h2];exact⟨rfl,rfl⟩
 ·have hy:H y=.vec 3 (AU s.fns):=(h.2 (y,.vec 3 (AU s.fns)) (by rw[h3];simp)).1;rw[h1];exact⟨by simp[aW,hy],by simp[rowsOf,hy]⟩
theorem FnsOk.ok (h:FnsOk H R gl s)(kn:Kn H H' [(R.l,o),(gl,q)] L):aW H' s.ffl.1=True:=(h.keep kn rfl rfl).rd.1
theorem FnsOk.rows (h:FnsOk H R gl s)(kn:Kn H H' [(R.l,o),(gl,q)] L):rowsOf H' s.ffl.1=AU s.fns:=(h.keep kn rfl rfl).rd.2
theorem FnsOk.len (h:FnsOk H R gl s):ax s.ffl.1=s.fns.length:=by rw[h.1.ax,Cp]
theorem FnsOk.esz (h:FnsOk H R gl s):s.ffl.1.aO=3:=h.1.aO
theorem FnsOk.ow (h:FnsOk H R gl s):s.ffl.1.ah=false:=h.1.ah
end Go.AE.Y
namespace Go.AE
variable {H0 H H':Heap}{E L B E0 L0 Lg:Ul}
def New (H H':Heap)(N:List (Nat×Obj)):Prop:=∀p∈N,H p.1=.none/\H' p.1=p.2
theorem Kn.add1 (kn0:Kn H0 H E0 L0)(kn:Kn H0 H' E L)(hE:E.map Prod.fst=E0.map Prod.fst)(hL:L.map Prod.fst=L0.map Prod.fst){x:Nat}{o:Obj}(hx:H x=.none)(gg:H' x=o)(ho:o≠.none):Kn H0 H' E (L++[(x,o)]):=by
 obtain⟨h1,h2,h3⟩:=kn0.newFree hx;refine⟨λp hp=>?_,kn.ext,λp hp=>?_,kn.dE,?_,kn.chg⟩
 ·rw[<-Jm]at hp;rcases Jb.1 hp with hp|hp
  ·exact kn.get p hp
  ·simp at hp;subst hp;exact⟨gg,ho⟩
 ·rcases Jb.1 hp with hp|hp
  ·exact kn.loc p hp
  ·simp at hp;subst hp;exact h1
 ·rw[Jn];refine Jj.2 ⟨kn.dL,ZC,λa ha b hb=>?_⟩;simp at hb;subst hb;rw[hL]at ha;exact λhh=>h3 (hh▸ha)
theorem Kn.addGr {sz:Nat}{rows:List (List C)}{c:C}(kn0:Kn H0 H E0 L0)(kn:Kn H0 H' E L)(hE:E.map Prod.fst=E0.map Prod.fst)(hL:L.map Prod.fst=L0.map Prod.fst)(hg:Gr Lg sz rows c)(hn:New H H' Lg):Kn H0 H' E (L++Lg):=by
 rcases hg with ⟨_,_,rfl⟩|⟨y,_,rfl⟩
 ·simpa using kn
 ·obtain⟨h1,h2⟩:=hn (y,.vec sz rows) ZC;exact kn0.add1 kn hE hL h1 h2 ZC
def unx (H:Heap)(Lg:List (Nat×Obj))(m:Nat):Bool:=un H m&&!(Lg.map Prod.fst).contains m
theorem It {m:Nat}(h:H m≠.none):unx H Lg m=false:=by simp[unx,Fy h]
theorem Tz {p:Nat×Obj}(h:p∈Lg):unx H Lg p.1=false:=by
 have:p.1∈Lg.map Prod.fst:=AV h;simp only[unx,Bool.and_eq_false_iff,Bool.not_eq_false'];exact .inr (List.contains_iff_mem.2 this)
theorem Kn.finx (hk:Kn H0 H E (B++Lg)):Upd H0 (H.frz (Go.AE.unx H0 Lg)) E/\New H0 (H.frz (Go.AE.unx H0 Lg)) Lg:=by
 refine⟨⟨λp hp=>?_,λm hm hn=>?_⟩,λp hp=>⟨hk.loc p (Jd _ hp),?_⟩⟩
 ·have:H.frz (Go.AE.unx H0 Lg) p.1=H p.1:=by simp[Heap.frz,It (hk.ext p hp)]
  rw[this];exact (hk.get p (Jc _ hp)).1
 ·have:H.frz (Go.AE.unx H0 Lg) m=H m:=by simp[Heap.frz,It hm]
  rw[this];exact hk.chg m hm hn
 ·have:H.frz (Go.AE.unx H0 Lg) p.1=H p.1:=by simp only[Heap.frz];rw[Tz hp];rfl
  rw[this];exact (hk.get p (Jd _ (Jd _ hp))).1
end Go.AE
namespace Go.AE.Y
theorem Bi {b:Bool}(h:(!b)=false):b=true:=ZI
theorem BM {b:Bool}(h:(!b)=true):b=false:=ZI
theorem Ex.ne_nil (x:Ex):(x.cells=[])=False:=by rw[x.aF];simp
theorem Ex.cF (x:Ex):x.cells.take 4=x.cells:=Jz (by rw[x.az];omega)
theorem Ex.bv (x:Ex):(x.cells.all λc=>!c.ah)=true:=x.ak
theorem St.take5 (x:St):x.cells.take 5=x.cells:=Jz (by rw[x.az];omega)
theorem St.bv (x:St):(x.cells.all λc=>!c.ah)=true:=x.ak
theorem Fn.take3 (x:Fn):x.cells.take 3=x.cells:=Jz (by rw[x.az];omega)
theorem Fn.bv (x:Fn):(x.cells.all λc=>!c.ah)=true:=x.ak
end Go.AE.Y
namespace Go.AE
variable {H0 H H':Heap}{E L B A:Ul}{P:Program}
theorem c_gh {b:SC}{Q:X->Env->Heap->Prop}{e e':Env}(h:Fh e H e' H')(hb:A9 P b Q e' H'):A9 P (.seq .gh b) Q e H:=⟨e',H',h,hb⟩
theorem Kn.drop (kn:Kn H0 H E (A++B)):Kn H0 H E A:=
 ⟨λp hp=>kn.get p (by
   rcases Jb.1 hp with h|h
   ·exact Jc _ h
   ·exact Jd _ (Jc _ h)),kn.ext,λp hp=>kn.loc p (Jc _ hp),kn.dE,by
   have:=kn.dL;rw[Jn]at this;exact (Jj.1 this).1,kn.chg⟩
theorem Kn.freeze {z gl:Nat}{o og og':Obj}(kn:Kn H0 H E (B++[(z,o)]))(i:Nat)(hB:B[i]? = some (gl,og))(hO:FrzO H (λm=>m == z) og og')(hn:og'≠.none) :
  FrzH H (λm=>m == z) ((H.frz λm=>m == z).set gl og')/\Kn H0 ((H.frz λm=>m == z).set gl og') E (B.set i (gl,og')):=by
 have eM:H0 z=.none:=kn.loc (z,o) ZC;have cM:=kn.dL;rw[Jn]at cM;have bf:∀p∈B,p.1≠z:=λp hp hh=>(Jj.1 cM).2.2 _ (AV hp) z ZC hh;have qB:∀p∈E,p.1≠z:=λp hp hh=>kn.ext p hp (hh▸eM);have d9:=bf _ (Ja hB);have hH:H gl=og:=(kn.get (gl,og) (Jd _ (Jc _ (Ja hB)))).1;refine⟨(CP _ _).set (by simpa using d9) (by rw[hH];exact hO),?_⟩;have kn1:Kn H0 (H.frz λm=>m == z) E B:=by
  refine⟨λp hp=>?_,kn.ext,λp hp=>kn.loc p (Jc _ hp),kn.dE,(Jj.1 cM).1,λm hm hx=>?_⟩
  ·have:p.1≠z:=by
    rcases Jb.1 hp with h|h
    ·exact qB p h
    ·exact bf p h
   have h2:(H.frz λm=>m == z) p.1=H p.1:=by simp[Heap.frz,this]
   rw[h2];refine kn.get p ?_;rcases Jb.1 hp with h|h
   ·exact Jc _ h
   ·exact Jd _ (Jc _ h)
  ·have:m≠z:=λh=>hm (h▸eM);have h2:(H.frz λm=>m == z) m=H m:=by simp[Heap.frz,this]
   rw[h2];exact kn.chg m hm hx
 exact kn1.setL i hB hn
theorem Kn.callEL (hk:Kn H0 H E L)(i j:Nat){l m:Nat}{o o' q q':Obj}(h:E[i]? = some (l,o))(h2:L[j]? = some (m,q))(hu:Upd H H' [(l,o'),(m,q')])(ho:o'≠.none)(hq:q'≠.none) :
  Kn H0 H' (E.set i (l,o')) (L.set j (m,q')):=by
 refine hk.callg hu (DH h) (DH h2) (λp hp=>?_) (λu hu=>?_)
 ·rcases Jb.1 hp with hp|hp
  ·rcases C8 hp with rfl|⟨b,hb,hp⟩
   ·exact⟨ho,.inl ZC⟩
   ·have hm:=Jc L (Ja hp);refine⟨(hk.get p hm).2,.inr ⟨hm,?_⟩⟩;simp only[Jq,J7,Ji,Jaa,or_false,not_or];exact⟨λhh=>hb (C9 hk.dE hp h hh),λhh=>hk.ext p (Ja hp) (hh▸hk.free j h2)⟩
  ·rcases C8 hp with rfl|⟨b,hb,hp⟩
   ·exact⟨hq,.inl ZC⟩
   ·have hm:=Jd E (Ja hp);refine⟨(hk.get p hm).2,.inr ⟨hm,?_⟩⟩;simp only[Jq,J7,Ji,Jaa,or_false,not_or];exact⟨λhh=>hk.usedE i h (hh▸hk.loc p (Ja hp)),λhh=>hb (C9 hk.dL hp h2 hh)⟩
 ·simp at hu;rcases hu with rfl|rfl
  ·exact .inl (AV (p:=(l,o)) (Ja h))
  ·exact .inr (AV (p:=(m,q)) (Ja h2))
end Go.AE
namespace Go.AE.Y
structure Blk where
 ic:C
 aV:List (List C)
 lg:Ul
 jump:Int
 on:Int
 nfl:Bool
 next:List Int
def Blk.row (b:Blk):List C:=[.sl true 2 [],b.ic,.int .i64 b.jump,.int .i64 b.on,.sl b.nfl 1 (Qc b.next)]
structure LS where
 fns:List Fn
 pfl:Bool
 params:Int
 ae:Int
 bc:C
 lb:Ul
 blocks:List Blk
 at_:Nat
 vc:C
 lv:Ul
 vars:List (List C)
 next:Int
def LS.o (s:LS):Obj:=.st [.sl s.pfl 3 (AU s.fns),.int .i64 s.params,.int .i64 s.ae,s.bc,.int .i64 s.at_,s.vc,.int .i64 s.next,.sl true 1 []]
def LS.L (s:LS)(w:Nat):List (Nat×Obj):=[(w,s.o)]++(s.lb++(s.lv++s.blocks.flatMap Blk.lg))
def InsRow (r:List C):Prop:=∃(op to n:Int) (fl:Bool) (args:List Int),r=[.int .i64 op,.int .i64 to,.sl fl 1 (Qc args),.int .i64 n]
def VarRow (r:List C):Prop:=∃(s:List UInt8) (a b:Int),r=[.str s,.int .i64 a,.int .i64 b]
def VGr (lv:List (Nat×Obj))(vars:List (List C))(c:C):Prop:=
 (c=.sl true 3 []/\vars=[]/\lv=[])\/∃y all n,c=.ai y 3 0 n/\n<=all.length/\vars=all.take n/\lv=[(y,.vec 3 all)]
structure LInv (F H:Heap)(w:Nat)(s:LS):Prop where
 kn:Kn F H [] (s.L w)
 gb:Gr s.lb 5 (s.blocks.map Blk.row) s.bc
 gv:VGr s.lv s.vars s.vc
 gi:∀b∈s.blocks,Gr b.lg 4 b.aV b.ic
 ri:∀b∈s.blocks,∀r∈b.aV,InsRow r
 rv:∀r∈s.vars,VarRow r
structure LS.ok (s:LS)(N:Nat):Prop where
 r0:0<=s.ae
 r1:s.ae<=N
 n0:0<=s.next
 n1:s.next<=N
 b1:s.blocks.length<=N
 i1:∀b∈s.blocks,b.aV.length<=N
 v1:s.vars.length<=N
theorem LS.ok.mono {s:LS}{N M:Nat}(h:s.ok N)(hm:N<=M):s.ok M:=
 ⟨h.r0,by have:=h.r1;omega,h.n0,by have:=h.n1;omega,by have:=h.b1;omega,λb hb=>by have:=h.i1 b hb;omega,by have:=h.v1;omega⟩
theorem InsRow.ak {r:List C}(h:InsRow r):Go.AE.ak r=true:=by obtain⟨_,_,_,_,_,rfl⟩:=h;rfl
theorem VarRow.ak {r:List C}(h:VarRow r):Go.AE.ak r=true:=by obtain⟨_,_,_,rfl⟩:=h;rfl
theorem VGr.ah {lv:Ul}{vars:List (List C)}{c:C}(h:VGr lv vars c):c.ah=false:=by
 rcases h with ⟨rfl,_⟩|⟨_,_,_,rfl,_⟩ <;> rfl
theorem VGr.aO {lv:Ul}{vars:List (List C)}{c:C}(h:VGr lv vars c):c.aO=3:=by
 rcases h with ⟨rfl,_⟩|⟨_,_,_,rfl,_⟩ <;> rfl
theorem VGr.ax {lv:Ul}{vars:List (List C)}{c:C}(h:VGr lv vars c):Go.AE.ax c=vars.length:=by
 rcases h with ⟨rfl,rfl,_⟩|⟨_,_,_,rfl,h,rfl,_⟩
 ·rfl
 ·simp[Go.AE.ax];omega
variable {F H H':Heap}{w:Nat}{s:LS}
theorem LInv.hw (h:LInv F H w s):H w=s.o:=h.kn.l 0 rfl
theorem LInv.vget (h:LInv F H w s):aW H s.vc=True/\rowsOf H s.vc=s.vars:=by
 rcases h.gv with ⟨h1,h2,_⟩|⟨y,all,n,h1,h2,h3,h4⟩
 ·rw[h1,h2];exact⟨rfl,rfl⟩
 ·have hy:H y=.vec 3 all:=(h.kn.get (y,.vec 3 all) (by simp[LS.L,h4])).1;rw[h1];refine⟨eq_true ?_,?_⟩
  ·simp only[Go.AE.aW,hy];exact⟨trivial,ZA⟩
  ·simp only[Go.AE.rowsOf,hy,Jac,h3]
theorem LInv.bvec (h:LInv F H w s)(hb:0<s.blocks.length):∃y,s.bc=.ai y 5 0 s.blocks.length/\s.lb=[(y,.vec 5 (s.blocks.map Blk.row))]/\H y=.vec 5 (s.blocks.map Blk.row):=by
 rcases h.gb with ⟨_,h2,_⟩|⟨y,h1,h2⟩
 ·simp at h2;rw[h2]at hb;simp at hb
 ·refine⟨y,by rw[h1];simp,h2,?_⟩;exact (h.kn.get (y,.vec 5 (s.blocks.map Blk.row)) (by simp[LS.L,h2])).1
theorem LInv.setw {s':LS}(h:LInv F H w s)(h1:H'=H.set w s'.o)(a1:s'.lb=s.lb)(a2:s'.lv=s.lv)(a3:s'.blocks=s.blocks)(a4:s'.bc=s.bc)(a5:VGr s.lv s'.vars s'.vc)(a6:∀r∈s'.vars,VarRow r):LInv F H' w s':=by
 refine⟨?_,by rw[a1,a3,a4];exact h.gb,by rw[a2];exact a5,by rw[a3];exact h.gi,by rw[a3];exact h.ri,a6⟩;have:=h.kn.aA 0 (x:=w) (o:=s.o) rfl h1 (by simp[LS.o]);simp only[LS.L,a1,a2,a3];exact this
theorem Yh {α:Type}{A X Y:List α}:(A++(X++Y)).Perm ((A++Y)++X):=by
 rw[Jm];exact .append_left _ Jp
theorem LInv.addBlk {K:Uk}{fl:Bool}{b:Blk}(h:LInv F H w s)(hl:s.blocks.length+1<=LIM)(b1:b.lg=[])(b2:b.ic=.sl true 4 [])(b3:b.aV=[])
  (hK:∀(y:Nat) (H1:Heap),H1 w=s.o->(∀H2,H2=H1.set w (LS.o { s with bc:=.ai y 5 0 (s.blocks.length+1) })->
   LInv F H2 w { s with bc:=.ai y 5 0 (s.blocks.length+1),lb:=[(y,.vec 5 ((s.blocks++[b]).map Blk.row))],blocks:=s.blocks++[b] })->K (.c (.ai y 5 0 (s.blocks.length+1))) H1) :
  appQ H 5 s.bc (.sl fl 5 [b.row]) K:=by
 have kn:=h.kn;have kn:Kn F H [] (([(w,s.o)]++(s.lv++s.blocks.flatMap Blk.lg))++s.lb):=kn.perm Yh;refine kn.grow h.gb (.mk' _ _ _ _) (by
  intro r hr;simp only[J4]at hr;subst hr;simp only[Blk.row,b2];rfl) Zae λy H1 kn=>?_
 have e1:(s.blocks.map Blk.row).length+[b.row].length=s.blocks.length+1:=ZC
 rw[e1];refine hK y H1 (kn.l 0 rfl) λH2 h2=>⟨?_,?_,h.gv,?_,?_,h.rv⟩
 ·have:=kn.aA 0 (x:=w) (o:=s.o) rfl h2 (by simp[LS.o]);simp only[LS.L,Jam,List.flatMap_cons,List.flatMap_nil,b1,Jaj,Jn,Jq,J7];simp only[Jy,Jr,Jao]at this⊢;refine this.perm (.cons _ ?_);exact Jp
 ·exact .mk _ _ _ ZC
 ·intro b' aT;rcases Jb.1 aT with aT|aT
  ·exact h.gi b' aT
  ·simp at aT;subst aT;rw[b1,b2,b3];exact .nil 4
 ·intro b' aT;rcases Jb.1 aT with aT|aT
  ·exact h.ri b' aT
  ·simp at aT;subst aT;rw[b3];simp
theorem DD {α β:Type}(f:α->List β)(l:List α)(i:Nat)(hi:i<l.length):(l.flatMap f).Perm (f l[i]++(l.eraseIdx i).flatMap f):=by
 have h1:(l[i]::l.eraseIdx i).Perm l:=by
  rw[List.eraseIdx_eq_take_drop_succ];refine List.perm_middle.symm.trans ?_;rw[<-List.drop_eq_getElem_cons hi,List.take_append_drop]
 have h2:=h1.symm.flatMap_right f;simpa using h2
theorem DN {α β:Type}(f:α->List β)(l:List α)(i:Nat)(x:α)(hi:i<l.length):((l.set i x).flatMap f).Perm (f x++(l.eraseIdx i).flatMap f):=by
 have:=DD f (l.set i x) i ZU;simpa[List.eraseIdx_set_eq]using this
theorem N1 (l:List Blk)(i:Nat)(b:Blk):(l.map Blk.row).set i b.row=(l.set i b).map Blk.row:=by rw[J8]
theorem GA {l:List Blk}{i:Nat}{b x:Blk}(h:x∈l.set i b):x=b\/x∈l:=by
 rcases C8 h with h|⟨j,_,h⟩
 ·exact .inl h
 ·exact .inr (Ja h)
theorem LInv.setBlk {b':Blk}{y i:Nat}(h:LInv F H w s)(hi:i<s.blocks.length)(dw:s.bc=.ai y 5 0 s.blocks.length)(oX:s.lb=[(y,.vec 5 (s.blocks.map Blk.row))])
  (h1:H'=H.set y (.vec 5 ((s.blocks.set i b').map Blk.row))) (a1:b'.lg=s.blocks[i].lg) (a2:b'.ic=s.blocks[i].ic) (a3:b'.aV=s.blocks[i].aV) :
  LInv F H' w { s with lb:=[(y,.vec 5 ((s.blocks.set i b').map Blk.row))],blocks:=s.blocks.set i b' }:=by
 have hm:=Jah hi;refine⟨?_,?_,h.gv,λb hb=>?_,λb hb=>?_,h.rv⟩
 ·have kn:=h.kn;simp only[LS.L,oX]at kn;have kn:=kn.aA 1 (x:=y) rfl h1;refine kn.perm ?_;simp only[LS.L,Jy,Jr,Jao,List.set_cons_succ];refine .cons _ (.cons _ (.append_left _ ?_));refine (DD Blk.lg s.blocks i hi).trans ?_;rw[<-a1];exact (DN Blk.lg s.blocks i b' hi).symm
 ·simp only[dw];exact .mk _ _ _ ZC
 ·rcases GA hb with rfl|hb
  ·rw[a1,a2,a3];exact h.gi _ hm
  ·exact h.gi b hb
 ·rcases GA hb with rfl|hb
  ·rw[a3];exact h.ri _ hm
  ·exact h.ri b hb
theorem LInv.addIns {K:Uk}{y i:Nat}{fl:Bool}{r:List C}(h:LInv F H w s)(hi:i<s.blocks.length)(dw:s.bc=.ai y 5 0 s.blocks.length)(oX:s.lb=[(y,.vec 5 (s.blocks.map Blk.row))])
  (hr:InsRow r) (hl:s.blocks[i].aV.length+1<=LIM)
  (hK:∀(z:Nat) (H1:Heap),H1 w=s.o->H1 y=.vec 5 (s.blocks.map Blk.row)->
   (∀H2,H2=H1.set y (.vec 5 ((s.blocks.map Blk.row).set i (Blk.row { s.blocks[i]with ic:=.ai z 4 0 (s.blocks[i].aV.length+1) })))->
    ∃b':Blk,b'.aV.length=s.blocks[i].aV.length+1/\LInv F H2 w { s with lb:=[(y,.vec 5 ((s.blocks.set i b').map Blk.row))],blocks:=s.blocks.set i b' })->K (.c (.ai z 4 0 (s.blocks[i].aV.length+1))) H1) :
  appQ H 4 s.blocks[i].ic (.sl fl 4 [r]) K:=by
 have hm:=Jah hi;have kn:=h.kn;simp only[LS.L]at kn;have kn:Kn F H [] (([(w,s.o)]++(s.lb++(s.lv++(s.blocks.eraseIdx i).flatMap Blk.lg)))++s.blocks[i].lg):=kn.perm (by
  have h1:(s.blocks.flatMap Blk.lg).Perm ((s.blocks.eraseIdx i).flatMap Blk.lg++s.blocks[i].lg):=(DD Blk.lg s.blocks i hi).trans Jp;refine ((h1.append_left _).append_left _ |>.append_left _).trans ?_;simp only[Jm];exact .refl _)
 refine kn.grow (h.gi _ hm) (.mk' _ _ _ _) (by intro r' bd;simp only[J4]at bd;subst bd;exact hr.ak) Zae λz H1 kn=>?_;have e1:s.blocks[i].aV.length+[r].length=s.blocks[i].aV.length+1:=ZC
 rw[e1];simp only[oX]at kn;refine hK z H1 (kn.l 0 rfl) (kn.l 1 rfl) λH2 h2=>?_;refine⟨{ s.blocks[i]with ic:=.ai z 4 0 (s.blocks[i].aV.length+1),aV:=s.blocks[i].aV++[r],lg:=[(z,.vec 4 (s.blocks[i].aV++[r]))] },ZC,?_⟩;have aC:Blk.row { s.blocks[i]with ic:=.ai z 4 0 (s.blocks[i].aV.length+1) }=Blk.row { s.blocks[i]with ic:=.ai z 4 0 (s.blocks[i].aV.length+1),aV:=s.blocks[i].aV++[r],lg:=[(z,.vec 4 (s.blocks[i].aV++[r]))] }:=rfl;rw[aC,N1]at h2;refine⟨?_,?_,h.gv,λb hb=>?_,λb hb=>?_,h.rv⟩
 ·have kn:=kn.aA 1 (x:=y) rfl h2;refine kn.perm ?_;simp only[LS.L];have h1:=(DN Blk.lg s.blocks i { s.blocks[i]with ic:=.ai z 4 0 (s.blocks[i].aV.length+1),aV:=s.blocks[i].aV++[r],lg:=[(z,.vec 4 (s.blocks[i].aV++[r]))] } hi).symm;have h3:=(Jp.trans h1).append_left ([(w,s.o)]++([(y,Obj.vec 5 ((s.blocks.set i { s.blocks[i]with ic:=.ai z 4 0 (s.blocks[i].aV.length+1),aV:=s.blocks[i].aV++[r],lg:=[(z,.vec 4 (s.blocks[i].aV++[r]))] }).map Blk.row))]++s.lv));refine List.Perm.trans ?_ (h3.trans ?_)
  ·simp only[List.set,Jy,Jr,Jm];exact .refl _
  ·simp only[Jy,Jr];exact .refl _
 ·simp only[dw];exact .mk _ _ _ ZC
 ·rcases GA hb with rfl|hb
  ·exact .mk _ _ _ ZC
  ·exact h.gi b hb
 ·rcases GA hb with rfl|hb
  ·intro r' bd;rcases Jb.1 bd with bd|bd
   ·exact h.ri _ hm r' bd
   ·simp at bd;subst bd;exact hr
  ·exact h.ri b hb
theorem LInv.addVar {K:Uk}{fl:Bool}{r:List C}(h:LInv F H w s)(hr:VarRow r)(hl:s.vars.length+1<=LIM)
  (hK:∀(y:Nat) (H1:Heap),H1 w=s.o->(∀H2,H2=H1.set w (LS.o { s with vc:=.ai y 3 0 (s.vars.length+1) })->
   LInv F H2 w { s with vc:=.ai y 3 0 (s.vars.length+1),lv:=[(y,.vec 3 (s.vars++[r]))],vars:=s.vars++[r] })->K (.c (.ai y 3 0 (s.vars.length+1))) H1) :
  appQ H 3 s.vc (.sl fl 3 [r]) K:=by
 have wm:∀r'∈s.vars++[r],VarRow r':=λr' bd=>by
  rcases Jb.1 bd with h1|h1
  ·exact h.rv r' h1
  ·simp at h1;subst h1;exact hr
 have kn:=h.kn;have kn:Kn F H [] (([(w,s.o)]++(s.lb++s.blocks.flatMap Blk.lg))++s.lv):=kn.perm (by
  simp only[LS.L];refine List.Perm.trans (.append_left _ (.append_left _ Jp)) ?_;simp only[Jm];exact .refl _)
 have fin:∀(y:Nat) (H1:Heap),Kn F H1 [] (([(w,s.o)]++(s.lb++s.blocks.flatMap Blk.lg))++[(y,.vec 3 (s.vars++[r]))])->K (.c (.ai y 3 0 (s.vars.length+1))) H1:=by
  intro y H1 kn;refine hK y H1 (kn.l 0 rfl) λH2 h2=>⟨?_,h.gb,.inr ⟨y,s.vars++[r],s.vars.length+1,rfl,ZC,by rw[Jz ZC],rfl⟩,h.gi,h.ri,wm⟩;have kn:=kn.aA 0 (x:=w) (o:=s.o) rfl h2 (by simp[LS.o]);refine kn.perm ?_;simp only[LS.L,List.set,Jy,Jr,Jm];refine .cons _ (.append_left _ ?_);exact Jp
 refine⟨trivial,rfl,?_⟩;rcases h.gv with ⟨h1,h2,h3⟩|⟨y,all,n,h1,h2,h3,h4⟩
 ·rw[h1];rw[h3,Jaj]at kn;simp only[rowsOf,Go.AE.ax,Jr,Jak,Jar,Jal];refine⟨trivial,.inl trivial,by intro r' bd;simp only[J4]at bd;subst bd;exact hr.ak,by simp only[LIM];omega,λl hl H' dG=>?_⟩;have:=fin l H' (by rw[h2];simpa using kn.al hl dG);rw[h2]at this;exact this
 ·rw[h4]at kn;have hy:H y=.vec 3 all:=(kn.get (y,.vec 3 all) ZC).1;have hn:s.vars.length=n:=by rw[h3];simp;omega
  rw[h1];simp only[hy,rowsOf,Go.AE.ax,Jac,Jal];refine⟨trivial,trivial,ZA,by intro r' bd;simp only[J4]at bd;subst bd;exact hr.ak,ZA,λl' de H' dG=>?_⟩;rw[<-hn]at dG⊢;rw[hn,<-h3]at dG;refine fin l' H' ?_;have:=kn.ap ([(w,s.o)]++(s.lb++s.blocks.flatMap Blk.lg)).length (y:=y) (o:=.vec 3 all) ZC de dG;simpa using this
end Go.AE.Y
namespace Go.AE.Y
structure InsD where
 op:Int
 to:Int
 args:List Int
 n:Int
def InsD.cells (x:InsD):List C:=[.int .i64 x.op,.int .i64 x.to,.sl false 1 (Qc x.args),.int .i64 x.n]
structure PhiD where
 to:Int
 args:List Int
def PhiD.cells (x:PhiD):List C:=[.int .i64 x.to,.sl false 1 (Qc x.args)]
def AD (l:List InsD):List (List C):=l.map InsD.cells
def Q3 (l:List PhiD):List (List C):=l.map PhiD.cells
structure BlkD where
 ab:List PhiD
 ins:List InsD
 jump:Int
 on:Int
 next:List Int
def BlkD.cells (x:BlkD):List C:=[.sl false 2 (Q3 x.ab),.sl false 4 (AD x.ins),.int .i64 x.jump,.int .i64 x.on,.sl false 1 (Qc x.next)]
def Qm (l:List BlkD):List (List C):=l.map BlkD.cells
structure CodeD where
 params:Int
 ae:Int
 blocks:List BlkD
def CodeD.cells (x:CodeD):List C:=[.int .i64 x.params,.int .i64 x.ae,.sl false 5 (Qm x.blocks)]
def Qn (l:List CodeD):List (List C):=l.map CodeD.cells
theorem Bm (l:List InsD):(AD l).length=l.length:=by simp[AD]
theorem Qy (l:List PhiD):(Q3 l).length=l.length:=by simp[Q3]
theorem Ql (l:List BlkD):(Qm l).length=l.length:=by simp[Qm]
theorem Q5 (l:List CodeD):(Qn l).length=l.length:=Zbl
theorem DJ (l:List InsD)(i:Nat)(h:i<l.length):(AD l).getD i []=(l[i]'h).cells:=by simp[AD,Je,h]
theorem BU (l:List PhiD)(i:Nat)(h:i<l.length):(Q3 l).getD i []=(l[i]'h).cells:=by simp[Q3,Je,h]
theorem Q9 (l:List BlkD)(i:Nat)(h:i<l.length):(Qm l).getD i []=(l[i]'h).cells:=by simp[Qm,Je,h]
theorem Cg (l:List CodeD)(i:Nat)(h:i<l.length):(Qn l).getD i []=(l[i]'h).cells:=by simp[Qn,Je,h]
theorem EV (l:List InsD):∀r∈AD l,ak r=true:=by intro r hr;obtain⟨x,_,rfl⟩:=Jh.1 hr;rfl
theorem PJ (l:List PhiD):∀r∈Q3 l,ak r=true:=by intro r hr;obtain⟨x,_,rfl⟩:=Jh.1 hr;rfl
theorem PH (l:List BlkD):∀r∈Qm l,ak r=true:=by intro r hr;obtain⟨x,_,rfl⟩:=Jh.1 hr;rfl
theorem Di (l:List CodeD):∀r∈Qn l,ak r=true:=by intro r hr;obtain⟨x,_,rfl⟩:=Jh.1 hr;rfl
theorem Qavn (a:List CodeD)(x:CodeD):Qn a++[x.cells]=Qn (a++[x]):=Zbl
theorem Qbe9 (a:List InsD)(x:InsD):AD a++[x.cells]=AD (a++[x]):=by simp[AD]
variable {H:Heap}{S:Nat->Bool}
theorem Gr.frzM {Lg:Ul}{sz:Nat}{rows rows':List (List C)}{c:C}(h:Gr Lg sz rows c)(hm:∀p∈Lg,H p.1=p.2/\S p.1=true)(hr:FrzR H S rows rows'):FrzC H S c (.sl false sz rows'):=by
 rcases h with ⟨rfl,rfl,rfl⟩|⟨y,rfl,rfl⟩
 ·cases hr;exact FrzR.nil.sl
 ·obtain⟨h1,h2⟩:=hm (y,.vec sz rows) ZC;exact hr.ai h2 h1 rfl
theorem InsRow.frz {r:List C}(h:InsRow r):∃d:InsD,FrzL H S r d.cells:=by
 obtain⟨op,to,n,fl,args,rfl⟩:=h;exact⟨⟨op,to,args,n⟩,.cons (Qg rfl) (.cons (Qg rfl) (.cons (FrzR.same (Qw _)).sl (.cons (Qg rfl) .nil)))⟩
def CodeD.fits (c:CodeD):Prop:=∀b∈c.blocks,b.ins.length<=2^38/\b.ab.length<=2^38
theorem N6:∀(l:List (List C)),(∀r∈l,InsRow r)->∃ds:List InsD,FrzR H S l (AD ds)
 |[],_=>⟨[],.nil⟩
 |r::l,h=>by
  obtain⟨d,hd⟩:=(h r Ju).frz (H:=H) (S:=S);obtain⟨ds,fD⟩:=N6 l λr' bd=>h r' (Jt _ bd);exact⟨d::ds,.cons hd fD⟩
theorem IM:∀(l:List Blk),(∀b∈l,Gr b.lg 4 b.aV b.ic/\(∀r∈b.aV,InsRow r)/\(∀p∈b.lg,H p.1=p.2/\S p.1=true)/\b.aV.length<=2^38)->
  ∃bs:List BlkD,FrzR H S (l.map Blk.row) (Qm bs)/\bs.length=l.length/\∀b∈bs,b.ins.length<=2^38/\b.ab.length<=2^38
 |[],_=>⟨[],.nil,rfl,ZC⟩
 |b::l,h=>by
  obtain⟨g1,g2,g3,g4⟩:=h b Ju;obtain⟨bs,h1,h2,h3⟩:=IM l λr' bd=>h r' (Jt _ bd);obtain⟨ds,fD⟩:=N6 (H:=H) (S:=S) b.aV g2;have mr:=fD.spec.1;rw[Bm]at mr;refine⟨⟨[],ds,b.jump,b.on,b.next⟩::bs,.cons ?_ h1,by simp[h2],λb' aT=>?_⟩
  ·exact .cons FrzR.nil.sl (.cons (Gr.frzM g1 g3 fD) (.cons (Qg rfl) (.cons (Qg rfl) (.cons (FrzR.same (Qw _)).sl .nil))))
  ·rcases Ji.1 aT with rfl|aT
   ·exact⟨by show ds.length<=_;omega,ZC⟩
   ·exact h3 b' aT
end Go.AE.Y
namespace Go.AE
variable {H0 H H' F:Heap}{E L B A:Ul}
theorem Kn.toFrame {y:Nat}{o:Obj}(kn:Kn F H [] (L++[(y,o)])):Kn (F.set y o) H [] L:=by
 have cM:=kn.dL;rw[Jn]at cM;have bf:∀p∈L,p.1≠y:=λp hp hh=>(Jj.1 cM).2.2 _ (AV hp) y ZC hh;refine⟨λp hp=>kn.get p (by simp only[Jr]at hp⊢;exact Jc _ hp),ZC,λp hp=>?_,ZC,(Jj.1 cM).1,λm hm _=>?_⟩
 ·rw[Heap.aj _ _ (bf p hp)];exact kn.loc p (Jc _ hp)
 ·by_cases h:m=y
  ·subst h;rw[Heap.aE];exact (kn.get (m,o) ZC).1
  ·rw[Heap.aj _ _ h]at hm⊢;exact kn.chg m hm ZC
theorem Kn.ofFrame {y:Nat}{o:Obj}(kn:Kn (F.set y o) H [] L)(hF:F y=.none)(ho:o≠.none):Kn F H [] (L++[(y,o)]):=by
 have hy:H y=o:=by have:=kn.chg y (by rw[Heap.aE];exact ho) ZC;rw[this,Heap.aE]
 have bf:∀p∈L,p.1≠y:=λp hp hh=>by have:=kn.loc p hp;rw[hh,Heap.aE]at this;exact ho this
 refine⟨λp hp=>?_,ZC,λp hp=>?_,ZC,?_,λm hm _=>?_⟩
 ·simp only[Jr]at hp;rcases Jb.1 hp with hp|hp
  ·exact kn.get p (by simpa using hp)
  ·simp at hp;subst hp;exact⟨hy,ho⟩
 ·rcases Jb.1 hp with hp|hp
  ·have:=kn.loc p hp;rw[Heap.aj _ _ (bf p hp)]at this;exact this
  ·simp at hp;subst hp;exact hF
 ·rw[Jn];refine Jj.2 ⟨kn.dL,ZC,λa ha b hb=>?_⟩;simp at hb;subst hb;obtain⟨p,hp,rfl⟩:=Jh.1 ha;exact bf p hp
 ·have z7:m≠y:=λh=>by subst h;exact hm hF
  have:=kn.chg m (by rw[Heap.aj _ _ z7];exact hm) ZC;rw[this,Heap.aj _ _ z7]
theorem Kn.frz1 {z:Nat}{o:Obj}(kn:Kn H0 H E (B++[(z,o)])):Kn H0 (H.frz λm=>m == z) E B:=by
 have eM:H0 z=.none:=kn.loc (z,o) ZC;have cM:=kn.dL;rw[Jn]at cM;have bf:∀p∈B,p.1≠z:=λp hp hh=>(Jj.1 cM).2.2 _ (AV hp) z ZC hh;have qB:∀p∈E,p.1≠z:=λp hp hh=>kn.ext p hp (hh▸eM);refine⟨λp hp=>?_,kn.ext,λp hp=>kn.loc p (Jc _ hp),kn.dE,(Jj.1 cM).1,λm hm hx=>?_⟩
 ·have:p.1≠z:=by
   rcases Jb.1 hp with h|h
   ·exact qB p h
   ·exact bf p h
  have h2:(H.frz λm=>m == z) p.1=H p.1:=by simp[Heap.frz,this]
  rw[h2];refine kn.get p ?_;rcases Jb.1 hp with h|h
  ·exact Jc _ h
  ·exact Jd _ (Jc _ h)
 ·have:m≠z:=λh=>hm (h▸eM);have h2:(H.frz λm=>m == z) m=H m:=by simp[Heap.frz,this]
  rw[h2];exact kn.chg m hm hx
theorem Gr.freeze {Lg:Ul}{sz:Nat}{rows:List (List C)}{c:C}(h:Gr Lg sz rows c)(kn:Kn H0 H E (B++Lg))(hr:∀r∈rows,ak r=true) :
  ∃S H2,FrzC H S c (.sl false sz rows)/\FrzH H S H2/\Kn H0 H2 E B:=by
 rcases h with ⟨rfl,rfl,rfl⟩|⟨y,rfl,rfl⟩
 ·refine⟨λ_=>false,H,Y.FrzR.nil.sl,λm=>.inr ⟨rfl,.same _⟩,ZL⟩
 ·exact⟨λm=>m == y,_,(Y.FrzR.same hr).ai ZC (kn.get (y,.vec sz rows) ZC).1 rfl,CP _ _,kn.frz1⟩
end Go.AE
namespace Go.AE.Y
variable {F H H':Heap}{w:Nat}{s:LS}{Lg:Ul}{sz:Nat}{rows:List (List C)}{c:C}
theorem LInv.re {H2:Heap}(h:LInv F H w s)(kn:Kn F H2 [] (s.L w)):LInv F H2 w s:=⟨kn,h.gb,h.gv,h.gi,h.ri,h.rv⟩
theorem LInv.beside (h:LInv F H w s)(kn:Kn F H [] (s.L w++Lg))(hg:Gr Lg sz rows c) :
  ∃F',LInv F' H w s/\∀(s':LS) (H':Heap),LInv F' H' w s'->LInv F H' w s'/\Kn F H' [] (s'.L w++Lg):=by
 rcases hg with ⟨_,_,rfl⟩|⟨y,_,rfl⟩
 ·exact⟨F,h,λs' H' h'=>⟨h',by simpa using h'.kn⟩⟩
 ·refine⟨F.set y (.vec sz rows),⟨kn.toFrame,h.gb,h.gv,h.gi,h.ri,h.rv⟩,λs' H' h'=>?_⟩;have k2:=h'.kn.ofFrame (kn.loc (y,.vec sz rows) ZC) ZC;exact⟨⟨k2.drop,h'.gb,h'.gv,h'.gi,h'.ri,h'.rv⟩,k2⟩
end Go.AE.Y
namespace Go.AE
variable {H0 H H':Heap}{E L N B:Ul}
theorem Kn.comp0 (kn:Kn H0 H E L)(k2:Kn H H' [] N):Kn H0 H' E (L++N):=by
 have bf:∀p∈E++L,H p.1≠.none:=λp hp=>by obtain⟨a,b⟩:=kn.get p hp;rw[a];exact b
 refine⟨λp hp=>?_,kn.ext,λp hp=>?_,kn.dE,?_,λm hm hx=>?_⟩
 ·rw[<-Jm]at hp;rcases Jb.1 hp with hp|hp
  ·obtain⟨a,b⟩:=kn.get p hp;exact⟨by rw[k2.chg p.1 (bf p hp) ZC,a],b⟩
  ·exact k2.get p (by simpa using hp)
 ·rcases Jb.1 hp with hp|hp
  ·exact kn.loc p hp
  ·exact (kn.newFree (k2.loc p hp)).1
 ·rw[Jn];refine Jj.2 ⟨kn.dL,k2.dL,λa ha b hb eH=>?_⟩;obtain⟨p,hp,rfl⟩:=Jh.1 ha;obtain⟨q,hq,rfl⟩:=Jh.1 hb;exact bf p (Jd _ hp) (by rw[eH];exact k2.loc q hq)
 ·have:=kn.chg m hm hx;rw[k2.chg m (by rw[this];exact hm) ZC,this]
theorem Kn.compE (kn:Kn H0 H E L)(i:Nat){l:Nat}{o o':Obj}(h:E[i]? = some (l,o))(k2:Kn H H' [(l,o')] N):Kn H0 H' (E.set i (l,o')) (L++N):=by
 have bf:∀p∈E++L,H p.1≠.none:=λp hp=>by obtain⟨a,b⟩:=kn.get p hp;rw[a];exact b
 have hl:H' l=o'/\o'≠.none:=k2.get (l,o') ZC;have hu:Upd H H' [(l,o')]:=⟨λp hp=>by simp at hp;subst hp;exact hl.1,λm hm hx=>k2.chg m hm hx⟩;have k3:=kn.aq i h hu hl.2;refine⟨λp hp=>?_,k3.ext,λp hp=>?_,k3.dE,?_,k3.chg⟩
 ·rw[<-Jm]at hp;rcases Jb.1 hp with hp|hp
  ·exact k3.get p hp
  ·exact k2.get p (Jd _ hp)
 ·rcases Jb.1 hp with hp|hp
  ·exact kn.loc p hp
  ·exact (kn.newFree (k2.loc p hp)).1
 ·rw[Jn];refine Jj.2 ⟨kn.dL,k2.dL,λa ha b hb eH=>?_⟩;obtain⟨p,hp,rfl⟩:=Jh.1 ha;obtain⟨q,hq,rfl⟩:=Jh.1 hb;exact bf p (Jd _ hp) (by rw[eH];exact k2.loc q hq)
theorem Kn.finK (hk:Kn H0 H E (B++N)):Kn H0 (H.frz (Go.AE.unx H0 N)) E N:=by
 obtain⟨h1,h2⟩:=hk.finx;have hd:=hk.dL;rw[Jn]at hd;refine⟨λp hp=>?_,hk.ext,λp hp=>hk.loc p (Jd _ hp),hk.dE,(Jj.1 hd).2.1,h1.2⟩;rcases Jb.1 hp with hp|hp
 ·exact⟨h1.1 p hp,(hk.get p (Jc _ hp)).2⟩
 ·exact⟨(h2 p hp).2,(hk.get p (Jd _ (Jd _ hp))).2⟩
end Go.AE
namespace Go.AE.Y
structure OInts where
 ns:List Int
 y:Nat
def OInts.c (x:OInts):C:=.ai x.y 1 0 x.ns.length
def OInts.lg (x:OInts):List (Nat×Obj):=[(x.y,.vec 1 (Qc x.ns))]
structure OPhi where
 to:Int
 ns:List Int
 ac:C
 lg:Ul
def OPhi.row (x:OPhi):List C:=[.int .i64 x.to,x.ac]
def OPhi.ok (x:OPhi):Prop:=(∃y,x.ac=.ai y 1 0 x.ns.length/\x.lg=[(y,.vec 1 (Qc x.ns))])\/(∃fl,x.ac=.sl fl 1 (Qc x.ns)/\x.lg=[])
def OPhi.own (x:OPhi):Prop:=∃y,x.ac=.ai y 1 0 x.ns.length/\x.lg=[(y,.vec 1 (Qc x.ns))]
structure OIns where
 op:Int
 to:Int
 a:OInts
 n:Int
def OIns.row (x:OIns):List C:=[.int .i64 x.op,.int .i64 x.to,x.a.c,.int .i64 x.n]
def OIns.lg (x:OIns):List (Nat×Obj):=x.a.lg
structure OBlk where
 ab:List OPhi
 pc:C
 pl:Ul
 ins:List OIns
 ic:C
 il:Ul
 jump:Int
 on:Int
 nx:OInts
def OBlk.row (x:OBlk):List C:=[x.pc,x.ic,.int .i64 x.jump,.int .i64 x.on,x.nx.c]
def OBlk.lg (x:OBlk):List (Nat×Obj):=x.nx.lg++(x.ab.flatMap OPhi.lg++(x.pl++(x.ins.flatMap OIns.lg++x.il)))
structure OBlk.ok (x:OBlk):Prop where
 p:Gr x.pl 2 (x.ab.map OPhi.row) x.pc
 i:Gr x.il 4 (x.ins.map OIns.row) x.ic
 a:∀p∈x.ab,p.ok
structure OCode where
 params:Int
 ae:Int
 blocks:List OBlk
 bc:C
 bl:Ul
def OCode.row (x:OCode):List C:=[.int .i64 x.params,.int .i64 x.ae,x.bc]
def OCode.lg (x:OCode):List (Nat×Obj):=x.blocks.flatMap OBlk.lg++x.bl
structure OCode.ok (x:OCode):Prop where
 b:Gr x.bl 5 (x.blocks.map OBlk.row) x.bc
 bs:∀b∈x.blocks,b.ok
def OPhi.d (x:OPhi):PhiD:=⟨x.to,x.ns⟩
def OIns.d (x:OIns):InsD:=⟨x.op,x.to,x.a.ns,x.n⟩
def OBlk.d (x:OBlk):BlkD:=⟨x.ab.map OPhi.d,x.ins.map OIns.d,x.jump,x.on,x.nx.ns⟩
def OCode.d (x:OCode):CodeD:=⟨x.params,x.ae,x.blocks.map OBlk.d⟩
theorem OPhi.ak (x:OPhi)(h:x.ok):Go.AE.ak x.row=true:=by
 rcases h with ⟨y,h,_⟩|⟨fl,h,_⟩ <;> simp only[Go.AE.ak,OPhi.row,h] <;> rfl
theorem OIns.ak (x:OIns):Go.AE.ak x.row=true:=rfl
theorem OBlk.ak (x:OBlk)(h:x.ok):Go.AE.ak x.row=true:=by
 simp only[Go.AE.ak,OBlk.row,OInts.c,J3,J6,h.p.ah,h.i.ah];rfl
theorem OCode.ak (x:OCode)(h:x.ok):Go.AE.ak x.row=true:=by
 simp only[Go.AE.ak,OCode.row,J3,J6,h.b.ah];rfl
variable {H:Heap}{S:Nat->Bool}
def Held (H:Heap)(S:Nat->Bool)(l:List (Nat×Obj)):Prop:=∀p∈l,H p.1=p.2/\S p.1=true
theorem Held.l {a b:Ul}(h:Held H S (a++b)):Held H S a:=λp hp=>h p (Jc _ hp)
theorem Held.r {a b:Ul}(h:Held H S (a++b)):Held H S b:=λp hp=>h p (Jd _ hp)
theorem Held.m {α:Type}{f:α->Ul}{l:List α}(h:Held H S (l.flatMap f)){x:α}(hx:x∈l):Held H S (f x):=λp hp=>h p (List.mem_flatMap.2 ⟨x,hx,hp⟩)
theorem OInts.frz (x:OInts)(h:Held H S x.lg):FrzC H S x.c (.sl false 1 (Qc x.ns)):=by
 obtain⟨h1,h2⟩:=h (x.y,.vec 1 (Qc x.ns)) (by simp[OInts.lg]);exact (FrzR.same (Qw _)).ai h2 h1 Zat
theorem OPhi.frz (x:OPhi)(aw:x.ok)(h:Held H S x.lg):FrzL H S x.row (PhiD.mk x.to x.ns).cells:=by
 refine .cons (Qg rfl) (.cons ?_ .nil);rcases aw with ⟨y,h1,h2⟩|⟨fl,h1,h2⟩
 ·obtain⟨h3,h4⟩:=h (y,.vec 1 (Qc x.ns)) Zai;rw[h1];exact (FrzR.same (Qw _)).ai h4 h3 Zat
 ·rw[h1];exact (FrzR.same (Qw _)).sl
theorem OIns.frz (x:OIns)(h:Held H S x.lg):FrzL H S x.row (InsD.mk x.op x.to x.a.ns x.n).cells:=.cons (Qg rfl) (.cons (Qg rfl) (.cons (x.a.frz h) (.cons (Qg rfl) .nil)))
theorem Gb {α β:Type}{f:α->List C}{g:β->List C}:∀(l:List α),(∀x∈l,∃y,FrzL H S (f x) (g y))->∃l':List β,FrzR H S (l.map f) (l'.map g)/\l'.length=l.length
 |[],_=>⟨[],.nil,rfl⟩
 |x::l,h=>by
  obtain⟨y,hy⟩:=h x Ju;obtain⟨l',de,hn⟩:=Gb l λz hz=>h z (Jt _ hz);exact⟨y::l',.cons hy de,ZaO⟩
theorem GT {α β:Type}{P:β->Prop}{f:α->List C}{g:β->List C}:∀(l:List α),(∀x∈l,∃y,FrzL H S (f x) (g y)/\P y)->∃l':List β,FrzR H S (l.map f) (l'.map g)/\l'.length=l.length/\∀y∈l',P y
 |[],_=>⟨[],.nil,rfl,ZC⟩
 |x::l,h=>by
  obtain⟨y,hy,hp⟩:=h x Ju;obtain⟨l',de,hn,fj⟩:=GT l λz hz=>h z (Jt _ hz);refine⟨y::l',.cons hy de,ZaO,λz hz=>?_⟩;rcases Ji.1 hz with rfl|hz
  ·exact hp
  ·exact fj z hz
theorem OBlk.frz (x:OBlk)(aw:x.ok)(h:Held H S x.lg):∃d:BlkD,FrzL H S x.row d.cells/\d.next=x.nx.ns/\d.ins.length=x.ins.length/\d.ab.length=x.ab.length:=by
 obtain⟨ps,fj,sV⟩:=Gb (H:=H) (S:=S) (f:=OPhi.row) (g:=PhiD.cells) x.ab λp hp=>⟨_,p.frz (aw.a p hp) (h.r.l.m hp)⟩;obtain⟨is,nf,cq⟩:=Gb (H:=H) (S:=S) (f:=OIns.row) (g:=InsD.cells) x.ins λp hp=>⟨_,p.frz (h.r.r.r.l.m hp)⟩;exact⟨⟨ps,is,x.jump,x.on,x.nx.ns⟩,.cons (Gr.frzM aw.p h.r.r.l fj) (.cons (Gr.frzM aw.i h.r.r.r.r nf) (.cons (Qg rfl) (.cons (Qg rfl) (.cons (x.nx.frz h.l) .nil)))),rfl,cq,sV⟩
end Go.AE.Y
namespace Go.AE.Y
theorem CT {α:Type}{A L1 L2:List α}:(A++L1++L2).Perm (A++L2++L1):=by
 rw[Jm,Jm];exact .append_left _ Jp
structure BlkD.sm (b:BlkD):Prop where
 n:b.next.length<=2
 i:b.ins.length<=1000
 p:b.ab.length<=1000
 ia:∀x∈b.ins,x.args.length<=1000
 pa:∀x∈b.ab,x.args.length<=1000
structure CodeD.sm (c:CodeD):Prop where
 b0:0<c.blocks.length
 b:c.blocks.length<=160
 bs:∀b∈c.blocks,b.sm
 p0:0<=c.params
 p1:c.params<=1000
structure OBlk.sm (b:OBlk)(N:Nat):Prop where
 n:b.nx.ns.length<=2
 i:b.ins.length<=1000
 p:b.ab.length<=N
 ia:∀x∈b.ins,x.a.ns.length<=N
 pa:∀x∈b.ab,x.ns.length<=N
structure OCode.sm (c:OCode)(N:Nat):Prop where
 b0:0<c.blocks.length
 b:c.blocks.length<=160
 bs:∀b∈c.blocks,b.sm N
 p0:0<=c.params
 p1:c.params<=1000
theorem OBlk.sm.mono {b:OBlk}{N M:Nat}(h:b.sm N)(hm:N<=M):b.sm M:=⟨h.n,h.i,by have:=h.p;omega,λx hx=>by have:=h.ia x hx;omega,λx hx=>by have:=h.pa x hx;omega⟩
theorem OCode.sm.mono {c:OCode}{N M:Nat}(h:c.sm N)(hm:N<=M):c.sm M:=⟨h.b0,h.b,λb hb=>(h.bs b hb).mono hm,h.p0,h.p1⟩
structure BlkD.sg (b:BlkD):Prop where
 n:b.next.length<=1000000
 i:b.ins.length<=1000000
 p:b.ab.length<=1000000
 ia:∀x∈b.ins,x.args.length<=1000000
 pa:∀x∈b.ab,x.args.length<=1000000
structure CodeD.sg (c:CodeD):Prop where
 b:c.blocks.length<=1000000
 bs:∀b∈c.blocks,b.sg
theorem BlkD.sm.sg {b:BlkD}(h:b.sm):b.sg:=⟨by have:=h.n;omega,by have:=h.i;omega,by have:=h.p;omega,λx hx=>by have:=h.ia x hx;omega,λx hx=>by have:=h.pa x hx;omega⟩
theorem CodeD.sm.sg {c:CodeD}(h:c.sm):c.sg:=⟨by have:=h.b;omega,λb hb=>(h.bs b hb).sg⟩
structure CodeD.gd (c:CodeD):Prop where
 b0:0<c.blocks.length
 b1:c.blocks.length<=160
 n:∀b∈c.blocks,b.next.length<=2
 f:c.fits
 s:c.sg
theorem CodeD.sm.fits {c:CodeD}(h:c.sm):c.fits:=λb hb=>⟨by have:=(h.bs b hb).i;omega,by have:=(h.bs b hb).p;omega⟩
theorem CodeD.sm.gd {c:CodeD}(h:c.sm):c.gd:=⟨h.b0,h.b,λb hb=>(h.bs b hb).n,h.fits,h.sg⟩
theorem BlkD.sm.o {o:OBlk}(h:o.d.sm):o.sm 1000:=
 ⟨h.n,by have:=h.i;simp only[OBlk.d,J2]at this;exact this,by have:=h.p;simp only[OBlk.d,J2]at this;exact this,λx hx=>h.ia x.d (Jh.2 ⟨x,hx,rfl⟩),λx hx=>h.pa x.d (Jh.2 ⟨x,hx,rfl⟩)⟩
theorem CodeD.sm.o {o:OCode}(h:o.d.sm):o.sm 1000:=
 ⟨by have:=h.b0;simp only[OCode.d,J2]at this;exact this,by have:=h.b;simp only[OCode.d,J2]at this;exact this,λb hb=>(h.bs b.d (Jh.2 ⟨b,hb,rfl⟩)).o,h.p0,h.p1⟩
variable {H:Heap}{S:Nat->Bool}
theorem Pn {α β:Type}{f:α->List C}{g:β->List C}{d:α->β}:∀(l:List α),(∀x∈l,FrzL H S (f x) (g (d x)))->FrzR H S (l.map f) ((l.map d).map g)
 |[],_=>.nil
 |x::l,h=>.cons (h x Ju) (Pn l λz hz=>h z (Jt _ hz))
theorem OBlk.frzD (x:OBlk)(aw:x.ok)(h:Held H S x.lg):FrzL H S x.row x.d.cells:=by
 have fj:=Pn (H:=H) (S:=S) (f:=OPhi.row) (g:=PhiD.cells) (d:=OPhi.d) x.ab λp hp=>p.frz (aw.a p hp) (h.r.l.m hp);have nf:=Pn (H:=H) (S:=S) (f:=OIns.row) (g:=InsD.cells) (d:=OIns.d) x.ins λp hp=>p.frz (h.r.r.r.l.m hp);exact .cons (Gr.frzM aw.p h.r.r.l fj) (.cons (Gr.frzM aw.i h.r.r.r.r nf) (.cons (Qg rfl) (.cons (Qg rfl) (.cons (x.nx.frz h.l) .nil))))
theorem OCode.frz (x:OCode){N:Nat}(hN:N<=100000)(aw:x.ok)(hs:x.sm N)(h:Held H S x.lg):∃d:CodeD,FrzL H S x.row d.cells/\d.gd:=by
 have kH:=Pn (H:=H) (S:=S) (f:=OBlk.row) (g:=BlkD.cells) (d:=OBlk.d) x.blocks λb hb=>b.frzD (aw.bs b hb) (h.l.m hb);have fE:=hs.b0;have bg:=hs.b;have hd:∀d∈x.blocks.map OBlk.d,d.next.length<=2/\d.ins.length<=1000/\d.ab.length<=N/\(∀i∈d.ins,i.args.length<=N)/\∀i∈d.ab,i.args.length<=N:=λd hd=>by
  obtain⟨b,hb,rfl⟩:=Jh.1 hd;have fH:=hs.bs b hb;refine⟨fH.n,by simpa[OBlk.d]using fH.i,by simpa[OBlk.d]using fH.p,λi hi=>?_,λi hi=>?_⟩
  ·obtain⟨y,hy,rfl⟩:=Jh.1 hi;exact fH.ia y hy
  ·obtain⟨y,hy,rfl⟩:=Jh.1 hi;exact fH.pa y hy
 refine⟨⟨x.params,x.ae,x.blocks.map OBlk.d⟩,.cons (Qg rfl) (.cons (Qg rfl) (.cons (Gr.frzM aw.b h.r kH) .nil)),by simpa using fE,by simpa using bg,λb hb=>(hd b hb).1,λb hb=>?_,by simp only[J2];omega,λb hb=>?_⟩
 ·obtain⟨h1,h2,h3,h4,h5⟩:=hd b hb;omega
 ·obtain⟨h1,h2,h3,h4,h5⟩:=hd b hb;exact⟨ZA,ZA,ZA,λi hi=>by have:=h4 i hi;omega,λi hi=>by have:=h5 i hi;omega⟩
theorem OCodes.frz {N:Nat}(hN:N<=100000){us:List OCode}{cc:C}{cl:Ul}(hg:Gr cl 3 (us.map OCode.row) cc)(hu:∀u∈us,u.ok/\u.sm N)(h:Held H S (us.flatMap OCode.lg++cl)) :
  ∃cs:List CodeD,FrzC H S cc (.sl false 3 (Qn cs))/\cs.length=us.length/\∀c∈cs,c.gd:=by
 obtain⟨cs,h1,h2,h3⟩:=GT (H:=H) (S:=S) (P:=CodeD.gd) (f:=OCode.row) (g:=CodeD.cells) us λu fb=>u.frz hN (hu u fb).1 (hu u fb).2 (h.l.m fb);exact⟨cs,Gr.frzM hg h.r h1,h2,h3⟩
end Go.AE.Y
namespace Go.AE
variable {P:Program}
theorem Bk {a b:SC}{Q:X->Env->Heap->Prop}{e:Env}{H:Heap}(T:Env->Heap->Prop)(h1:∀Q':X->Env->Heap->Prop,(∀e H,T e H->Q' .nrm e H)->(∀e H,Q .ret e H->Q' .ret e H)->(∀i e H,Q (.exit i) e H->Q' (.exit i) e H)->A9 P a Q' e H)
  (h2:∀e H,T e H->A9 P b Q e H):A9 P (.seq a b) Q e H:=h1 (X.sq P b Q) h2 (λ_ _ h=>h) (λ_ _ _ h=>h)
end Go.AE
namespace Go.AE.Y
structure UPhi where
 to:Int
 ns:List Int
 ac:C
 al:Ul
def UPhi.row (x:UPhi):List C:=[.int .i64 x.to,x.ac]
structure UBlk where
 ab:List UPhi
 pc:C
 pl:Ul
 ins:List InsD
 ic:C
 il:Ul
 jump:Int
 on:Int
 nfl:Bool
 next:List Int
def UBlk.row (x:UBlk):List C:=[x.pc,x.ic,.int .i64 x.jump,.int .i64 x.on,.sl x.nfl 1 (Qc x.next)]
def UBlk.lg (x:UBlk):List (Nat×Obj):=x.il++(x.ab.flatMap UPhi.al++x.pl)
structure UBlk.ok (x:UBlk):Prop where
 p:Gr x.pl 2 (x.ab.map UPhi.row) x.pc
 i:Gr x.il 4 (AD x.ins) x.ic
 a:∀p∈x.ab,Gr p.al 1 (Qc p.ns) p.ac
structure UBlk.sm (b:UBlk)(N:Nat):Prop where
 n:b.next.length<=2
 i:b.ins.length<=1000
 p:b.ab.length<=N
 ia:∀x∈b.ins,x.args.length<=1000
 pa:∀x∈b.ab,x.ns.length<=1000
structure UCode where
 params:Int
 ae:Int
 blocks:List UBlk
 bc:C
 bl:Ul
def UCode.row (x:UCode):List C:=[.int .i64 x.params,.int .i64 x.ae,x.bc]
def UCode.lg (x:UCode):List (Nat×Obj):=x.blocks.flatMap UBlk.lg++x.bl
structure UCode.ok (x:UCode):Prop where
 b:Gr x.bl 5 (x.blocks.map UBlk.row) x.bc
 bs:∀b∈x.blocks,b.ok
 p0:0<=x.params
 p1:x.params<=3
structure UCode.sm (c:UCode)(N:Nat):Prop where
 b0:0<c.blocks.length
 b:c.blocks.length<=160
 bs:∀b∈c.blocks,b.sm N
theorem UPhi.ak (x:UPhi)(h:Gr x.al 1 (Qc x.ns) x.ac):Go.AE.ak x.row=true:=by
 simp only[Go.AE.ak,UPhi.row,J3,J6,h.ah];rfl
theorem UBlk.ak (x:UBlk)(h:x.ok):Go.AE.ak x.row=true:=by
 simp only[Go.AE.ak,UBlk.row,J3,J6,h.p.ah,h.i.ah];rfl
theorem UCode.ak (x:UCode)(h:x.ok):Go.AE.ak x.row=true:=by
 simp only[Go.AE.ak,UCode.row,J3,J6,h.b.ah];rfl
theorem UBlk.len5 (x:UBlk):x.row.length=5:=rfl
theorem UCode.len3 (x:UCode):x.row.length=3:=rfl
theorem UBlk.sm.mono {b:UBlk}{N M:Nat}(h:b.sm N)(hm:N<=M):b.sm M:=⟨h.n,h.i,by have:=h.p;omega,h.ia,h.pa⟩
theorem UCode.sm.mono {c:UCode}{N M:Nat}(h:c.sm N)(hm:N<=M):c.sm M:=⟨h.b0,h.b,λb hb=>(h.bs b hb).mono hm⟩
variable {H:Heap}{S:Nat->Bool}
theorem UBlk.frz (x:UBlk){N:Nat}(hN:N<=1000)(aw:x.ok)(hs:x.sm N)(h:Held H S x.lg):∃d:BlkD,FrzL H S x.row d.cells/\d.sm:=by
 obtain⟨ps,fj,sV,hpp⟩:=GT (H:=H) (S:=S) (P:=λp:PhiD=>p.args.length<=1000) (f:=UPhi.row) (g:=PhiD.cells) x.ab λp hp=>
  ⟨⟨p.to,p.ns⟩,.cons (Qg rfl) (.cons (Gr.frzM (aw.a p hp) (h.r.l.m hp) (FrzR.same (Qw _))) .nil),hs.pa p hp⟩
 have h1:=hs.n;have h2:=hs.i;have h3:=hs.p;exact⟨⟨ps,x.ins,x.jump,x.on,x.next⟩,.cons (Gr.frzM aw.p h.r.r fj) (.cons (Gr.frzM aw.i h.l (FrzR.same (EV _))) (.cons (Qg rfl) (.cons (Qg rfl) (.cons (FrzR.same (Qw _)).sl .nil)))),
  h1,h2,by show ps.length<=_;omega,hs.ia,hpp⟩
theorem UCode.frz (x:UCode){N:Nat}(hN:N<=1000)(aw:x.ok)(hs:x.sm N)(h:Held H S x.lg):∃d:CodeD,FrzL H S x.row d.cells/\d.sm:=by
 obtain⟨bs,kH,cr,yn⟩:=GT (H:=H) (S:=S) (P:=BlkD.sm) (f:=UBlk.row) (g:=BlkD.cells) x.blocks λb hb=>b.frz hN (aw.bs b hb) (hs.bs b hb) (h.l.m hb);have fE:=hs.b0;have bg:=hs.b;exact⟨⟨x.params,x.ae,bs⟩,.cons (Qg rfl) (.cons (Qg rfl) (.cons (Gr.frzM aw.b h.r kH) .nil)),by show 0<bs.length;omega,by show bs.length<=_;omega,yn,aw.p0,by have:=aw.p1;show x.params<=_;omega⟩
theorem UCodes.frz {us:List UCode}{N:Nat}(hN:N<=1000){cc:C}{cl:Ul}(hg:Gr cl 3 (us.map UCode.row) cc)(hu:∀u∈us,u.ok/\u.sm N)(h:Held H S (us.flatMap UCode.lg++cl)) :
  ∃cs:List CodeD,FrzC H S cc (.sl false 3 (Qn cs))/\cs.length=us.length/\∀c∈cs,c.sm:=by
 obtain⟨cs,h1,h2,h3⟩:=GT (H:=H) (S:=S) (P:=CodeD.sm) (f:=UCode.row) (g:=CodeD.cells) us λu fb=>u.frz hN (hu u fb).1 (hu u fb).2 (h.l.m fb);exact⟨cs,Gr.frzM hg h.r h1,h2,h3⟩
end Go.AE.Y
namespace Go.AE.Y
theorem Qj {α:Type}{l1 l2:List α}(h:∀f:List α->Nat,(∀a b,f (a++b)=f a+f b)->f []=0->(∀x l,f (x::l)=f [x]+f l)->(∀a b:List α,a.Perm b->f a=f b)->f l1=f l2):l1.Perm l2:=by
 classical
 exact List.perm_iff_count.2 λa=>h (List.count a) (λ_ _=>List.count_append) rfl (λx l=>by rw[Jau,Jau];simp;omega) (λ_ _ hp=>hp.count_eq a)
def UBlk.core (x:UBlk):List (Nat×Obj):=x.il++x.ab.flatMap UPhi.al
def Cd (us:List UCode)(ci bi:Nat)(hc:ci<us.length):List (Nat×Obj):=(us[ci].blocks.eraseIdx bi).flatMap UBlk.lg++(us.eraseIdx ci).flatMap UCode.lg
theorem XJ (us:List UCode)(ci bi:Nat)(hc:ci<us.length)(hb:bi<us[ci].blocks.length) :
  (us.flatMap UCode.lg).Perm (us[ci].bl++(us[ci].blocks[bi].pl++(us[ci].blocks[bi].core++Cd us ci bi hc))):=by
 refine Qj λf hf h0 bB hp=>?_;rw[hp _ _ (DD UCode.lg us ci hc)];simp only[hf,UCode.lg,Cd];rw[hp _ _ (DD UBlk.lg us[ci].blocks bi hb)];simp only[Ui,hf,UBlk.lg,UBlk.core];omega
def UCode.put (u:UCode)(bi:Nat)(b:UBlk)(bl:List (Nat×Obj)):UCode:={ u with blocks:=u.blocks.set bi b,bl:=bl }
theorem Tw (us:List UCode)(ci bi:Nat)(hc:ci<us.length)(hb:bi<us[ci].blocks.length)(b:UBlk)(bl:Ul) :
  ((us.set ci (us[ci].put bi b bl)).flatMap UCode.lg).Perm (bl++(b.pl++(b.core++Cd us ci bi hc))):=by
 refine Qj λf hf h0 bB hp=>?_;rw[hp _ _ (DN UCode.lg us ci _ hc)];simp only[hf,UCode.lg,Cd,UCode.put];rw[hp _ _ (DN UBlk.lg us[ci].blocks bi _ hb)];simp only[Ui,hf,UBlk.lg,UBlk.core];omega
theorem UBlk.core_snoc (b:UBlk)(p:UPhi)(pc:C)(pl:Ul):UBlk.core { b with ab:=b.ab++[p],pc:=pc,pl:=pl }=b.core++p.al:=by
 simp[UBlk.core,Jam]
theorem UCode.put_row (u:UCode)(bi:Nat)(b:UBlk)(bl:Ul):(u.put bi b bl).row=u.row:=rfl
theorem Tv (us:List UCode)(ci:Nat)(hc:ci<us.length)(u:UCode)(h:u.row=us[ci].row):(us.set ci u).map UCode.row=us.map UCode.row:=by
 rw[J8,h];refine Jag ZC λi h1 h2=>?_;rw[J9];split
 ·rename_i h;subst h;simp
 ·rfl
theorem UCode.put_ok {u:UCode}{bi:Nat}{b:UBlk}{y:Nat}(h:u.ok)(hb:b.ok)(bk:u.bl=[(y,.vec 5 (u.blocks.map UBlk.row))]):(u.put bi b [(y,.vec 5 ((u.blocks.set bi b).map UBlk.row))]).ok:=by
 refine⟨?_,λb' aT=>?_,h.p0,h.p1⟩
 ·rcases h.b with ⟨h1,h2,h3⟩|⟨y',h1,h2⟩
  ·rw[bk]at h3;simp at h3
  ·rw[bk]at h2;have:y=y':=Zaf
   subst this;exact .inr ⟨y,by show u.bc=_;rw[h1];simp[UCode.put],rfl⟩
 ·rcases Jo aT with aT|rfl
  ·exact h.bs _ aT
  ·exact hb
theorem UCode.put_sm {u:UCode}{bi N:Nat}{b:UBlk}{bl:Ul}(h:u.sm N)(hb:b.sm (N+1)):(u.put bi b bl).sm (N+1):=by
 refine⟨by show 0<(u.blocks.set bi b).length;simpa using h.b0,by show (u.blocks.set bi b).length<=_;simpa using h.b,λb' aT=>?_⟩;rcases Jo aT with aT|rfl
 ·exact (h.bs _ aT).mono ZA
 ·exact hb
theorem UCode.bvec {u:UCode}(h:u.ok)(h0:0<u.blocks.length):∃y,u.bc=.ai y 5 0 u.blocks.length/\u.bl=[(y,.vec 5 (u.blocks.map UBlk.row))]:=by
 rcases h.b with ⟨h1,h2,h3⟩|⟨y,h1,h2⟩
 ·have:=Jab.1 h2;rw[this]at h0;simp at h0
 ·exact⟨y,by rw[h1];simp,h2⟩
def B6 (us:List OCode)(ci bi:Nat)(hc:ci<us.length):List (Nat×Obj):=(us[ci].blocks.eraseIdx bi).flatMap OBlk.lg++(us.eraseIdx ci).flatMap OCode.lg
theorem Yj (us:List OCode)(ci bi:Nat)(hc:ci<us.length)(hb:bi<us[ci].blocks.length) :
  (us.flatMap OCode.lg).Perm (us[ci].bl++(us[ci].blocks[bi].lg++B6 us ci bi hc)):=by
 refine Qj λf hf h0 bB hp=>?_;rw[hp _ _ (DD OCode.lg us ci hc)];simp only[hf,OCode.lg,B6];rw[hp _ _ (DD OBlk.lg us[ci].blocks bi hb)];simp only[Ui,hf];omega
def OCode.put (u:OCode)(bi:Nat)(b:OBlk)(bl:List (Nat×Obj)):OCode:={ u with blocks:=u.blocks.set bi b,bl:=bl }
theorem TM (us:List OCode)(ci bi:Nat)(hc:ci<us.length)(hb:bi<us[ci].blocks.length)(b:OBlk)(bl:Ul) :
  ((us.set ci (us[ci].put bi b bl)).flatMap OCode.lg).Perm (bl++(b.lg++B6 us ci bi hc)):=by
 refine Qj λf hf h0 bB hp=>?_;rw[hp _ _ (DN OCode.lg us ci _ hc)];simp only[hf,OCode.lg,B6,OCode.put];rw[hp _ _ (DN OBlk.lg us[ci].blocks bi _ hb)];simp only[Ui,hf];omega
theorem TL (us:List OCode)(ci:Nat)(hc:ci<us.length)(u:OCode)(h:u.row=us[ci].row):(us.set ci u).map OCode.row=us.map OCode.row:=by
 rw[J8,h];refine Jag ZC λi h1 h2=>?_;rw[J9];split
 ·rename_i h;subst h;simp
 ·rfl
theorem OCode.put_ok {u:OCode}{bi:Nat}{b:OBlk}{y:Nat}(h:u.ok)(hb:b.ok)(bk:u.bl=[(y,.vec 5 (u.blocks.map OBlk.row))]):(u.put bi b [(y,.vec 5 ((u.blocks.set bi b).map OBlk.row))]).ok:=by
 refine⟨?_,λb' aT=>?_⟩
 ·rcases h.b with ⟨h1,h2,h3⟩|⟨y',h1,h2⟩
  ·rw[bk]at h3;simp at h3
  ·rw[bk]at h2;have:y=y':=Zaf
   subst this;exact .inr ⟨y,by show u.bc=_;rw[h1];simp[OCode.put],rfl⟩
 ·rcases Jo aT with aT|rfl
  ·exact h.bs _ aT
  ·exact hb
theorem OCode.put_sm {u:OCode}{bi:Nat}{b:OBlk}{bl:Ul}{N:Nat}(h:u.sm N)(hb:b.sm (N+1)):(u.put bi b bl).sm (N+1):=by
 refine⟨by show 0<(u.blocks.set bi b).length;simpa using h.b0,by show (u.blocks.set bi b).length<=_;simpa using h.b,λb' aT=>?_,h.p0,h.p1⟩;rcases Jo aT with aT|rfl
 ·exact (h.bs _ aT).mono ZA
 ·exact hb
theorem OCode.bvec {u:OCode}(h:u.ok)(h0:0<u.blocks.length):∃y,u.bc=.ai y 5 0 u.blocks.length/\u.bl=[(y,.vec 5 (u.blocks.map OBlk.row))]:=by
 rcases h.b with ⟨h1,h2,h3⟩|⟨y,h1,h2⟩
 ·have:=Jab.1 h2;rw[this]at h0;simp at h0
 ·exact⟨y,by rw[h1];simp,h2⟩
theorem OBlk.ivec {u:OBlk}(h:u.ok)(h0:0<u.ins.length):∃y,u.ic=.ai y 4 0 u.ins.length/\u.il=[(y,.vec 4 (u.ins.map OIns.row))]:=by
 rcases h.i with ⟨h1,h2,h3⟩|⟨y,h1,h2⟩
 ·have:=Jab.1 h2;rw[this]at h0;simp at h0
 ·exact⟨y,by rw[h1];simp,h2⟩
variable {H0 H H2:Heap}{E X cl:Ul}
theorem Qbex {us:List OCode}{ci bi yb:Nat}{u:OCode}{b:OBlk}(kn:Kn H0 H E (X++us.flatMap OCode.lg++cl))(hc:ci<us.length)(hu:us[ci]=u)(hb:bi<u.blocks.length)(hub:u.blocks[bi]=b)
  (bk:u.bl=[(yb,.vec 5 (u.blocks.map OBlk.row))]):Kn H0 H E ([(yb,.vec 5 (u.blocks.map OBlk.row))]++(b.lg++(B6 us ci bi hc++(X++cl)))):=by
 subst hu;subst hub;refine kn.perm (Qj λf hf h0 bB hp=>?_);have h1:=hp _ _ (Yj us ci bi hc hb);rw[bk]at h1;simp only[Ui,hf]at h1⊢;omega
theorem Qbi4 {us:List OCode}{ci bi yb:Nat}{u:OCode}{b':OBlk}{cc:C}(hc:ci<us.length)(hu:us[ci]=u)(hb:bi<u.blocks.length)
  (bk:u.bl=[(yb,.vec 5 (u.blocks.map OBlk.row))]) {N:Nat} (aw:∀u∈us,u.ok/\u.sm N) (qx:b'.ok) (wh:b'.sm (N+1)) (hg:Gr cl 3 (us.map OCode.row) cc)
  (kn:Kn H0 H E ([(yb,.vec 5 ((u.blocks.set bi b').map OBlk.row))]++(b'.lg++(B6 us ci bi hc++(X++cl))))) :
  ∃us':List OCode,us'.length=us.length/\Gr cl 3 (us'.map OCode.row) cc/\(∀u∈us',u.ok/\u.sm (N+1))/\Kn H0 H E (X++us'.flatMap OCode.lg++cl):=by
 obtain⟨h1,h2⟩:=aw _ (Jah hc);rw[hu]at h1 h2;refine⟨us.set ci (u.put bi b' [(yb,.vec 5 ((u.blocks.set bi b').map OBlk.row))]),ZC,?_,λv hv=>?_,kn.perm (Qj λf hf h0 bB hp=>?_)⟩
 ·rw[TL us ci hc _ (by rw[hu];rfl)];exact hg
 ·rcases Jo hv with hv|rfl
  ·exact⟨(aw v hv).1,(aw v hv).2.mono ZA⟩
  ·exact⟨OCode.put_ok h1 qx bk,OCode.put_sm h2 wh⟩
 ·subst hu;have h1:=hp _ _ (TM us ci bi hc hb b' [(yb,.vec 5 ((us[ci].blocks.set bi b').map OBlk.row))]);simp only[Ui,hf]at h1⊢;omega
theorem Po {l:List OBlk}{bi:Nat}{b:OBlk}(hb:bi<l.length)(h:b.row=(l[bi]).row):(l.set bi b).map OBlk.row=l.map OBlk.row:=by
 rw[J8,h];refine Jag ZC λi h1 h2=>?_;rw[J9];split
 ·rename_i h;subst h;simp
 ·rfl
variable {b b':OBlk}{R:Ul}{p:Nat×Obj}
theorem FA {yi:Nat}(kn:Kn H0 H E ([p]++(b.lg++R)))(cj:b.il=[(yi,.vec 4 (b.ins.map OIns.row))]) :
  Kn H0 H E ([(yi,.vec 4 (b.ins.map OIns.row))]++([p]++(b.nx.lg++(b.ab.flatMap OPhi.lg++(b.pl++(b.ins.flatMap OIns.lg++R)))))):=by
 refine kn.perm (Qj λf hf h0 bB hp=>?_);simp only[Ui,OBlk.lg,cj,hf];omega
theorem Ic {yi:Nat}{is:List OIns}(kn:Kn H0 H E ([(yi,.vec 4 (is.map OIns.row))]++([p]++(b.nx.lg++(b.ab.flatMap OPhi.lg++(b.pl++(b.ins.flatMap OIns.lg++R)))))))
  (hl:(is.flatMap OIns.lg).Perm (b.ins.flatMap OIns.lg)):Kn H0 H E ([p]++(OBlk.lg { b with ins:=is,il:=[(yi,.vec 4 (is.map OIns.row))] }++R)):=by
 refine kn.perm (Qj λf hf h0 bB hp=>?_);have:=hp _ _ hl;simp only[Ui,OBlk.lg,hf];omega
theorem Q27 {l:List OIns}{i:Nat}{x':OIns}(hi:i<l.length)(h:x'.lg=(l[i]).lg):((l.set i x').flatMap OIns.lg).Perm (l.flatMap OIns.lg):=by
 refine (DN OIns.lg l i x' hi).trans ?_;rw[h];exact (DD OIns.lg l i hi).symm
theorem OBlk.ins_ok {yi:Nat}{i:Nat}{x':OIns}(h:b.ok)(iB:b.ic=.ai yi 4 0 b.ins.length):OBlk.ok { b with ins:=b.ins.set i x',il:=[(yi,.vec 4 ((b.ins.set i x').map OIns.row))] }:=
 ⟨h.p,.inr ⟨yi,by show b.ic=_;rw[iB];simp,rfl⟩,h.a⟩
theorem OBlk.ins_sm {yi:Nat}{i:Nat}{x':OIns}{N:Nat}(h:b.sm N)(hx:x'.a.ns.length<=N+1):OBlk.sm { b with ins:=b.ins.set i x',il:=[(yi,.vec 4 ((b.ins.set i x').map OIns.row))] } (N+1):=by
 refine⟨h.n,by simpa using h.i,by have:=h.p;show b.ab.length<=_;omega,λx aH=>?_,λp hp=>by have:=h.pa p hp;omega⟩;rcases Jo aH with aH|rfl
 ·have:=h.ia x aH;omega
 ·exact hx
end Go.AE.Y
namespace Go.AE.Y
abbrev Qg8:Nat:=3
abbrev Qe8:Nat:=5
abbrev Qk5:Nat:=6
abbrev Qk7:Nat:=7
abbrev Qoc:Nat:=8
abbrev Rl:Nat:=9
abbrev Qs8:Nat:=10
abbrev Lv:Nat:=16
abbrev Rk:Nat:=17
abbrev PY:Nat:=18
abbrev Hh:Nat:=19
abbrev Qxx:Nat:=20
abbrev Q2w:Nat:=21
abbrev Qti:Nat:=22
abbrev Qny:Nat:=23
abbrev Qnz:Nat:=24
abbrev Lq:Nat:=30
abbrev Rj:Nat:=31
abbrev Lz:Nat:=32
abbrev LB:Nat:=33
abbrev Qdl:Nat:=34
abbrev RD:Nat:=35
abbrev Qta:Nat:=36
abbrev PX:Nat:=37
abbrev LD:Nat:=38
abbrev PW:Nat:=39
abbrev R5:Nat:=40
abbrev O7:Nat:=41
abbrev Qtf:Nat:=42
abbrev N8:Nat:=43
abbrev Q2s:Nat:=44
abbrev Qg9:Nat:=54
abbrev Q2v:Nat:=56
abbrev Ly:Nat:=57
abbrev KI:Nat:=58
abbrev L7:Nat:=59
abbrev Q2u:Nat:=60
abbrev Qnx:Nat:=61
abbrev N9:Nat:=62
abbrev Q02:Nat:=63
abbrev Qx2:Nat:=64
abbrev Qe6:Nat:=65
abbrev Pd:Nat:=66
abbrev Ij:Nat:=67
abbrev Lk:Nat:=68
abbrev Hi:Nat:=69
abbrev L8:Nat:=70
abbrev PD:Nat:=71
abbrev fn_l10Split:Nat:=72
abbrev fn_l12Drop:Nat:=73
abbrev Q2z:Nat:=74
abbrev fn_l15Put:Nat:=75
abbrev fn_l16Share:Nat:=76
abbrev fn_l17Hoist:Nat:=77
abbrev fn_l18Even:Nat:=78
abbrev fn_l18Skip:Nat:=79
abbrev Lu:Nat:=80
abbrev fn_l18Clean:Nat:=81
abbrev Ku:Nat:=82
abbrev Dh:Nat:=83
abbrev Qn4:Nat:=84
abbrev Qn0:Nat:=85
abbrev Qdm:Nat:=86
abbrev Qn1:Nat:=87
abbrev Q98:Nat:=88
abbrev Qn2:Nat:=89
abbrev Qxp:Nat:=94
abbrev Qn9:Nat:=99
abbrev Qk8:Nat:=100
abbrev Qxw:Nat:=101
abbrev KE:Nat:=102
abbrev Q20:Nat:=103
abbrev KC:Nat:=104
abbrev Kw:Nat:=105
abbrev Qk6:Nat:=106
abbrev PV:Nat:=107
abbrev Qe7:Nat:=108
abbrev Qa4u:Nat:=109
abbrev I8:Nat:=110
abbrev Q01:Nat:=111
abbrev KG:Nat:=112
abbrev Qob:Nat:=113
abbrev NH:Nat:=114
abbrev Qte:Nat:=115
abbrev IC:Nat:=116
abbrev NG:Nat:=117
abbrev Ow:Nat:=118
abbrev Lx:Nat:=121
abbrev NE:Nat:=122
abbrev NF:Nat:=123
abbrev L6:Nat:=124
abbrev RC:Nat:=125
abbrev Ll:Nat:=127
abbrev Lj:Nat:=129
abbrev Lt:Nat:=136
abbrev K2:Nat:=137
abbrev Qf8:Nat:=138
abbrev Pa:Nat:=139
abbrev Q99:Nat:=140
abbrev Qs9:Nat:=141
abbrev LC:Nat:=142
abbrev Q2t:Nat:=143
abbrev Qxq:Nat:=144
abbrev Qc2:Nat:=151
abbrev Q6l:Nat:=152
abbrev Qvx:Nat:=153
abbrev KH:Nat:=154
abbrev Ig:Nat:=155
abbrev PC:Nat:=156
abbrev Qha:Nat:=157
abbrev RI:Nat:=158
abbrev Hr:Nat:=159
abbrev RJ:Nat:=160
abbrev Hs:Nat:=161
abbrev Pc:Nat:=162
abbrev Qce:Nat:=163
abbrev fn_sl_heapSortOrdered:Nat:=164
abbrev fn_sl_breakPatternsOrdered:Nat:=165
abbrev fn_sl_choosePivotOrdered:Nat:=166
abbrev fn_sl_reverseRangeOrdered:Nat:=167
abbrev fn_sl_partialInsertionSortOrdered:Nat:=168
abbrev fn_cmp_Less:Nat:=169
abbrev fn_sl_partitionEqualOrdered:Nat:=170
abbrev fn_sl_partitionOrdered:Nat:=171
abbrev FS:Nat:=174
abbrev LA:Nat:=175
abbrev Q2x:Nat:=176
abbrev L3:Nat:=177
abbrev Q2y:Nat:=179
abbrev Lw:Nat:=180
abbrev NB:Nat:=181
abbrev Qn8:Nat:=182
abbrev Qin:Nat:=183
abbrev L5:Nat:=184
abbrev Qer:Nat:=190
abbrev KF:Nat:=191
abbrev Ih:Nat:=192
abbrev KD:Nat:=193
abbrev Rr:Nat:=194
abbrev Qth:Nat:=195
abbrev Q23:Nat:=196
abbrev Qtg:Nat:=197
abbrev Qxz:Nat:=198
abbrev Qtc:Nat:=199
abbrev Qxs:Nat:=200
abbrev Ii:Nat:=201
abbrev I9:Nat:=202
abbrev L4:Nat:=209
abbrev Q26:Nat:=211
abbrev Qtb:Nat:=212
abbrev Qx1:Nat:=220
abbrev Qxu:Nat:=221
abbrev K1:Nat:=222
abbrev Q25:Nat:=223
abbrev Lm:Nat:=224
abbrev Lp:Nat:=225
abbrev Qx0:Nat:=230
abbrev Qxy:Nat:=231
abbrev Q24:Nat:=232
abbrev ND:Nat:=233
abbrev Q21:Nat:=234
abbrev Qxr:Nat:=235
abbrev Qxt:Nat:=236
abbrev Ky:Nat:=237
abbrev IB:Nat:=238
abbrev IA:Nat:=239
abbrev Kv:Nat:=240
abbrev Q22:Nat:=242
abbrev LT:Nat:=243
abbrev Qtd:Nat:=244
abbrev Ls:Nat:=245
abbrev Qtj:Nat:=246
abbrev Kx:Nat:=247
abbrev Qoa:Nat:=248
abbrev Q00:Nat:=249
abbrev K0:Nat:=250
abbrev Lr:Nat:=251
abbrev Kz:Nat:=252
open Go.Proofs.Tryz
def Py:=dY 0xf024051
def Px:=dY 0x78281e001
def Qa6l:=dZ 0x87211013ad500621053 .skip Px
def Pw:=dY 0x98281e001
def Qa6m:=dZ 0x7211013bd700821 .skip Pw
def Qa6n:=dZ 0x1909210310c6f021fd2003212 Qa6l Py Qa6m
def Qbmo:=dZ 0x9102037132f0211 Qa6n
abbrev AG:List RS:=[.cell 2 1 true]
theorem Qbk4:mFn prog LB 1 10 Qbmo AG=true:=ZE
def Qal5:=dZ 0x874100f00411183
def Qal6:=dW 0x87410ea0049f01a418008f010113580010020708025b1243 [] [] [fI 44 (.cvt .i64 (.t 43))]
def Qal7:=dZ 0x74102e0049f01a41806806041
def Qal8:=dZ 0x94120fd0069f02d4406f0946806805c51 Qal7
def Qal9:=dW 0x94120bd0069f02d04356f084059405010020708058002041d6f0845800db04045d9f08418f0101c1305a4050100207080036f004076f0845800100207080836f08408f01071305a405010020708058001002070802f2ef2ef2ef2 [Qal8] [] [fI 60 (.cvt .i64 (.t 59)),fI 77 (.cvt .i64 (.t 76))]
def Qama:=dZ 0x190924f3004005440501002070805801e712 Qal6 [] Qal9
def Qamb:=dZ 0x930030d90059f1f01401012070801961 Qama
def Qamc:=dZ 0x190918f003003f6a0f022240f02250f02210f002220f02270f082200f001f0441800fa12 Qal5 [] Qamb
def Qamd:=dZ 0x90020201e012571f004010120770600791 Qamc
def Qa2f:=dZ 0x900200f00411 Qamd
abbrev A7:List RS:=[.tmp 4]
theorem Qawt:mFn prog Rj 2 99 Qa2f A7=true:=ZE
def Dy:=dY 0x98381e001
def E3:=dY 83503542321 Dy
def MG:=dY 4318417041 E3
def MF:=dY 0x190049f053360b14f113
def ME:=dY 0xd90059f0753491514f1d3
def MD:=dY 0x9a0061
def MC:=dY 0x201e02227313
def Qbhr:=dZ 0x80220101e0f11368001042075803b703a3
def Qbhs:=dZ 0x80220201e0120f14368001012075804f804e3
def MB:=dY 0x201e0220f1e430e6114f6c4
def Qbas:=dZ 0x8022102122f011c680010220f043010120758001012075805ee100f0e030d0c0b0a090807060504030201001211a5d3 .skip MB
def Q5m:=dY 0x201e002705f77a3
def Q5n:=dY 0x201e01277020438214f855
def Q5o:=dY 0x201e0320f34349314f974
def Qbat:=dZ 0x8022101267d1f7f01009f31c080010120758090709080703060504030201000b0aa8f3 .skip Q5o
def Qbau:=dZ 0x8098ff1010500f0640501012075808a61883 Qbat
def Qbav:=dZ 0x988f101050895f0889f076fba2489210221026f021fd08001002074804807e70a09080704060504030201000c0ba7c3 Qbau Q5n
def Qbaw:=dZ 0x97cf2bf00010707d5f07c9f066fba247d21022104222f012c0110f1021702d1f011c680010020758058070a06e3 Qbav Q5m
def Qbax:=dZ 0x196ef2bf00001080fe06e9f056fba246f21095df0102500f0640501012075805861563 Qbas [] Qbaw
def Qbay:=dZ 0x1956f2bf000010807d0569f046fba245721094ef0102500f0640501012075804961473 Qbhs [] Qbax
def Qbaz:=dZ 0x947f2bf000010808c0479f036fba2448210220201e032176805804350413 Qbay
def Qba0:=dZ 0x1941f2bf000010802c0419f026fba244221093af0102500f0640501042075803561333 Qbhr [] Qbaz
def Qba1:=dZ 0x972bf000010804b0339f1fba2434210221056f021fd0805802e302c3 Qba0 MC
def Qba2:=dZ 0x902bf00001080da02c9f0f1242d21004 Qba1
def Qba3:=dZ 0x72100281e38169921
def Qba4:=dZ 0x19092bf00001070206f021fd0802a212 Qba2 [] Qba3
def Qba5:=dZ 0x9000010610e9267d1f0f057f51c05010220748001012074800801ecd0df2 Qba4 MD
def Qba6:=dZ 0x900010510521fd050102207480080010220748012b0c0b030a090807060504030201000e0da2 Qba5 ME
def Qba7:=dZ 0x90010410321fd05013802080016020a7080701060504030201000a09a2 Qba6 MF
def Qba8:=dZ 0x9010310166d600721 Qba7 MG
def Yo:=dZ 0x9102037132f0211 Qba8
theorem YV:mFn prog KI 1 154 Yo AG=true:=ZE
def Q3y:=dY 0xf024061
def Q31:=dY 4318613649 E3
def Qa64:=dZ 0x872100281e38160c210b3
def Qa65:=dZ 0x97010400128d6160a21 Qa64
def Qa66:=dZ 0x809010310169d600721063 Qa65 Q31
def Q32:=dY 0xe8281e001
def Ny:=dZ 0x72110166d0800d21 .skip Q32
def Qa67:=dZ 0x190931031026f021fd3004212 Qa66 Q3y Ny
def Qbmu:=dZ 0x9102037132f0211 Qa67
theorem Qbk8:mFn prog L7 1 15 Qbmu AG=true:=ZE
def PI:=dY 0xb80049f0104130a3
def KJ:=dZ 0x74110221fd055050300551 .skip PI
def Qa9w:=dZ 0x900200f00411 KJ
theorem Qa5q:mFn prog Q20 2 12 Qa9w A7=true:=ZE
def O8:=dY 0x58381e001
def Qq3:=dY 0x101e3802172
def Qq4:=dY 0x107322f013c70e14f153 Qq3
def Mc:=dZ 0x140c80049f1f004600b30
def Qamk:=dZ 0x90001410176d03601334800118020138020d80b0a09080107060504030201000d0ca0142 Mc Qq4
def Qafr:=dZ 0x900680a35000150034405015021006512 Qamk
def Qaml:=dZ 0x72100281e38161821
def Qamm:=dZ 0x190950040001400f004112 Qafr [] Qaml
def Qamn:=dZ 0x90013137132f039f0371d1f0521 Qamm O8
def Qa27:=dZ 0x9012037132f090121 Qamn
theorem Qawy:mFn prog Qxw 1 25 Qa27 AG=true:=ZE
def Mt:=dY 0xc80041
def Ms:=dY 0x101e3802182
def Mr:=dY 0x104322f013c41214f163 Ms
def Qbid:=dZ 0x1040090049f1f0144800f30
def Qbie:=dZ 0x90010410129ad3816080013802115080706050104030201000a09a0142 Qbid Mr
def Qbcp:=dZ 0x900680e390010500f0644800d212 Qbie
def Mq:=dY 0xb90051
def Mp:=dY 0x7a0069f053362114f273
def Mo:=dY 0xea0071
def Q6b:=dY 0x5b882e001
def Q6c:=dY 0x1170232f089f01011702d1f352 Q6b
def Q6d:=dY 0xf0053b2
def Q6e:=dY 0x101e8812482
def Q6f:=dY 0x107122f011c73f14f463 Q6e
def Qbcc:=dZ 0x3bf0001010909c03c9f1fcb044920
def Qbcd:=dZ 0x903bf0001010910421fd01012076800800188123e80b0a09080107060504030201000d0ca0542 Qbcc Q6f
def Qa3j:=dZ 0x9043db003bf0001010a010443d11 Qbcd
def Q6g:=dY 0x201e0020dfc53ec4f14f5c4
def Qbce:=dZ 0x810104102222f012c8826010020153780010220768078001022076804c10f121110030f0e0d0c0b0a090807060504030201001413a4b3 .skip Q6g
def Qbcf:=dZ 0x94bf0001010800f0647804a21 Qbce
def Qbcg:=dZ 0x1909504403bf0001010910126fd7800360768036512 Qa3j Q6d Qbcf
def Qbch:=dZ 0x90001010710421fd01012076800802f61 Qbcg Q6c
def Qbci:=dZ 0x9001010610521fd0501022076800802871 Qbch Mo
def Qbcj:=dZ 0x101040f90059f1f0145801e30
def Qbck:=dZ 0x190901010510321fd05013802080013802207080701060504030201000a09a20342 Qbci Mp Qbcj
def Qa3k:=dZ 0x902681d31df1010500f0645801c212 Qbck
def Qbcl:=dZ 0x72100281e38165e21
def Qbcm:=dZ 0x1909502410104101267d036f1f0f0f41c08019312 Qa3k Mq Qbcl
def Qbcn:=dZ 0x1909500400104101267d036f1f026f1f41c0800a312 Qbcp Mt Qbcm
def Qbco:=dZ 0x90103137132f039f0371d1f0921 Qbcn Dy
def X5:=dZ 0x9102037132f0211 Qbco
theorem YQ:mFn prog KE 1 95 X5 AG=true:=ZE
def Qju:=dY 32945
def Q9a:=dZ 0x872102f002110b3
def Qjv:=dY 0x79583e001
def Pf:=dY 0x3f5a04880f292
def R8:=dY 0x1a06f1f03434803f04850f04810f5824820f0003f6a03880f227 Pf
def Qjw:=dY 0x1012c9f023433803f03810f5803820f03810f5813820f00081b7 R8
def s_sp_UnitValid_6:=dZ 0x872102f002112a3
def R7:=dY 0x3f5a08a80f4a2
def Qmr:=dZ 0x872102f002114b3
def Q9b:=dZ 0x94bf00011610123448a03f688a00f488a00f1818a60f0003209f0643804371 Qmr R7
def Qjs:=dZ 0x11501b0069f1f0046803030
def Q2d:=dZ 0x190900011502c0039f0704050100201536800158220704050101201536800158223803212f12f12f20342 Q9b [] Qjs
def Q0n:=dZ 0x902682f32ff00011600344050158226802b512 Q2d
def Qjt:=dZ 0x9502400011500f00611 Q0n
def Q2e:=dZ 0x19092af001151036f0f0343d01580218312 s_sp_UnitValid_6 Qjw Qjt
def Pe:=dZ 0x1130290049f1f0044801130
def Q2f:=dZ 0x19090011415700332f059f036013348001180213610142 Q2e Qjv Pe
def Q0o:=dZ 0x90068103b01140034405011802700c512 Q2f
def RA:=dZ 0x72103f00211
def Q2g:=dZ 0x19095004011300f004112 Q0o [] RA
def Q2h:=dZ 0x911200f00311 Q2g
def Q2i:=dZ 0x19099121046f1f0343d050150207412 Q9a Qju Q2h
def Qan0:=dZ 0x91102f0090121 Q2i
abbrev A8:List RS:=[.tmp 2]
theorem Qai3:mFn prog R5 1 76 Qan0 A8=true:=ZE
def Mj:=dY 0x101e3802142
def Mi:=dY 0x104322f013c40e14f123 Mj
def Qbil:=dZ 0x90001410129bd48018160138020d5080706050104030201000a09a0142 Mc Mi
def Qbcu:=dZ 0x900680a35000150034405015021006512 Qbil
def In:=dZ 0x72100281e38161521
def Qbin:=dZ 0x190950040001400f004112 Qbcu [] In
def Qbio:=dZ 0x90013137132f039f0371d1f0521 Qbin O8
def Xx:=dZ 0x9012037132f090121 Qbio
theorem YO:mFn prog KC 1 22 Xx AG=true:=ZE
def MO:=dY 0xd80031
def MN:=dY 0x1052f014310200173735d1f0c2 MO
def Ez:=dY 589889
def MW:=dY 0xa583ec91d14fb96911c34fa91b54f991a14f005
def MV:=dY 0x157171332f051 MW
def MU:=dY 0x1025939cd31d14f46911c34f51b54f61a14f205 MV
def MT:=dY 0x201e01277293
def Qbg8:=dZ 0x104102322f013c58360101207380380218b0bf .skip MT
def Qbg9:=dZ 0x1040490049f1f0144801330
def Qbha:=dW 0x19090001051036f021fd08001051305010120738008f38015b0d080706050c0b080706050a09080706050403020100160ca20142 [Qbg8,Qbg9] [MU] [fI 22 (.kO 1 [.k (.c (.str [102])),.k (.c (.str [103])),.k (.c (.str [104]))])]
def Qa2p:=dZ 0x90068123d0010500f06448011212 Qbha
def Q5d:=dY 0xfa683e001
def Q5e:=dY 0x157171332f061 Q5d
def Q5f:=dY 17363697 Q5e [eI 47 (.call PC [.t 43,.k (.c (.str [109])),.t 46])]
def Q5g:=dY 0x9b781e6833664f3b3414f003
def Q5h:=dY 0x137132f079f0101371d1f392 Q5g
def Q5i:=dY 0x102322f6833664f382 Q5h
def Q5j:=dY 33729
def Qa93:=dW 0x872100281e0101371d1f013c08f015c012036f102575747105d1f014c1f111f102471004d1f3d813c3 [] [] [fI 65 (.bld [.str [],.sl true 1 [],.sl true 5 []] [(0,1,.k (.c (.str [109]))),(2,1,.t 64)])]
def Qa94:=dZ 0x72100281e78164421
def Qa95:=dZ 0x19093cf4231019dd78163a20d222 Qa93 Q5j Qa94
def Qa96:=dZ 0x9422104322f359f013c6836369f010120738003c3080b06040a09080605070604030201000f0aa2 Qa95 Q5i
def Qa97:=dZ 0x92023101267d1f026f1f0f41c0803802b41 Qa96 Q5f
def Qa98:=dZ 0x1909500400104101267d026f1f1f0f41c0800e312 Qa2p Ez Qa97
def Qa99:=dZ 0x90103101267d1a6f086f146f0e6f41c080700841 Qa98 MN
def Ys:=dZ 0x9102037132f0211 Qa99
theorem Y0:mFn prog Kw 1 69 Ys AG=true:=ZE
def Ew:=dY 0x98383e001
def M1:=dY 0x101e38221b2
def M0:=dY 0x107522f015c71214f193 M1
def Qbhv:=dZ 0x140090049f1f0044800f30
def Qbhw:=dZ 0x90001410173d05601534800118220138221180b0a09080107060504030201000d0ca0142 Qbhv M0
def Qbbv:=dZ 0x900680e39000150034405011822500a512 Qbhw
def Qbhx:=dZ 0x72100283e38361c21
def Qbhy:=dZ 0x190950040001400f004112 Qbbv [] Qbhx
def Qbhz:=dZ 0x9001315700332f039f011210257003d1f01512013020561 Qbhy Ew
def XB:=dZ 0x901205700332f090121 Qbhz
abbrev Bf:List RS:=[.cell 2 3 true]
theorem YT:mFn prog Ow 1 29 XB Bf=true:=ZE
def Q56:=dY 0x9a0051
def Qbbx:=dZ 0x802602014102122f011c6805802641253 .skip Q56
def Qbby:=dZ 0x20150a90079f1f0047801930
def Qbbz:=dZ 0x190925f002016001241800101137800104201536800128221bb10342 Qbbx [] Qbby
def Qa3d:=dZ 0x9026818318f002016007440501042015368001282278010912 Qbbz
def My:=dZ 0x20140f80069f1f004700e30
def Qbb0:=dZ 0x1909502400201500f007110142 Qa3d [] My
def Qa3e:=dZ 0x900680d36020150034405017222009512 Qbb0
def Mx:=dZ 0x7410aa0049f5802a21
def Qbb1:=dZ 0x190950040201400f006112 Qa3e [] Mx
def Qa3c:=dZ 0x920130880059f01c0821 Qbb1
def Qbnx:=dZ 0x9012014f0049f190221 Qa3c
theorem Qblt:mFn prog Q01 2 43 Qbnx A7=true:=ZE
def Ey:=dY 0xd8583e001
def M9:=dY 0x15700332f059f010157003d1f0d2 Ey
def M8:=dY 0x101e5812020440f14f134
def M7:=dY 7929953
def M6:=dY 0xd9885e001
def M5:=dY 655505
def M4:=dY 0x101e88122e2
def M3:=dY 0x106422f014c62614f2c3 M4
def Qbht:=dZ 0x20804a0099f1f0149802330
def Qbhu:=dZ 0x900000020810233bfd01581238160800188122570a09080701060504030201000c0ba0342 Qbht M3
def Qa25:=dZ 0x9026822322f00000020900f06498021212 Qbhu
def Q5x:=dY 0x101e8832332
def Q5y:=dY 0x101e8822372
def OH:=dY 0x3faba2f0374a0f0f067f40f423
def MA:=dZ 0x8000002070036f01e88224520443
def Q5z:=dY 0x101e8842011c4f3
def Qbbe:=dZ 0x20710123c0d6807800804b40 .skip Q5z
def Q50:=dY 0x101e88420421c5b3
def Q51:=dY 0x10123c0d680780080574 Q50
def Qbbf:=dZ 0x80000020710123c0d6807800805340513 .skip Q51
def Qbbg:=dZ 0x1951f0000020802d0519f026f7c245221090000020700f01e88324a21483 Qbbe [] Qbbf
def Qbbh:=dZ 0x9047f0000020909c0489f1f1244921044 Qbbg
def Q52:=dY 0x101e5822622
def Qbbi:=dZ 0x206102522f015c88560158225d50 .skip Q52
def Qbbj:=dZ 0x190947f00000208001882246212 Qbbh [] Qbbi
def Qbbk:=dZ 0x190944f000002081036f021f7f03f087f00f07400f0227440f1f017440f687400f787400f001f02468038a12 MA OH Qbbj
def Qbbl:=dZ 0x900000207101267d036f1f026f1f026f51c0803431 Qbbk Q5y
def Qbbm:=dZ 0x90000020710221fd0158120802f41 Qbbl Q5x
def Qbbn:=dZ 0x19095024000000208101267d046f036f0f026f1f51c0801e312 Qa25 M5 Qbbm
def Qbbo:=dZ 0x2060c90079f1f0047801b30
def Qbbp:=dZ 0x190900000207117004727532f089f0170047275d1f1d210142 Qbbn M6 Qbbo
def Qa26:=dZ 0x900681a31af00002070014468078018312 Qbbp
def Qbbq:=dZ 0x74100483e58366321
def Qbbr:=dZ 0x19095004000020600f007112 Qa26 [] Qbbq
def Qbbs:=dZ 0x9000205101267d046f076f1f026f056f036f61c0801531 Qbbr M7
def Qbbt:=dZ 0x9002041056f021fd080026f0040158020e50706050104030201000908a2 Qbbs M8
def Qbbu:=dZ 0x900204101267d036f026f0f1f41c0800a31 Qbbt M9
def Yn:=dZ 0x9020305700332f190321 Qbbu
abbrev Bv:List RS:=[.cell 4 3 true]
theorem YU:mFn prog KH 2 100 Yn Bv=true:=ZE
def XT:=dZ 0x7610e80069f2f03a0151540f281500f081500f00017460600791
def Tj:=dZ 0x9000302f00611 XT
abbrev AJ:List RS:=[.tmp 6]
theorem SL:mFn prog Ij 3 15 Tj AJ=true:=ZE
def Pr:=dY 0x29783e001
def Q5v:=dY 0x79885e001
def Qba9:=dZ 0x876102f006111e3
def Qbba:=dZ 0x76102f00611003001600f00910213
def Qbbb:=dZ 0x921f03001602a0219f036f9924222100300160026f009101f3 Qbba
def Qbbc:=dZ 0x19519f03001700a01f9f026f6242021091ef003001700f0340188321c311a3 Qba9 [] Qbbb
def Qbbd:=dZ 0x9019f00300180b901a9f1f1241b21004 Qbbc
def OI:=dY 0x3f8aa2f0750a0f05980f333
def s_l7Block_8:=dZ 0x876102f00611353
def Q5w:=dY 33905
def Qa2r:=dZ 0x876102f00611473
def Qa2s:=dZ 0x10300160cb00a9f1f004a803b30
def Qa2t:=dZ 0x190947f1030017101f4343d1f01405017822010113a800188423dab0bf20242 Qa2r Q5w Qa2s
def Qauc:=dZ 0x901683a33af10300170034405018842a8036512 Qa2t
def Q0g:=dY 34161
def Qa2u:=dZ 0x876102f00611573
def Qa2v:=dZ 0x20300160ec00b9f1f004b804d30
def Qa2w:=dZ 0x190957f2030017105636ed0460143b8001881218038164f8909f20442 Qa2u Q0g Qa2v
def Qaud:=dZ 0x903684c34cf20300170034405018812b8048512 Qa2w
def Q0h:=dY 0xad00c1
def OO:=dY 0x3f7b5fa0f680f862
def PZ:=dY 0x100f3343f603f1f01f640f0f610f781f620f0f610f00f620f012f630fd8f600f0f610f880f620f0003f705fa0e080f79d OO
def Q5p:=dZ 0x876102f00611873
def Q5q:=dZ 0x3042501e00d9f1f004d806030
def Qa2x:=dZ 0x190987f030426106270e003f0e010f01e020f012e030fd8e000f0e010f880e020f783e060f0003f4ea023c840f0c850fc8c800f0c850f0c810f01c820f012c830fd8c800f0c810f880c820f000f0242806217f26f26f20642 Q5p PZ Q5q
def Qaue:=dZ 0x905685f35ff0304260034405018802d805b512 Qa2x
def Q5r:=dZ 0x76103f00611
def Qa2y:=dZ 0x1909505403042500f00d112 Qaue [] Q5r
def Qa2z:=dZ 0x93042410126fd28078365831 Qa2y Q0h
def Qa20:=dZ 0x19095034203001600f00b112 Qaud [] Qa2z
def Q5s:=dZ 0x19095014103001600f00a112 Qauc [] Qa20
def Q5t:=dZ 0x190935f030016100f33435903f1f015940f05910f7815920f05910f8835920f05000f1f035040f05010f8825020f000134980050188422310f12 s_l7Block_8 OI Q5s
def Qa21:=dZ 0x190919f0030017001882218212 Qbbd [] Q5t
def Qa22:=dZ 0x9003001601f00911 Qa21
def Qa23:=dZ 0x9030015117004727532f089f05601532800178221361 Qa22 Q5v
def Qa24:=dZ 0x93001415700332f079f03601331800138020e61 Qa23 Pr
def Qbnu:=dZ 0x9001302f0069f290321 Qa24
theorem Qblr:mFn prog Lk 3 136 Qbnu AJ=true:=ZE
def Od:=dY 3735649
def Oc:=dY 0x301e01201277030441e54f51d14f227
def Ob:=dY 0x201e052da73b3
def X3:=dZ 0x440ca0079f1f0047802b30
def X2:=dZ 0x900044101b322f013c0f1201111030013d1f78001011378001581201052076806802de11f11f0142 X3 Ob
def Qbn7:=dZ 0x900682a32af00045003440501581278026512 X2
def E4:=dY 8126593
def Oa:=dY 0x100f11f35c4d01c462 E4
def Xz:=dZ 0x74100483e036012076804c51
def Qbny:=dZ 0x914200f01036f25c6d01c8806804841 Xz
def Qbnz:=dZ 0x91143101c5d6806804331 Qbny Oa
def Qbn0:=dZ 0x91420022c3d0158226803f41 Qbnz
def Qbn1:=dZ 0x90043001c2d6803d21 Qbn0
def Qbn2:=dZ 0x190950040004400f007112 Qbn7 [] Qbn1
def Qbn3:=dZ 0x90043101c1d015822050158126801b70b0a0908070302060504030201000e0ca2 Qbn2 Oc
def Qbn4:=dZ 0x900430301e00201237050158126801481 Qbn3
def Qbn5:=dZ 0x900431052f01631021703705700378d1f0501581228160e61 Qbn4 Od
def Qbn6:=dZ 0x90123157171332f059f0360133180016020961 Qbn5 Ey
def Tg:=dZ 0x9101305700332f049f190221 Qbn6
theorem SI:mFn prog Ig 2 80 Tg Bv=true:=ZE
def Q0b:=dY 0xa9783e001
def Q0c:=dY 0x157171332f079f0116102571713d1f1a2 Q0b
def Q0d:=dY 0x101e78221d2
def Ra:=dY 0x2f06a0f064740f292
def Q0e:=dY 0x101e78223b2
def Q0f:=dY 0x105522f015c012076f102575747105d1f014c33414f375 Q0e
def Qa2l:=dZ 0x621026f02c8d08001782233409080706050401030201000b0aa .skip Q0f
def s_l3Gen_fn_7:=dZ 0x80905030201e042571f01401042070800802b912a3 Qa2l
def PL:=dZ 0x76100683e78363c21
def Qa2m:=dZ 0x19092af05041046f021f4703f04710f004720f04770f084700f000f06401042070801eb12 s_l3Gen_fn_7 Ra PL
def Qat4:=dZ 0x905031036f02c7d0801b21 Qa2m Q0d
def Qat5:=dZ 0x90503104122f010220708001c1801371 Qat4 Q0c
def Qat6:=dZ 0x940030201e032271f0142800800e61 Qat5
def Qat7:=dW 0x9300040201e0223718f7008f700871 [Qat6] [] [fI 9 (.kO 1 [.k (.c (.str [97])),.k (.c (.str [98])),.k (.c (.str [99]))]),fI 11 (.sli 1 (.t 9) none (some (.t 10)))]
def Qbg7:=dZ 0x930004057171332f0611 Qat7
abbrev Gm:List RS:=[.cell 6 3 true]
theorem Qbfy:mFn prog PC 3 61 Qbg7 Gm=true:=ZE
def G3:=dY 32897
def Qxb:=dZ 0x872102f00211083
def OR:=dY 33121
def Qxc:=dZ 0x872102f00211163
def Qxd:=dZ 0x1120f80039f1f0043800e30
def Qxe:=dZ 0x190916f113101c9d036013338001180210610142 Qxc OR Qxd
def Qs6:=dZ 0x900680d3911300344050118025009512 Qxe
def Qfq:=dY 0x990029f286f054192
def Qxf:=dZ 0x721101cad18161721 .skip Qfq
def Qxg:=dZ 0x1909500411200f003112 Qs6 [] Qxf
def Qs5:=dZ 0x19096121046f1f0343d050120204412 Qxb G3 Qxg
def Q2a:=dZ 0x91102f0090121 Qs5
theorem Q09:mFn prog Qha 1 26 Q2a A8=true:=ZE
def Ql0:=dY 0x19385ee80f14fb80c14f980a14f004
def Ql1:=dY 0x117004727532f039f014413612881178105170047275d1f50c14f70a14f114 Ql0
def Ql2:=dY 0x101e38022c2
def Ql3:=dY 0x10a9222f012c0110a1021702d1ff92014fd9c921e34fb91c14f991a14f297 Ql2
def Qafp:=dZ 0x140890049f1f0044801730
def Qafq:=dZ 0x900014106122f01012012348001180201c0100201234800118020138021910f1413121110070503010f0e0d0c0b0a090807060504030201001915a0142 Qafp Ql3
def Q8f:=dZ 0x9006816316f00015003440501180248012512 Qafq
def Ql4:=dY 0x8b684e001
def Ql5:=dY 0x101e3812482
def Ql6:=dY 0x10ab422f014c013212611cb104017004d1f14414f73e14fbb3c14f9b3a14f457 Ql5
def Q78:=dZ 0x10014102122f429f016832439f01682201c01681201680201381239c100f0e0d0c0b050301090b0a0807060504030201001511a .skip Ql6
def Q79:=dZ 0x1001403b0059f1f0045803230
def Q8a:=dZ 0x1909010015101700432f069f046014358001181234610342 Q78 Ql4 Q79
def Q12:=dZ 0x9026831331f1001500344050118125802d512 Q8a
def Q8b:=dZ 0x72100285e38564921
def Q8c:=dZ 0x190950241001400f005112 Q12 [] Q8b
def Q8d:=dZ 0x190950040001400f004112 Q8f [] Q8c
def Q8e:=dZ 0x90013102122f01184201c0118320172204c02c07a0c0805030b0a050309080706050403020100120ba2 Q8d Ql1
def Qauf:=dZ 0x9012017004727532f090121 Q8e
abbrev Oo:List RS:=[.cell 2 5 true]
theorem Qara:mFn prog Qte 1 74 Qauf Oo=true:=ZE
def MJ:=dY 0xd80071
def MI:=dY 0x29884e001
def MH:=dY 0x101700432f089f0113102017004d1f122 MI
def Ch:=dY 4784273
def Mv:=dY 0x684e0127f110d6f103017004d1f011c1e3
def Qbh9:=dZ 0x876110121fd2800801b311a3 .skip Mv
def Mu:=dY 0x101e8832252
def Qbia:=dZ 0x31060ca0099f0100202330188320148022680
def Qbib:=dZ 0x9001110610321fd050148020802051 Qbia Mu
def Qbic:=dZ 0x819091af001110700f0240501480217412163 Qbh9 [] Qbib
def Q57:=dY 0x101e8832322
def Qbb3:=dZ 0x80003106101267dff6f106f0f6f036f026f1f0f71c0802f302e3 .skip Q57
def Q58:=dY 33617
def Qbb4:=dZ 0x801310507f01e88123620353
def Q59:=dY 0x101e8822432
def Q6a:=dY 0x104122f011c43d14f413 Q59
def Qbb5:=dZ 0x131060bb00a9f1f004a803a30
def Qbb6:=dZ 0x9001310610121fd2800800188223c5080706050104030201000a09a0142 Qbb5 Q6a
def Qa3g:=dZ 0x9006839339f001310700144980a8037312 Qbb6
def Qbb7:=dZ 0x76100684e88464421
def MM:=dZ 0x19095004001310600f00a112 Qa3g [] Qbb7
def ML:=dZ 0x190935f01310610181d78033212 Qbb4 Q58 MM
def MK:=dZ 0x19092ef000310701f0247802d212 Qbb3 [] ML
def Qbb8:=dZ 0x1909c0001110800e6f02478015212 Qbic [] MK
def Qbb9:=dZ 0x900011107101aed7801321 Qbb8 Ch
def Qbca:=dZ 0x9001110610121fd280080600e41 Qbb9 MH
def Qbcb:=dW 0x9011105101267d08f0800b31 [Qbca] [MJ] [fI 12 (.kO 1 [kI 1,kI 1,kI 2,kI 3,kI 4,kI 5,kI 8,kI 9,kI 10,kI 13,kI 3,kI 6,kI 7,kI 11,kI 12,kI 14])]
def X9:=dZ 0x911104001700432f069f290421 Qbcb
abbrev D9:List RS:=[.cell 6 4 true]
theorem YR:mFn prog KF 3 69 X9 D9=true:=ZE
def FM:=dY 0x2f03a0f061740f0e2
def Of:=dY 0x890069f0604182
def s_l7To_2:=dZ 0x876110421fd01141801f0142800801f00418010810f3 .skip Of
def Oe:=dY 0xd90069f01f041d2
def I0:=dZ 0x76110221fd1f0142800801941 .skip Oe
def X8:=dZ 0x1909c00041046f021f1703f081700f0002441f014505007712 s_l7To_2 FM I0
def Th:=dZ 0x9000300f00611 X8
theorem SJ:mFn prog Ih 3 30 Th AJ=true:=ZE
def KK:=dY 0xc8783e001
def Q13:=dY 0x3f5a02280f162
def Lh:=dY 0x1022702203f02210f5822220f7832260f0008106 Q13
def s_l7Ins_3:=dZ 0x876102f00611173
def Q14:=dY 0x3f2aa2f0344a0f7f034f40f04f10f5814f20f04400f04480f267
def Lf:=dY 0x101814403f04410f5804420f000631f1f215 Q14
def Ld:=dY 0x100f3343d21e14f41c14f203 Lf
def s_l7Ins_7:=dZ 0x876102f006112c3
def O3:=dY 0x1c0069f2f05ba0726b40f06b10f006b20f0236b30f06b10f5836b20f06b10f3806b20f06b50f06b10f5826b20f0035e
def Qbnv:=dZ 0x8761100f2343d1f01418001583230513f13f22f3 .skip O3
def P6:=dY 0x7d0069f2f0eca03f39da0f1f02a440f0a410f580a420f09d00f0f029d40f09d10f5839d20f002f03a4dc
def Mz:=dY 0x1ff6f0f03439303f09310f5839320f00032444454f54314f487 P6
def Qbh0:=dZ 0x761101aed01580205015822426161514131211100f0e0d0c0b0a0908070602010504030201001917a2 .skip Mz
def KM:=dZ 0x19092ff111400e6f0240158022d312 Qbnv [] Qbh0
def KL:=dZ 0x19092cf111410181d1a9f1f0140178120158121b9f01580218814131211100f0e0d0c0b0a0908060402070605040301001715a22 s_l7Ins_7 Ld KM
def Qbh1:=dZ 0x190917f1111510e6f1f0343d017020d312 s_l7Ins_3 Lh KL
def Qbh2:=dZ 0x91111415700332f079f0360133180014020861 Qbh1 KK
def TB:=dZ 0x9111302f029059f290331 Qbh2
theorem TR:mFn prog I8 3 88 TB AJ=true:=ZE
def Mw:=dY 33089
def Qbh4:=dZ 0x874102f00411143
def Qbh5:=dZ 0x20130b80059f1f004400a30
def Qbh6:=dZ 0x1909e2014100f3343d1f014012812010113701800c8909f20142 Qbh4 Mw Qbh5
def Qbb2:=dZ 0x90068093320140024405500006412 Qbh6
def Ca:=dZ 0x74103f00411
def Qbh8:=dZ 0x19095004201300f005112 Qbb2 [] Ca
def XA:=dZ 0x901202f0049f190221 Qbh8
theorem YS:mFn prog KG 2 21 XA A7=true:=ZE
def Mn:=dY 0x1a0039f0604212
def Mm:=dY 0x101c1d209f0604e91f14fc9b951d34f1a4 Mn
def Ml:=dY 0x101c1d199f0704e91f14fc9b951d34f791814f594951634f136 Mm
def Qbif:=dZ 0x2030a80049f1f004400930
def Qbig:=dZ 0x902031017fd129f0104201534800801b9f010320153480080149f1f024010020153480080700b12f1716150f14120e0814120d0b0714131211100d0c0b0a09060504030201001e18a0142 Qbif Ml
def Qbcq:=dZ 0x90068083302040024405500005412 Qbig
def Qbih:=dZ 0x72102a0029f3802221
def Qbii:=dZ 0x19095004020300f004112 Qbcq [] Qbih
def Qbij:=dZ 0x920200f00311 Qbii
def Xy:=dZ 0x90100f00211 Qbij
theorem YP:mFn prog KD 1 35 Xy A8=true:=ZE
def Qmc:=dY 0x301e0220123870f4
def Qago:=dZ 0x7210890029f1f0140501022012070801281
def Qagp:=dZ 0x901105522f015c0141112103170047275d1f01c04c02c0102201207302003c1 Qago Qmc
def Qauk:=dZ 0x90100f00211 Qagp
theorem Qarc:mFn prog Rr 1 25 Qauk A8=true:=ZE
def Qaho:=dZ 0x20040090059f1f0045800f30
def Qahp:=dZ 0x9020040042dcd056015358018008011600142 Qaho
def Q8r:=dZ 0x900680e38020050024405180500b412 Qahp
def Qahq:=dW 0x201e0526708f480010520708008017a0 [] [] [fI 29 (.sli 3 (.t 27) none (some (.t 28)))]
def Qahr:=dZ 0x190950040200400f005112 Q8r [] Qahq
def Qauu:=dZ 0x920030a80049f050105207500661 Qahr
abbrev By:List RS:=[]
theorem Qare:mFn prog Qth 2 32 Qauu By=true:=ZE
def Qvq:=dY 0x201e012697223
def Qaum:=dZ 0x7a104a00a9f2802421
def Qaun:=dZ 0x921106422f014c0131122113104017004d1f3804802801800101207b80b8016c1 Qaum Qvq
def Qauo:=dZ 0x960001505900b9f0453010420708001022012070800cbb0bf2 Qaun
def Qbcs:=dZ 0x900000500f00a11 Qauo
abbrev Nz:List RS:=[.tmp 10]
theorem Qa5t:mFn prog Q23 5 37 Qbcs Nz=true:=ZE
def Qag1:=dZ 0x7210290029f1f01401012012070800d71
def Qag2:=dZ 0x9010301e012012671f0040101201207302003b1 Qag1
def Qaul:=dZ 0x90100f00211 Qag2
theorem Qard:mFn prog Qtg 1 19 Qaul A8=true:=ZE
def Qam7:=dZ 0x201e042174800802150
def Qam8:=dZ 0x93020201e04217380a801d51 Qam7
def Qam9:=dZ 0x9502040201e03217280a801951 Qam8
def Qana:=dZ 0x95001050201e02217180a801551 Qam9
def Qa3s:=dZ 0x9500000604900a9f0453010420708001022012070800bbb0bf2 Qana
theorem Qaw1:mFn prog Qxz 5 37 Qa3s By=true:=ZE
def Qlm:=dY 2687089
def Qln:=dY 2752609
def Qlo:=dY 69610959393 Qln
def Qad1:=dZ 0x30050d90079f1f0147801c30
def Qad2:=dZ 0x90030051012ddd1800806801e400142 Qad1 Qlo
def Q76:=dZ 0x900681b31bf00300602f05a0f062b40f02b10f042b20f02b70f082b00f000f06478013912 Qad2
def Qad3:=dZ 0x74107a0049f6802721
def Qad4:=dZ 0x9610201e022175800802351 Qad3
def Qad5:=dZ 0x19095004003005101267d046f1f036f026f41c01002070800d612 Q76 Qlm Qad4
def Qad6:=dZ 0x9030040c80069f05c0c21 Qad5
def Q75:=dZ 0x930030b80059f0102207700851 Qad6
def Qat3:=dZ 0x9002054f00411 Q75
theorem Qaq8:mFn prog Qtc 2 40 Qat3 A7=true:=ZE
def Qqa:=dY 0x29584ef81014fb80c14f003
def Qqb:=dY 0x147100432f051 Qqa
def Ru:=dY 0x3f6a0f063240f1f2
def s_l3Gen_expr_3:=dZ 0x874100484e58462121203
def Qqc:=dY 0x1b683e0b33164ffa5a33034fda2e54fca2d14f8a2914f4a2514f007
def Qqd:=dY 0x157171332f069f03605a334a2514f304 Qqc
def Qqe:=dY 0x4b784e001
def Qqf:=dY 0x101e7832492
def Qqg:=dY 0x10db422f014ccb3d14f473 Qqf
def Qamf:=dZ 0x13050bb0089f1f0048803a30
def Qad7:=dZ 0x90013051026f043ded010220708001002070800178323cb0e0d0c0b010a09080706050403020100100fa0142 Qamf Qqg
def Q77:=dZ 0x9006839339f001306003440501681288035512 Qad7
def Qlp:=dY 0xf0244f1
def Qad8:=dZ 0x874100484e784650214f3
def Qlq:=dY 0x484e0136d102471004d1f07d24c7845764f614
def Qlr:=dY 0x1026f043ded15f14f55b14f7845764f604 Qlq
def Qad9:=dZ 0x741101267d569f010220708001002070807846579f0a6f086f046f036f41c0100207080510ff121110060f0e0a06050e0d0c0b0a0908070604030201001713a2 .skip Qlr
def Qaea:=dZ 0x19094ff23041026f021fd01002070804a512 Qad8 Qlp Qad9
def Qaeb:=dZ 0x1909500400130500f008112 Q77 [] Qaea
def Qaec:=dZ 0x901304147100432f079f0120d6f102471004d1f0168023241 Qaeb Qqe
def Qp9:=dZ 0x9130310521fd0501012070800100207080010120708022e110f0e0c0b0703100f0e030d0c0b0a090807060504030201001910a2 Qaec Qqd
def Qaed:=dZ 0x190920f03041046f021f3203f03210f003220f03270f083200f000f02405010120708013c12 s_l3Gen_expr_3 Ru Qp9
def Qaee:=dZ 0x9030310153ded1800102207080010020708009a0b07030a090807060504030201000e0aa2 Qaed Qqb
def Qa2k:=dZ 0x92003047100432f0411 Qaee
abbrev E8:List RS:=[.cell 4 4 true]
theorem Qawv:mFn prog Qxs 2 99 Qa2k E8=true:=ZE
def Oj:=dY 33041
def XM:=dZ 0x872102f00211113
def Yw:=dZ 0x1120a80039f1f004500930
def Yv:=dZ 0x1909d113101dfd0101133800118120b610142 XM Oj Yw
def Qbnr:=dZ 0x9006808341130034405013120004512 Yv
def FN:=dY 0xf90029f2f03a1f2
def Oi:=dY 0x1046f02e03703f03710f1823720f002f04a036f052b40f02b50f02b10f1812b20f0015a FN
def Yu:=dZ 0x721101dfd0118021231 .skip Oi
def Yt:=dZ 0x1909500411200f003112 Qbnr [] Yu
def Ti:=dZ 0x91102f0090121 Yt
theorem SK:mFn prog Ii 1 32 Ti A8=true:=ZE
def KN:=dY 0x490039f0704142
def HT:=dZ 0x1130b80049f1f004500a30
def Qbnm:=dZ 0x90113101e1d0102201334800118023800c800142 HT KN
def Qbg3:=dZ 0x90068093401140034405014020005512 Qbnm
def HS:=dZ 0x7210590029f3801521
def Qbno:=dZ 0x19095004011300f004112 Qbg3 [] HS
def Qbnp:=dZ 0x911200f00311 Qbno
def Vh:=dZ 0x91100f0090121 Qbnp
theorem TS:mFn prog I9 1 22 Vh A8=true:=ZE
def Ps:=dY 0xc80029f2f02a0d6f031340f081300f002f02a0c6f030b40f50b00f00059
def Qbbw:=dZ 0x72110e6f1f0343d200321 .skip Ps
def Qbnw:=dZ 0x90102f00211 Qbbw
theorem Qbls:mFn prog Lj 1 13 Qbnw A8=true:=ZE
def MP:=dY 0xb90159f03f2a0c6f023040f083000f00185
def Qbhm:=dZ 0x87210026f00211153
def Qbhn:=dZ 0x915f11096f036f0343d080162172101f00211063 Qbhm MP
def Qbho:=dZ 0x95020490069f03f2a0d6f022240f082200f0003f2a0b6f021a40f081a00f0003f2a0a6f021240f081200f00026f02460070ff172100f00211033 Qbhn
def Fx:=dZ 0x72107f00211
def Qbhq:=dZ 0x19092020580039f1f0243004310042 Qbho [] Fx
def Yp:=dZ 0x90100f00211 Qbhq
theorem Yx:mFn prog FS 1 28 Yp A8=true:=ZE
def Qbap:=dZ 0x872101f00211033
def IY:=dZ 0x72100f00211
def Qbar:=dZ 0x19093102003112 Qbap [] IY
def Qbnt:=dZ 0x90100f00211 Qbar
theorem Qblq:mFn prog Ll 1 4 Qbnt A8=true:=ZE
def Qani:=dZ 0x8700012e6d38560800c310b3
def Qrg:=dY 655425
def Qrh:=dY 0x1079122f011c1f2 Qrg
def Qanj:=dZ 0x2040690059f1f0045801530
def Qank:=dZ 0x9002041052e7d046014358001382208048017800142 Qanj Qrh
def Qahn:=dZ 0x90068143e00205003440501382258010512 Qank
def Qri:=dY 0x201e052ca73a3
def Qanl:=dZ 0x201e062571f00401062070800803c90
def Qanm:=dZ 0x901100b322f013c0f1201141030013d1f010620708001381201052070800802ce11f11f2 Qanl Qri
def Qrj:=dY 0xf1026f55c4d4804b2
def Qmm:=dY 0x23036f65c6d45c14f0f515b34f603
def Qmn:=dY 5111905
def Qmo:=dY 7209073
def Qmp:=dY 9306241
def Qag5:=dZ 0x10f1f35c6d880011c8800807f50
def Qag6:=dZ 0x97020022c3d0138420807b41 Qag5
def Qag7:=dZ 0x942030010f1f35c6d780011c8800807651 Qag6
def Qag8:=dZ 0x9032040022c3d0138320807241 Qag7
def Qag9:=dZ 0x9032040014026f75c6d6800121c780680010f0134800806991 Qag8
def Qaha:=dZ 0x90010206101c2d0806721 Qag9 Qmp
def Qahb:=dZ 0x9010205101c2d0806521 Qaha Qmo
def Qahc:=dZ 0x80910204101c2d0806321613 Qahb Qmn
def Qahd:=dZ 0x961f020402e0619f056f2a2462210101c2d08001c010f013480080597070302060504030201000a08a573 Qahc Qmm
def Qahe:=dZ 0x957f22f020508d0579f076f2a2458210000f7f0c6f15c4d4800805430523 Qahd
def Qahf:=dZ 0x952f22f020503d0529f046f2a2453210000f7f0d6f15c4d4800804f304d3 Qahe
def Qahg:=dZ 0x94df22f02050ec04d9f036f2a244e2101022e8d0138120800804650443 Qahf Qrj
def Qahh:=dZ 0x1944f22f020505c0449f026f2a24452109202000f1026f55c4d48001062070800802571233 Qanm [] Qahg
def Qahi:=dZ 0x9022f020504a0239f1f1242421024 Qahh
def Qahj:=dZ 0x922f020400138022120d22 Qahi
def Qahk:=dZ 0x190950040020400f005112 Qahn [] Qahj
def Qahl:=dZ 0x902030f80049f01c0f21 Qahk
def Qahm:=dZ 0x190972030066f0240150209312 Qani [] Qahl
def Qa3u:=dZ 0x92020190311 Qahm
theorem Qaw3:mFn prog Qx1 2 132 Qa3u By=true:=ZE
def DA:=dY 3735633
def Qqs:=dY 0xca0049f015c012311026f103575747105d1f014c2a4
def Qqt:=dY 0x1036f02c8d291 Qqs
def Qqu:=dY 0x4b0049f015c342
def Qqv:=dY 69305291569 Qqu
def Qqw:=dY 0xc0049f015c012036f102575747105d1f014c3e4
def Qqx:=dY 0xac0049f015c012046f102575747105d1f0224c484
def Qqy:=dY 0x1026f02c8d080462 Qqx
def Qqz:=dY 0x4d0049f015c012036f102575747105d1f014c0130c6f102471004d1f014c506
def Qq0:=dY 0xfd685e001
def Qlu:=dY 0x157574710532f069f013412056f103575747105d1f5f2 Qq0
def Qlv:=dY 0x1022c7d1f014180080014c5a5 Qlu
def Qlw:=dY 0xf024651
def Qlx:=dY 0x101e68426a2
def Qaem:=dZ 0x8611022c7d1f0141800806640653 .skip Qlx
def Qqp:=dZ 0x7410ce0049f015c68566b31
def Qaen:=dZ 0x190965f40041026f021fd010020708060512 Qaem Qlw Qqp
def R9:=dY 0x775f06d9f2f06a0f02e140f763
def Qly:=dY 0x7c5f0049f015c012076f102575747105d1f014c7a4
def Qqq:=dZ 0x87411026f02c8d08078216d3 .skip Qly
def Qaeo:=dW 0x196df0032036f021fe103f0e110f00e120f0e170f08e100f000b6f0245806e810940031036f02c8d0805821553 [Qaen,Qqq] [Qlv,R9]
def Qaep:=dZ 0x955f300407d0559f0b6f0445805631741101ebd0804e214b3 Qaeo Qqz
def Qaeq:=dZ 0x94bf30040dc04b9f086f0245804c31741101ebd0804421413 Qaep Qqy
def Qaer:=dZ 0x941f300403c0419f076f02458042317411036f02c8d0803c21353 Qaeq Qqw
def Qaes:=dZ 0x935f30040bb0359f03f2a026f047040f187000f00076f04458036717411036f02c8d08008030312d3 Qaer Qqv
def Qaet:=dZ 0x92df30040fa02d9f056f0445802e317411042e9d279f080289f010220708001002070801fa0e0d0c0b0a080907060504030201000f0fa2143 Qaes Qqt
def Qlz:=dY 0x7f5f0041
def Rt:=dZ 0x7411012ecd1800807d31 .skip Qlz
def Qaeu:=dZ 0x1909e30040e90149f2f06a0f062f40f02f50f02f10f022f20f02f70f082f00f00036f04458015b10042 Qaet [] Rt
def Qaev:=dZ 0x9300310d6f021fd01002070800f51 Qaeu DA
def Qaew:=dZ 0x90020201e042571f014010420770600791 Qaev
def Qa2o:=dZ 0x9002054f00411 Qaew
theorem Qawx:mFn prog Qxu 2 128 Qa2o A7=true:=ZE
def PB:=dY 0x3f3a0f021440f0d2
def Nm:=dY 6820257793
def s_l2Expr_2:=dZ 0x87611012edd1800800f310e3 .skip Nm
def Nl:=dY 0xf024141
def Nk:=dY 0x684e0136102471004d1f014c1d3
def Nj:=dY 0x10233ded1f014280180080185 Nk
def Qbgt:=dZ 0x8761101267d0b6f0c6f0b6f31c0801531143 .skip Nj
def Ni:=dY 1704049
def Nh:=dY 0x684e0132a102471004d1f0524c2d3
def Ng:=dY 0x10233ded1f014280180080285 Nh
def Qa9c:=dZ 0x76110233ded1f0142801800807802261 .skip Ng
def Qa9d:=dZ 0x9030005101267d0a6f096f086f076f066f056f046f036f036f91c0801f31 Qa9c Ni
def Nn:=dZ 0x1909d300051076f021fd08012212 Qbgt Nl Qa9d
def Qa9e:=dZ 0x19097300051046f021f1403f081400f00026f0445008512 s_l2Expr_2 PB Nn
def XS:=dZ 0x930004047100432f0611 Qa9e
theorem Y5:mFn prog K1 3 47 XS D9=true:=ZE
def Rm:=dY 0xe80029f2f03a01580f0d3
def Qvr:=dY 0x101ef1503f081500f002f03a046f050b40f08f50b00f00058 Rm [gT 7 5 (.lens (.t 6))]
def Qaux:=dZ 0x72111f02eed200321 .skip Qvr
def Qbc1:=dZ 0x90102f00211 Qaux
theorem Qa5v:mFn prog Q25 1 15 Qbc1 A8=true:=ZE
def Q5l:=dY 33057
def Qbaj:=dZ 0x874102f00411123
def Ef:=dZ 0x30030b80059f1f004400a30
def Qbal:=dZ 0x1909c30041012f0d1800560153700800c610142 Qbaj Q5l Ef
def Qa2q:=dZ 0x90068093330040024405600006412 Qbal
def Qban:=dZ 0x19095004300300f005112 Qa2q [] Ca
def Qbns:=dZ 0x900202f00411 Qban
theorem Qblp:mFn prog Lm 2 19 Qbns A7=true:=ZE
def Q5b:=dY 0xb90039f06041b2
def Q5c:=dY 0x101e1d1a9f0604891914f695951734f144 Q5b
def Qa9x:=dZ 0x2030c80049f1f004600b30
def Qa9y:=dZ 0x90203101e1d139f010420153480080159f0103201534800803800dc0f0e0d070c0a060c0b0a09080504030201001210a0142 Qa9x Q5c
def Qa2g:=dZ 0x900680a3502040024405702007412 Qa9y
def Qa9z:=dZ 0x7210c90029f3801c21
def Qa90:=dZ 0x19095004020300f004112 Qa2g [] Qa9z
def Qa91:=dZ 0x92020680039f05400531 Qa90
def Qbnq:=dZ 0x90100f00211 Qa91
theorem Qblo:mFn prog Lp 1 29 Qbnq A8=true:=ZE
def Qrc:=dY 9961537
def Qrd:=dY 0xb80051
def Qre:=dY 0xd80061
def O4:=dY 8978545
def Qanb:=dZ 0x10f1f35c6d680011c4800802450
def Qanc:=dZ 0x913030022c3d0138320802041 Qanb
def Qand:=dZ 0x9102040014026f55c6d5800121c6805807800801971 Qanc
def Qane:=dZ 0x900002061042e7d0460f0430138220801361 Qand O4
def Qanf:=dZ 0x90002050010f1f35c6d480011c4800800e51 Qane
def Qang:=dZ 0x9000205101c2d0800c21 Qanf Qre
def Qag3:=dZ 0x900204101c2d0800a21 Qang Qrd
def Qag4:=dZ 0x90203101c2d700821 Qag3 Qrc
def Qa3t:=dZ 0x92020190311 Qag4
theorem Qaw2:mFn prog Qx0 2 41 Qa3t By=true:=ZE
def Qq6:=dY 1638465
def Qq7:=dY 0x10131f55c4d20f14f112 Qq6
def Qq8:=dY 7929921
def Qq9:=dY 0xc90041
def Qam3:=dZ 0x87411012f2d38460801a31183 .skip Qq9
def Qam4:=dZ 0x918f2030990189f0a6f882419217411022e8d0138220801441123 Qam3 Qq8
def Qam5:=dZ 0x9942040390129f026f88241321741101c5d0d9f01c0138120e9f0800800b60706040205040301000908a2093 Qam4 Qq7
def Qam6:=dZ 0x9042040a80099f1f1240a21004 Qam5
def Qra:=dY 0xea0051
def Qrb:=dY 0x105a122f011c2d2 Qra
def Qagq:=dZ 0x120404a0069f1f0046802330
def Qagr:=dZ 0x9012041052e7d046014368001383208058025800242 Qagq Qrb
def Q8q:=dZ 0x9016822322f0120500344050138326801e512 Qagr
def Qmd:=dY 8060993
def Qme:=dY 0x100f10a6f35c4d580362 Qmd
def Qmf:=dY 0xeb0041
def Qmg:=dY 0x100f10b6f35c4d5803d2 Qmf
def Qmh:=dY 0xcc0041
def Qmi:=dY 0x1013c0e6f1c5c4d4c1 Qmh
def Qmj:=dY 0x1022f3d14914f314764f4a3 Qmi
def Qags:=dZ 0x8741101c5d439f5804b9f01382201600207080449f08008041a0c0b090806020a08070605040301000f0da23f3 .skip Qmj
def Qagt:=dZ 0x93ff120400c03f9f0d6f0b244021741101c5d0800803a31383 Qags Qmg
def Qagu:=dZ 0x9730f120509b0389f0c6f0b243921741101c5d0800803331313 Qagt Qme
def Qagv:=dZ 0x9030f120502b0319f0b6f1243221034 Qagu
def Qmk:=dY 3997761
def Qml:=dY 0x100f1355c4d44f14f532 Qmk
def Qagw:=dZ 0x741101c5d519f580529f0800138020804d60706020405030201000908a2 .skip Qml
def Qagx:=dZ 0x190930f120400138022f20d222 Qagv [] Qagw
def Qagy:=dZ 0x190950140120400f006112 Q8q [] Qagx
def Qagz:=dZ 0x912030d90059f01c1d21 Qagy
def Qag0:=dZ 0x1909420300130207212 Qam6 [] Qagz
def Qa3r:=dZ 0x920200f0190321 Qag0
theorem Qaw0:mFn prog Qxy 2 84 Qa3r A7=true:=ZE
def Qaup:=dZ 0x874101a0049f01012013358001052070801a91193
def Qauq:=dZ 0x30030f80059f1f0145800e30
def Qaur:=dZ 0x190919f300400124180010020133580010520708010a10142 Qaup [] Qauq
def Qanh:=dZ 0x900680d37300400f074600c212 Qaur
def Ce:=dZ 0x74107f00411
def Qaut:=dZ 0x1909500430030b80059f1f0140501052075006712 Qanh [] Ce
def Qbct:=dZ 0x900200f00411 Qaut
theorem Qa5u:mFn prog Q24 2 34 Qbct A7=true:=ZE
def Qbg2:=dW 0x9002008f0411 [KJ] [] [fI 4 (.mv (.k (.c (.str []))))]
theorem Qbfx:mFn prog ND 2 12 Qbg2 A7=true:=ZE
def Qvf:=dY 7864401
def Qvg:=dY 0x201e022887123
def Qvh:=dY 0x102122f011c5800f3 Qvg
def Qat9:=dZ 0x74100485e0122111f103575747105d1f014c38465801451
def Qaua:=dZ 0x90033104122f010220708001c700871 Qat9 Qvh
def Qaub:=dZ 0x900204101f4d500621 Qaua Qvf
def Qa92:=dZ 0x90203057574710532f190321 Qaub
abbrev N0:List RS:=[.cell 4 5 true]
theorem Qa5r:mFn prog Q21 2 24 Qa92 N0=true:=ZE
def Qp7:=dY 0x284e013076f102471004d1f0724c0111f102471004d1f0b4
def Qp8:=dY 0x101267d20814f0a2 Qp7
def Qame:=dZ 0x7211026f02c8d049f0f116f086f106f106f106f61c010020740059f200370b0a09080705010605040302000d0ca2 .skip Qp8
def Qa2j:=dZ 0x9102047100432f0211 Qame
abbrev P1:List RS:=[.cell 2 4 true]
theorem Qawu:mFn prog Qxr 1 14 Qa2j P1=true:=ZE
def Qqi:=dY 6803546113
def Qqj:=dY 0x157574710532f051 Qqi
def Qqk:=dY 0x1072ead0111f102471004d1f102 Qqj
def Qql:=dY 0x49684e001
def Qqn:=dY 0xa885e001
def Qqo:=dY 0x1b0049f0725c013412066f103575747105d1f6842a64f5852964f305
def Qamg:=dZ 0x741102522f015c8856780014c684658562970908070100060504030201000c0aa2 .skip Qqo
def Qamh:=dZ 0x9000540201e04257026f01401042070800802191 Qamg
def Qami:=dZ 0x9000405157574710532f089f012511026f103575747105d1f014c013046f102471004d1f0124c1f111f102471004d1f68460158121991 Qamh Qqn
def Qaej:=dZ 0x9004041022c7d1f0141800801541 Qami O4
def Qaek:=dZ 0x903004147100432f069f012026f102471004d1f0158121241 Qaej Qql
def Qael:=dZ 0x93003101267d056f0f1f036f026f51c01002070800800971 Qaek Qqk
def Qa2n:=dZ 0x9002054f00411 Qael
theorem Qaww:mFn prog Qxt 2 50 Qa2n A7=true:=ZE
def P8:=dY 0x3f3a0f021040f0b2
def MZ:=dY 0x484e0111f102471004d1f102
def s_l2Leaf_2:=dZ 0x8741101267dff6f646f106f0f6f076f056f036f026f1f0fa1c0800d310c3 .skip MZ
def MY:=dY 0x484e012026f102471004d1f142
def KO:=dZ 0x7411012e9d1800801131 .skip MY
def Qbg1:=dZ 0x1909720041036f021f1003f081000f000f024053005612 s_l2Leaf_2 P8 KO
def XO:=dZ 0x92003047100432f0411 Qbg1
theorem Y2:mFn prog Ky 2 21 XO E8=true:=ZE
def KT:=dY 5168955650
def Qbm6:=dZ 0x874102f00411113
def Qbm8:=dW 0x1909b3004101f5d08f700800c410142 [Qbm6,Ef] [KT] [fI 14 (.idx (.t 12) (.t 13))]
def Qbgr:=dW 0x90068093330040024408f600006412 [Qbm8] [] [fI 8 (.lens (.t 7))]
def Qbm9:=dW 0x7410490049f0f06408f0801241 [] [] [fI 19 (.lens (.t 18))]
def Qbna:=dZ 0x19095004300300f005112 Qbgr [] Qbm9
def Vj:=dZ 0x900202f00411 Qbna
theorem TV:mFn prog IB 2 21 Vj A7=true:=ZE
def CQ:=dY 5767217
def Qbnc:=dZ 0x872103f00211113
def HU:=dZ 0x2030b80049f1f004500a30
def Qbne:=dZ 0x1909c0204001240800101134803800c610142 Qbnc [] HU
def Qbgs:=dZ 0x90068093402040024405301006412 Qbne
def Qbnf:=dZ 0x72102f00211
def Qbng:=dZ 0x19095004020300f004112 Qbgs [] Qbnf
def Qbnh:=dZ 0x920210f6d0511 Qbng CQ
def Vi:=dZ 0x90102f00211 Qbnh
theorem TU:mFn prog IA 1 18 Vi A8=true:=ZE
def O9:=dY 0x3f7a0331e40f41e1255f51e1115f164
def P7:=dY 0x101f71e03f01e10f2801e20f01e50f01e10f2821e20f0003f4a01280f0d9 O9
def s_l3Stmt_2:=dZ 0x874102f00411173
def MR:=dY 0x3f7a2f034aa0f08f05110f2815120f04a00f04a80f584a00f000331f1f24a [] [gT 43 40 (.bin 0 .neq (.t 42) (.k (.c (.str []))))]
def Ir:=dZ 0x874102f004112d3
def MQ:=dY 33713
def Qbhc:=dZ 0x874102f004113b3
def Qbhd:=dZ 0x301304b0069f1f0046803330
def Qbhe:=dZ 0x19093bf3014101f8d046014368001282235610142 Qbhc MQ Qbhd
def Qbai:=dZ 0x9006832332f301400344050128226802e512 Qbhe
def Qbaa:=dZ 0x874102f00411463
def Qbab:=dZ 0x874102f004115f3
def PM:=dY 0xbe0049f2f05a6b2
def Q5k:=dY 0x1022e0cb03f1f01cb40f18cb00f0cb10f284cb20f00656 PM
def Qbac:=dZ 0x7411022e0d1f0141800128326051 .skip Q5k
def Qbad:=dZ 0x19095ff013003f0da2f03a0a0f066f03b540f0b510f280b520f0a000f2f03a0a0f056f03ab40f0ab10f280ab20f0a000f0f06a040f0a050f0a010f283a020f002f03a056f039740f09710f2809720f000f064050128424719f12 Qbab [] Qbac
def Qbae:=dZ 0x190946f01302f06a0d6f037f40f07f10f007f20f0f047f30f07f10f2827f20f00086f0240128023cb12 Qbaa [] Qbad
def Qbaf:=dZ 0x19095004301300f006112 Qbai [] Qbae
def Qbag:=dZ 0x19092df013101dfd01281258020412 Ir MR Qbaf
def MS:=dZ 0x920130f90059f03f3a026f023640f03610f2803620f001f0240128021891 Qbag
def Qbah:=dZ 0x190917f0131086f1f03431203f01210f701220f001f04450076100f0b0a0e0d0c0b0a090807060504030201001311a22 s_l3Stmt_2 P7 MS
def Yr:=dZ 0x901202f0049f190221 Qbah
theorem Yz:mFn prog Kv 2 108 Yr A7=true:=ZE
def Qvi:=dY 589905
def Qvj:=dY 5832801
def Qvk:=dY 0x100f11f35c4d01c142 Qvj
def Qvl:=dY 7929969
def Qvm:=dY 0x990081
def Qvn:=dY 6946961
def O0:=dY 0xca00a1
def Qvp:=dY 0x100f20a6f45c4d011c9802a3 O0
def Qaui:=dZ 0x74107b0049f6803721
def Qauj:=dZ 0x9610010f1f35c6d880011c8800803251 Qaui
def Qamv:=dZ 0x91503000f20a6f35c4d011ca806800802d51 Qauj
def Qamw:=dZ 0x911504101c5d0800802731 Qamv Qvp
def Qamx:=dZ 0x9015041042e7d0461f0430138320802161 Qamw Qvn
def Qamy:=dZ 0x9122040014026f55c6d7800121c8807805800801a71 Qamx
def Qamz:=dZ 0x90001206101c2d0801821 Qamy Qvm
def Qam0:=dZ 0x9001205101c2d0801621 Qamz Qvl
def Qam1:=dZ 0x901204101c5d0800801131 Qam0 Qvk
def Qam2:=dZ 0x912031042e7d0460f0430138320800b61 Qam1 Qvi
def Qbcr:=dZ 0x920200f0190321 Qam2
theorem Qa5s:mFn prog Q22 2 56 Qbcr A7=true:=ZE
def Qbcw:=dZ 0x87410590049f5801521143
def Qbcx:=dZ 0x20130c80059f1f004500b30
def Qbcy:=dZ 0x1909e2014001241800100201335800128020d810142 Qbcw [] Qbcx
def Qa36:=dZ 0x900680a3420140034405014020006512 Qbcy
def Qbc0:=dZ 0x19095004201300f005112 Qa36 [] Ce
def Qbn9:=dZ 0x901200f0049f190221 Qbc0
theorem Qblv:mFn prog LT 2 22 Qbn9 A7=true:=ZE
def Qls:=dY 0x2f06a0f062340f02350f02310f022320f02370f082300f000f024109
def Qlt:=dY 1703969
def Qaef:=dZ 0x87211042e9d01022070800100207080199a0af2183 .skip Qlt
def Qaeg:=dW 0x7210da0029f08f1f004186f0a40103207080186f0a4010320708022dd0df2 [] [] [fI 45 (.slis (.k (.c (.str [97,98,99,100,101,103,104,105,106,107,108,109,110,112,113,114,115,116,117,118,119,120,121,122]))) (some (.t 38)) (some (.t 44)))]
def Qaeh:=dZ 0x190918f021096f021fd01002070800b512 Qaef Qls Qaeg
def Qaei:=dZ 0x9010201e032571f004010320730200391 Qaeh
def Qat8:=dW 0x901008f0211 [Qaei] [] [fI 2 (.mv (.k (.c (.str []))))]
theorem Qaq9:mFn prog Qtd 1 46 Qat8 A8=true:=ZE
def Q48:=dY 0x490119f0f074142
def Qa86:=dZ 0x87210046f00211153
def Qa87:=dW 0x915f10b90159f03f2a18f083000f0008f08016717210036f00211113 [Qa86] [] [fI 23 (.bin 0 .eql (.t 22) (.k (.c (.int .u8 32)))),gF 26 24 (.bin 0 .eql (.t 25) (.k (.c (.int .u8 10))))]
def Qa88:=dW 0x911f02108f08012217210026f002110a3 [Qa87] [Q48] [eI 19 (.call Q00 [.k (.c (.str [40,41,123,125,59,44,43,45,42,47,37,60,61,38,33,64])),.t 18])]
def Qa89:=dW 0x990200900a9f2f02a18f081b00f0008f0800b7172101f00211033 [Qa88] [] [fI 12 (.bin 0 .geq (.t 11) (.k (.c (.int .u8 48)))),gT 15 13 (.bin 0 .leq (.t 14) (.k (.c (.int .u8 57))))]
def Qa9b:=dW 0x19092020980039f2f02a18f60d00f0008f3004710042 [Qa89,IY] [] [fI 5 (.bin 0 .geq (.t 4) (.k (.c (.int .u8 97)))),gT 8 6 (.bin 0 .leq (.t 7) (.k (.c (.int .u8 122))))]
def Qbnb:=dZ 0x90100f00211 Qa9b
theorem Qblk:mFn prog Ls 1 28 Qbnb A8=true:=ZE
def Qah3:=dW 0x7010180009f08f0121 [] [] [fI 1 (.kO 1 [.k (.c (.str [102,110])),.k (.c (.str [108,101,116])),.k (.c (.str [115,97,121])),.k (.c (.str [112,117,116])),.k (.c (.str [105,102])),.k (.c (.str [101,108,115,101])),.k (.c (.str [108,111,111,112])),.k (.c (.str [98,97,99,107])),.k (.c (.str [100,111]))])]
def Qauy:=dZ 0x90014f00011 Qah3
abbrev Qyw:List RS:=[.tmp 0]
theorem Qarg:mFn prog Qtj 0 2 Qauy Qyw=true:=ZE
def Qbg4:=dZ 0x87210026f00211043
def Qbg5:=dZ 0x72101f00211
def Qbg6:=dZ 0x1909410046f0242003212 Qbg4 [] Qbg5
def XN:=dZ 0x90100f00211 Qbg6
theorem Y1:mFn prog Kx 1 5 XN A8=true:=ZE
def RB:=dY 0x980029f2f03a1e6f050b40f083
def Qjn:=dY 0x101fb0b03f440b60f00053 RB
def Q8z:=dZ 0x7211066f02fad1460321 .skip Qjn
def Qanx:=dZ 0x91102f0090121 Q8z
theorem Qai0:mFn prog Qoa 1 10 Qanx A8=true:=ZE
def D3:=dZ 0x87410190049f5801121103
def Qa9r:=dW 0x1909a30040012418008f700800c510142 [D3,Ef] [] [fI 14 (.idx (.t 12) (.t 13))]
def Qa2d:=dW 0x90068093330040024408f600006412 [Qa9r] [] [fI 8 (.lens (.t 7))]
def Qa9t:=dZ 0x19095004300300f005112 Qa2d [] Ce
def Qbnj:=dZ 0x900200f00411 Qa9t
theorem Qblm:mFn prog Q00 2 18 Qbnj A7=true:=ZE
def Nc:=dY 0xe80d80059f41b30b0d9fc80095
def OA:=dY 0x3f7a02e80f1e2
def PA:=dY 0x10123432e03f682e00f582e00f02e50f02e10f2832e20f0003f4a02280f159 OA
def s_l2Form_3:=dZ 0x874102f004111f3
def P9:=dY 0x3fcba2f0378a0f0f038140f08110f2818120f07800f1f037840f07810f2807820f0003f4a06c80f3ac
def Nb:=dY 0x1ff6f0f03436c03f06c10f2816c20f0003f7a2f035aa0f08f06110f2826120f05a00f05a80f785a00f000331f1f2ce P9 [gT 51 48 (.bin 0 .neq (.t 50) (.k (.c (.str []))))]
def s_l2Form_6:=dZ 0x874102f00411453
def Na:=dY 34129
def Qbgu:=dZ 0x874102f00411553
def Qbgv:=dZ 0x50130cc0089f1f0048804b30
def Qa9f:=dZ 0x190955f50141022fad1f01418004601438800128324d810142 Qbgu Na Qbgv
def Qa2b:=dZ 0x900684a34af5014003440501283288046512 Qa9f
def Nf:=dZ 0x19095004501300f008112 Qa2b [] Ca
def Qa9h:=dZ 0x190945f013101dfd01282278028412 s_l2Form_6 Nb Nf
def Nd:=dZ 0x9401307a0079f03f3a0d6f024640f04610f2804620f00026f0240128022091 Qa9h
def Qa9i:=dZ 0x19091ff01310d6f1f03432203f02210f2802220f001f0441800f612 s_l2Form_3 PA Nd
def Qa9j:=dZ 0x902014101fcd017020a31 Qa9i Nc
def XR:=dZ 0x901202f0049f190221 Qa9j
theorem Y4:mFn prog K0 2 86 XR A7=true:=ZE
def Q49:=dY 0x390039f0604132
def Qa9l:=dZ 0x90113101fbd04601434800118323800c700142 HT Q49
def Qa2c:=dZ 0x90068093401140034405014320005512 Qa9l
def Qa9m:=dZ 0x7210490029f3801421
def Qa9n:=dZ 0x19095004011300f004112 Qa2c [] Qa9m
def Qa9o:=dZ 0x911201f00311 Qa9n
def Qbni:=dZ 0x91100f0090121 Qa9o
theorem Qbll:mFn prog Lr 1 21 Qbni A8=true:=ZE
def Qbgw:=dZ 0x420780059f026f22407208053
def Qbgx:=dZ 0x3420a80089f0c6f5240a208083
def Qbgy:=dZ 0x870220036f00f002210b3
def KS:=dZ 0x9b10c800b9f0d6f7240c21702201f01f00221083 Qbgy
def KQ:=dZ 0x19093420980089f0b6f42409212702200f00f00221053 Qbgx [] KS
def Qbgz:=dZ 0x19090420680059f1f12406212004 Qbgw [] KQ
def Q11:=dZ 0x70220026f0026f00221
def Qbg0:=dZ 0x19094103004112 Qbgz [] Q11
def XQ:=dZ 0x90100f00f00221 Qbg0
abbrev GN:List RS:=[.tmp 2,.tmp 3]
theorem Y3:mFn prog Kz 1 13 XQ GN=true:=ZE
def OG:=dY 32849
def Q6u:=dZ 0x8721014f00211053
def Qi3:=dY 8912929
def Qi4:=dY 4314288257 Qi3
def Q6v:=dZ 0x7211016bd4360621 .skip Qi4
def Q6w:=dZ 0x19093121015ed13603212 Q6u OG Q6v
def Qajc:=dZ 0x911014f0090121 Q6w
theorem Qain:mFn prog Qnx 1 9 Qajc A8=true:=ZE
def E7:=dY 0x880049f0f074082
def Qah1:=dZ 0x74110122bd40400531 .skip E7
def Qauv:=dZ 0x900202f00411 Qah1
theorem Qarf:mFn prog Qti 2 9 Qauv A7=true:=ZE
def Qbmj:=dZ 0x87410290049f5801221113
def Qbml:=dZ 0x1909b300400124180010113700800c610142 Qbmj [] Ef
def Qbgi:=dZ 0x90068093330040024405600006412 Qbml
def Qbmn:=dZ 0x19095004300300f005112 Qbgi [] Ce
def Vk:=dZ 0x900200f00411 Qbmn
theorem TW:mFn prog IC 2 19 Vk A7=true:=ZE
def Q34:=dY 0xf80051
def P3:=dY 0xa90071
def Qa68:=dZ 0x11602f01e01136807802440
def Qa69:=dZ 0x11602f01e011368078027400900001160010f2475d01c780183620411f3 Qa68
def Q36:=dY 0xba0081
def Qa7a:=dZ 0x11800b0099f1f0049802f30
def Qa7b:=dZ 0x90000001180101e2b1b132f05a07b80f07b10f0117b30f987b00f787b00f002f04a06f10f0116f30f986f00f586f00f000101136805809808803115f00342 Qa7a
def Qaz8:=dZ 0x902682e32ef000000119001443809802c312 Qa7b
def Q37:=dY 9175105
def Qa7c:=dZ 0x115102122f011c8804804540 .skip Q37
def Qazx:=dZ 0x1909502400000011800f009112 Qaz8 [] Qa7c
def Q33:=dW 0x900000117108f3802a21 [Qazx] [Q36] [eI 43 (.mks 1 [.bool false] (.t 42))]
def Qazy:=dZ 0x19091ff000011700f0346801e212 Qa69 [] Q33
def Qazz:=dZ 0x9000011603f01e01136807801b41 Qazy
def Qaz0:=dZ 0x1150890069f1f0046801730
def Qaz1:=dW 0x19090000116108f38019210142 [Qazz,Qaz0] [P3] [eI 26 (.mks 1 [.bool false] (.t 25))]
def Qas5:=dZ 0x9006816316f0001160014438068014312 Qaz1
def Qaz2:=dZ 0x72109c0029f4804921
def Qaz3:=dZ 0x1909500400011500f006112 Qas5 [] Qaz2
def Qaz4:=dZ 0x9001140010f2475d01c58018361041 Qaz3
def Qaz5:=dW 0x900114108f3800e21 [Qaz4] [Q34] [eI 15 (.mks 1 [.bool false] (.t 14))]
def Qaz6:=dZ 0x901130d80049f01c0d21 Qaz5
def Qaz7:=dZ 0x91120c80039f050118220a41 Qaz6
def Qbmv:=dZ 0x911014f0090121 Qaz7
theorem Qbk9:mFn prog L6 1 74 Qbmv A8=true:=ZE
def Rw:=dY 0xd80029f2f05a00f80f0c3
def Qaju:=dZ 0x7211012970f03f181980fe0f00f10f620f20f000f06405011220391 .skip Rw
def Qaxx:=dZ 0x91102f0090121 Qaju
theorem Qawo:mFn prog Qxp 1 14 Qaxx A8=true:=ZE
def P0:=dY 9961505
def Qa6b:=dZ 0x72110140d400821 .skip P0
def Qa6c:=dZ 0x9310013fd200621 Qa6b
def Qa6d:=dZ 0x9311013ed300421 Qa6c CQ
def Qbmh:=dZ 0x901014f00211 Qa6d
theorem Qbk2:mFn prog LD 1 10 Qbmh A8=true:=ZE
def Qu0:=dY 0x98481e001
def Qu1:=dY 74913607745 Qu0
def Qasi:=dZ 0x7210d80029f3810d21
def Qasj:=dZ 0x93100f0142f510b21 Qasi
def Qask:=dZ 0x91320051e641854a2e1f0a21 Qasj
def Qasl:=dZ 0x90011405132f0511 Qask
def Qasm:=dW 0x90113108f05014220641 [Qasl] [Qu1] [eI 9 (.mks 1 [.bool false] (.t 8))]
def Qasn:=dZ 0x9112017132f0311 Qasm
def Qa6j:=dZ 0x911014f0090121 Qasn
theorem Qa5l:mFn prog PV 1 14 Qa6j A8=true:=ZE
def Qa9u:=dW 0x8010780009f08f500630053 [] [] [fI 7 (.sli 1 (.t 6) none (some (kI 2000)))]
def Q5a:=dY 0xa80021
def MX:=dZ 0x7211052f01010172d1f700831 .skip Q5a
def Qa9v:=dZ 0x1909402007d09f064052003312 Qa9u [] MX
def Qbnk:=dZ 0x90108f00211 Qa9v
theorem Qbln:mFn prog Lq 1 11 Qbnk A8=true:=ZE
def Qa31:=dZ 0x9701300600424010113700801800b61 D3
def E5:=dZ 0x50040290089f1f88041220
def Qa33:=dZ 0x19090130050a80059f100a210142 Qa31 [] E5
def Qauw:=dZ 0x90009b005005010440911 Qa33
def Qa35:=dZ 0x190950040500400f0055006312 Qauw [] Ce
def Qbiq:=dZ 0x900200f00411 Qa35
theorem Qbf1:mFn prog N8 2 19 Qbiq A7=true:=ZE
def Qoz:=dY 32993
def Qai6:=dZ 0x8741014f004110e3
def Qo0:=dY 0x69785e490062
def Qo1:=dY 0xe90051
def Qai7:=dZ 0x800a315102122f011c6805801b401a3 .skip Qo1
def Qai8:=dZ 0x970090317001216d1800178421741 Qai7
def Qai9:=dZ 0xa3150f90129f1f29041f20
def Qaja:=dZ 0x190900800317117004727532f079f05624531014410142 Qai8 Qo0 Qai9
def Qacd:=dZ 0x90013b000a316010441311 Qaja
def Qajb:=dZ 0x74100a0049f5802021
def Qaca:=dZ 0x1909500400a31500f0050128220f412 Qacd [] Qajb
def Qacb:=dZ 0x190982014100f4315d1f01405016226008612 Qai6 Qoz Qaca
def Qacc:=dZ 0x92013014f00511 Qacb
def Qaxw:=dZ 0x9012014f0049f190221 Qacc
theorem Qawn:mFn prog Rl 2 33 Qaxw A7=true:=ZE
def Qw8:=dZ 0x741101263d40400531 .skip E7
def Q17:=dZ 0x900202f00411 Qw8
theorem Q08:mFn prog Qg9 2 9 Q17 A7=true:=ZE
def Q3q:=dY 33361
def Qa6s:=dZ 0x872102f00211253
def Qa6t:=dZ 0x1130690049f1f0044801530
def Qa6u:=dZ 0x190925f0114100f4343d1f0140501182201011348001042015338001182217e0ff0ff20342 Qa6s Q3q Qa6t
def Qax8:=dZ 0x9026814314f01140074405010420153380011822700c912 Qa6u
def Qa6v:=dZ 0x1120b80039f1f004600a30
def Qa6w:=dZ 0x19095024011300f004110142 Qax8 [] Qa6v
def Qax9:=dZ 0x9006809351130034405014221005512 Qa6w
def Qa6x:=dZ 0x72109a0029f0f064050118222651
def Qa6y:=dZ 0x1909500411200f003112 Qax9 [] Qa6x
def Qbmr:=dZ 0x91102f0090121 Qa6y
theorem Qbk6:mFn prog LA 1 42 Qbmr A8=true:=ZE
def Qa28:=dZ 0x30030490059f1f0045801330014
def Qaug:=dZ 0x90068123c300402f06a0141740f181700f01710f0111730f71700f081700f00024405701007c12 Qa28
def Qa29:=dZ 0x874101a0049f0802121203
def Q0i:=dY 6946913
def Q0j:=dY 0xea0041
def Q0k:=dY 0x103122f07f2e2 Q0j [.chk 45 none (.sli 1 (.t 43) (some (.t 44)) none)]
def Qa3a:=dW 0x741102122f2a9f08f5800802b9f011c180680277080706030605040201000a09a2 [] [Q0k] [fI 45 (.sli 1 (.t 43) (some (.t 44)) none)]
def Q53:=dW 0x903004103122f08f58008001c2251 [Qa3a] [Q0i] [fI 37 (.sli 1 (.t 35) none (some (.t 36)))]
def Q54:=dZ 0x190920f300402f06a0123340f183300f03310f0113330f583300f083300f0002440508058015c12 Qa29 [] Q53
def Qa3b:=dZ 0x190950042300300f00511 Qaug [] Q54
def Qbh3:=dZ 0x9002014f00411 Qa3b
theorem Qbfz:mFn prog NB 2 47 Qbh3 A7=true:=ZE
def On:=dY 1769521
def Qazr:=dZ 0x840001510125a475d380280010113980010420153180014822483625de0ef243 .skip On
def Qazs:=dZ 0x4000150790099f1f0049801630
def Qazt:=dZ 0x190924f400016008010891301011398001042015318001482228018d10142 Qazr [] Qazs
def Qas4:=dZ 0x90068153b4000160074405010420153180014822300d912 Qazt
def Om:=dY 5963905
def Qazu:=dZ 0x781102122f011c1803803241 .skip Om
def Qazv:=dZ 0x1909500440001500f009112 Qas4 [] Qazu
def Qazw:=dZ 0x90001403f01e0113180700a41 Qazv
def Qbgl:=dZ 0x900014014f0089f390421 Qazw
abbrev CS:List RS:=[.tmp 8]
theorem Qbfu:mFn prog NG 4 54 Qbgl CS=true:=ZE
def Qih:=dZ 0x7411012bed40400531 .skip E7
def Qkw:=dZ 0x900202f00411 Qih
theorem Qka:mFn prog Qc2 2 9 Qkw A7=true:=ZE
def G2:=dY 7864369
def Q1r:=dZ 0x731101236d4199e1f011420441 .skip G2
def Qach:=dZ 0x901202f0190221 Q1r
abbrev Cm:List RS:=[.tmp 3]
theorem Qaau:mFn prog Q6l 2 8 Qach Cm=true:=ZE
def Qa3w:=dZ 0x8721014f00211043
def Q0l:=dY 7864353
def Qa3x:=dZ 0x721101122f5001c0531 .skip Q0l
def Qa3y:=dW 0x1909302008f2003212 [Qa3w,Qa3x] [] [eI 4 (.nilq (.t 3))]
def Qbip:=dZ 0x901014f00211 Qa3y
theorem Qbf0:mFn prog N9 1 8 Qbip A8=true:=ZE
def Q6h:=dY 0x30f446cd0a1
def Qbcv:=dW 0x1016dd08f4030400550 [] [Q6h] [fI 8 (.cvt .u64 (.t 7))]
def Qbn8:=dZ 0x91020480029f05200331 Qbcv
theorem Qblu:mFn prog Q02 1 11 Qbn8 By=true:=ZE
def Qann:=dZ 0x87210980029f0800921083
def Qano:=dZ 0x20405b0039f1f0043803430
def Qanp:=dZ 0x809002040101e45130101135804803800802d812c3 Qano
def Qanq:=dZ 0x20402a0059f1f0045802130
def Qanr:=dZ 0x19092cf00205005340102131f01458048001011358048023aa0af20342 Qanp [] Qanq
def Qah0:=dZ 0x9026820320f0020500244054805801d412 Qanr
def Qans:=dW 0x7210bb0029f08f3800803941 [] [] [fI 59 (.sli 1 (.t 57) none (some (.t 58)))]
def Qant:=dW 0x9202017f08f3800803641 [Qans] [] [fI 56 (.sli 1 (.t 54) (some (.t 55)) none),.e none none (.clrs 1 [.int .i64 0] (.t 56))]
def Qanu:=dZ 0x190950240020401f005112 Qah0 [] Qant
def Qanv:=dW 0x80902030c90049f08f3800801a41193 [Qanu] [] [fI 28 (.sli 1 (.t 26) (some (.t 27)) none)]
def Qahv:=dZ 0x2020f80039f1f0043800e30
def Qahw:=dZ 0x190919f203005240102131f01438008001011338008010aa0af20142 Qanv [] Qahv
def Q8s:=dZ 0x900680d392030024405080600a412 Qahw
def Qahx:=dZ 0x7210cb0029f0803c21
def Qahy:=dZ 0x1909500420201f003112 Q8s [] Qahx
def Qahz:=dZ 0x19097020026f044055006312 Qann [] Qahy
def Qa3z:=dZ 0x901014f00211 Qahz
theorem Qaw4:mFn prog Qx2 1 61 Qa3z A8=true:=ZE
def Q7o:=dZ 0x800b01007001142f7803811b301a3
def Q7p:=dZ 0x970082010090080101137801811651 Q7o
def Q7q:=dZ 0xb010070e90129f1f29041e20
def Q7r:=dZ 0x19090082010080590079f01131314310142 Q7p [] Q7q
def Q1s:=dZ 0x90013b000b01008010441311 Q7r
def Qjg:=dY 0x2a481e001
def Q7s:=dZ 0x102122f011c0804811f40 .skip Qjg
def Q7t:=dZ 0x1909500400b0100700f0050104201530800128220b812 Q1s [] Q7s
def Qaln:=dZ 0x900000503f01e0113080610841 Q7t
theorem Qaix:mFn prog Pc 5 35 Qaln By=true:=ZE
def Qaso:=dZ 0x7610e80069f2f03a0151540f281500f081500f00015470500791
def Qa6k:=dZ 0x9000302f00611 Qaso
theorem Qa5m:mFn prog Q2w 3 15 Qa6k AJ=true:=ZE
def Q8u:=dZ 0x97013006004142f010113700801800b61 D3
def Q8w:=dZ 0x19090130050a80059f100a210142 Q8u [] E5
def Q18:=dZ 0x90009b005005010440911 Q8w
def Q8y:=dZ 0x190950040500400f0055006312 Q18 [] Ce
def Qanw:=dZ 0x900200f00411 Q8y
theorem Qaiz:mFn prog Qn9 2 19 Qanw A7=true:=ZE
def Qm2:=dZ 0x97013006004142f0560153700801800b61 D3
def Qm4:=dZ 0x19090130050a80059f100a210142 Qm2 [] E5
def Qky:=dZ 0x90009b005005010440911 Qm4
def Qm6:=dZ 0x190950040500400f0055006312 Qky [] Ce
def Qsy:=dZ 0x900200f00411 Qm6
theorem Qsd:mFn prog Qer 2 19 Qsy A7=true:=ZE
def OS:=dY 0xa80039f080a2
def Qse:=dZ 0x731100f4315d1f0140501322300461 .skip OS
def Qy3:=dZ 0x900202f00311 Qse
theorem Qyb:mFn prog Qvx 2 11 Qy3 Cm=true:=ZE
def Qro:=dZ 0x87000123a3d2801800801841173
def Qrp:=dZ 0x87000123a4d2801800801e411d3
def Qrq:=dZ 0x40000709a0039f1f0143802830
def Qrr:=dZ 0x8090040000700123a5d2801800802441233 Qrq
def Qnr:=dY 0xb0fa00b9f51b40b2f9fea02a5
def Qrs:=dZ 0x40000901f00c10
def Qrt:=dZ 0x90004000080cb00b9f03140114180b801f0142803771 Qrs
def Qru:=dZ 0x80900040000800123a7d2801800803341323 Qrt
def Qrv:=dZ 0x88748348f00040000900123a8d2801800804541443
def Qns:=dY 0x2f0bca09780f562
def Qkz:=dY 0xcd00d1
def Qm7:=dZ 0x1604000060dd0019fd805d21
def Qm8:=dZ 0x8093040106101234aadb802801800805851573 Qm7 Qkz
def Qk0:=dY 0x5e04e00e9f61b50b649f3e05e5
def Qm9:=dZ 0x40000607b5f0019f1f004e807a30
def Qna:=dZ 0x940401060012346cd380e801800807551 Qm9
def Qnb:=dZ 0x4000060855f0029fe808520
def Qnc:=dZ 0x940410060012446cd3802801f004e800807f61 Qnb
def Qnd:=dZ 0x194040000707e5f0089f01742901907c4109404000070745f0089f01742900907241713 Qna [] Qnc
def Qne:=dZ 0x971f001450000a001441900906f31 Qnd
def Qnf:=dZ 0x900145000090ee0129f086f094a806d31 Qne
def Qng:=dZ 0x901305000090ce09e0109f0114e802800114180e806781 Qnf
def Qnh:=dZ 0x93050000706e0099ff806621 Qng
def Qni:=dZ 0x903600007101234abdb802801800805f51 Qnh Qk0
def Qnj:=dZ 0x190957f0004000091042a99703f09710f0119730fb89700f089700f09710f0219730f1f019740f189700f089700f000f06418049d0ff0ff22 Qm8 Qns Qni
def Qnk:=dZ 0x190944f00040000902f02a1f028340fc88300f002f01a987d00f008803d812 Qrv [] Qnj
def Qnl:=dZ 0x190932f000040000a0026f024c8031212 Qru [] Qnk
def Qnm:=dZ 0x9000040000910123a6d2801800802b41 Qnl Qnr
def Qnn:=dZ 0x190923f0040000800888022212 Qrr [] Qnm
def Qno:=dZ 0x19091df0040000800f0243801c212 Qrp [] Qnn
def Qnp:=dZ 0x1909c0040000800c6f054a8016212 Qro [] Qno
def Qk1:=dZ 0x90040000705900a9f01141802801341014 Qnp
def Qnq:=dZ 0x95004040000603f00911 Qk1
def Qw9:=dZ 0x940000503f00811 Qnq
theorem Qv5:mFn prog Qe7 4 134 Qw9 By=true:=ZE
def Qfx:=dY 0x2f039a1e1
def Qfy:=dY 0x201e5a3a13302
def Qgz:=dZ 0x3000500a0079f1f0147801f30
def Qg0:=dZ 0x90300051501e2a1a130101137800800102131f0147800801f0147800807800802110f12f12f0342 Qgz Qfy
def Qfz:=dZ 0x902681e31ef0300061052a92703f02710f0212730f1f012740f782700f082700f02710f0112730f782700f082700f00016418078010e0ff0ff22 Qg0 Qfx
def Qg1:=dZ 0x300040e80069f1f004600d30
def Qg2:=dZ 0x190950240300050f80079f6800f210142 Qfz [] Qg1
def Qf0:=dZ 0x900680c353000500144280300a312 Qg2
def Qii:=dZ 0x95004300040980069f1f004600831 Qf0
theorem Qh6:mFn prog Qce 3 49 Qii By=true:=ZE
def Qab3:=dZ 0x872107f00211083
def Qle:=dY 0xf8583e001
def Qlf:=dY 0x390039f0204132
def Qab4:=dZ 0x63410118d58363801030 .skip Qlf
def Qab5:=dZ 0x63404900c9f1f7041420
def Qab6:=dZ 0x190900413515700332f059f03613330e310142 Qab4 Qle Qab5
def Q6t:=dZ 0x9000db000635010440d11 Qab6
def Qab8:=dZ 0x190950040063400f0050170209412 Q6t [] HS
def Q6r:=dZ 0x911200f00311 Qab8
def Q6s:=dZ 0x190961210117d41606212 Qab3 G3 Q6r
def Qarq:=dZ 0x91100f0090121 Q6s
theorem Qaq2:mFn prog Qs8 1 22 Qarq A8=true:=ZE
def Hk:=dY 32929
def Q6x:=dZ 0x872102f002110a3
def Qi6:=dY 0x29583e090042
def Qi8:=dY 0xa90039f02041a2
def Q6z:=dZ 0x811510118d58363801730 .skip Qi8
def Q60:=dZ 0x19097006111710122cd480181613312 Qxc OR Q6z
def Q61:=dZ 0x81150b900e9f1fe8041b20
def Q62:=dZ 0x19090060011715700332f059f03624331010410142 Q60 Qi6 Q61
def Qyy:=dZ 0x9000fb0008116010440f11 Q62
def Q1m:=dZ 0x7210d90029f03209f0543801c31
def Q1n:=dZ 0x1909500400811500f0050118020b412 Qyy [] Q1m
def Q1o:=dZ 0x911200f00311 Q1n
def Q1p:=dZ 0x19098121046f1f0315d050140206412 Q6x Hk Q1o
def Qajd:=dZ 0x91102f0090121 Q1p
theorem Qaio:mFn prog Qny 1 30 Qajd A8=true:=ZE
def Qlg:=dY 0x62e01131021702d1f40414f083
def Qace:=dZ 0x7211013ed013120110203506050104030201000807a2 .skip Qlg
def Qarr:=dZ 0x90120170232f090121 Qace
abbrev Oq:List RS:=[.cell 2 2 true]
theorem Qaq3:mFn prog Hr 1 9 Qarr Oq=true:=ZE
def Qja:=dY 0xc8585e001
def Q66:=dZ 0x3340590039f0704030405015812050158023800da0
def Q67:=dZ 0x3340690099f1f98041620
def Q68:=dZ 0x1909001135117004727532f059f05613530b310142 Q66 Qja Q67
def Q1q:=dZ 0x9000ab000335010440a11 Q68
def Q69:=dZ 0x7210790029f3801721
def Q7a:=dZ 0x190950040033400f0050142206412 Q1q [] Q69
def Q7b:=dZ 0x911200f00311 Q7a
def Qajf:=dZ 0x91100f0090121 Q7b
theorem Qaiq:mFn prog Qnz 1 24 Qajf A8=true:=ZE
def Qt1:=dY 0x9583e001
def OY:=dY 0x3f5a03c80f232
def OX:=dY 0x1a06f1f03153c03f03c50f03c10f5823c20f0003f7a02a80f1c7 OY
def Rp:=dY 0x100f33152a03f08f02a10f5812a20f02a10f5802a20f0008148 OX [gF 26 21 (.mn (kI 3) (.t 25))]
def s_im_codeOk_4:=dZ 0x874102f00411243
def Qt2:=dY 0x5a681e001
def Qt3:=dY 0xda885eba0072
def Hq:=dY 0x3f1ca2f0382a0f0f038d40f08d10f8838d20f08200f08280f457
def Hp:=dY 0x101388203f08210f8828220f0003f5ba2f056aa0f07380f3e7 Hq
def OW:=dY 0x10217343f07310f8837320f687310f06a00f395 Hp
def Rz:=dY 0x101386a03f06a10f8826a20f00033443054f52f14f347 OW
def s_im_codeOk_11:=dZ 0x874102f004114b3
def Ry:=dY 66364753
def Rx:=dY 0x101256a003f3828257a0e0f0a010f881a020f00505 Ry
def s_im_codeOk_14:=dZ 0x874102f00411553
def Qo2:=dY 0x9d0099f05592
def Qo3:=dY 0xeb82e001
def Kb:=dY 66365281
def Ka:=dY 0x101236e203f68159e2e0f0e210fb81e220f0003f5a013d440f98d400f0d450f0d410fb81d420f0003f5a0c680f68e Kb
def Qtx:=dZ 0x874102f00411763
def Qajg:=dZ 0x976f005bf0027f100102d1021c643f0c610fb80c620f68c610f000f0247806171 Qtx Ka
def Qty:=dZ 0x5bf0027f100102c0775f05d9f1fdd047720
def Qajh:=dZ 0x1909005bf0027f1100102d1170232f0b9f02613235f310342 Qajg Qo3 Qty
def Qacf:=dZ 0x9025eb0005bf0027f100102d010445e11 Qajh
def Qaji:=dZ 0x95024005bf0027f100102c00f0050188025a41 Qacf
def Rq:=dZ 0x90027f0000102a101209d78058365631 Qaji Qo2
def Qtz:=dZ 0x190955f0027f000102a101236d58155e1f0188424c412 s_im_codeOk_14 Rx Rq
def Qajj:=dZ 0x19094bf0027f000102a10154d018822050188422e61d1c1b1a191817161514131211100f0e0d0c0b0a090807060201050403020100201ea22 s_im_codeOk_11 Rz Qtz
def Qajk:=dZ 0x27f010270785f0299f1f9a047820
def Qajl:=dZ 0x19090027f0001029117004727532f089f0562453102b410142 Qajj Qt3 Qajk
def Qacg:=dZ 0x9002ab00027f01028010442a11 Qajl
def Qajn:=dZ 0x190950040027f0102700f00501582226412 Qacg [] Ca
def Qt0:=dZ 0x90102415132f069f58153e1f2521 Qajn Qt2
def Qajo:=dZ 0x190924f10241012c9f0f0315d01581211312 s_im_codeOk_4 Rp Qt0
def Qajp:=dZ 0x9102315700332f059f03601333810128020c61 Qajo Qt1
def Qa58:=dZ 0x902202f019190231 Qajp
theorem Qa5e:mFn prog Q2s 2 121 Qa58 A7=true:=ZE
def Ri:=dY 8912945
def Q7c:=dZ 0x731100f3315d1f01401312300451 .skip Ri
def Me:=dZ 0x900202f00311 Q7c
theorem Qair:mFn prog Dh 2 9 Me Cm=true:=ZE
def Q7d:=dZ 0x731101f4315d1f0140501322300461 .skip OS
def Qajr:=dZ 0x900202f00311 Q7d
theorem Qais:mFn prog Qn0 2 11 Qajr Cm=true:=ZE
def Qjd:=dY 0x980049f08092
def Q7e:=dZ 0x7411012358d346313160541 .skip Qjd
def Qajs:=dZ 0x9001302f0290321 Q7e
theorem Qait:mFn prog Qn1 3 10 Qajs A7=true:=ZE
def Rh:=dY 0x780039f08072
def Q7f:=dZ 0x731101142f40210431 .skip Rh
def Md:=dZ 0x900202f00311 Q7f
theorem Qaiu:mFn prog Qn2 2 8 Md Cm=true:=ZE
def Qajv:=dZ 0x610a80069f0d6f6240a208063
def Qajw:=dZ 0x92320980069f0b6f52409218063 Qajv
def Qajx:=dZ 0x92320880069f0a6f42408218063 Qajw
def Qt4:=dZ 0x872101f00211063
def Qajy:=dZ 0x19092320780069f026f3240721272100f00211043 Qajx [] Qt4
def Qajz:=dZ 0x90320580049f1f1240521004 Qajy
def Qt5:=dZ 0x7210026f00211
def Qaj0:=dZ 0x19093102003112 Qajz [] Qt5
def Qaxy:=dZ 0x90100f00211 Qaj0
theorem Qawp:mFn prog Qxq 1 11 Qaxy A8=true:=ZE
def Ov:=dY 0xd8783e001
def Qy7:=dY 0xe8881e001
def Re:=dY 66363777
def Qy8:=dY 0x1012362603f8818d26e0f02610f5822620f0008126 Re
def s_im_insOk_4:=dZ 0x876102f00611183
def OQ:=dY 0x3f3aa2f0346a0f7f035140f05110f5815120f04600f04680f277
def OP:=dY 0x1018e4603f04610f5804620f002f05a03980f216 OQ
def Rd:=dY 0x10213943f03910f5813920f883910f001c5 OP
def s_im_insOk_8:=dZ 0x876102f006112d3
def Rc:=dY 0xab0069f2f03a3a2
def OU:=dY 0xec0069f2f02ca0728540f08510f008520f0238530f08510f5838520f08510f3808520f08550f08510f5828520f0042e
def Qars:=dZ 0x8761100f2315d1f0141800158323d513f13f23b3 .skip OU
def Qart:=dZ 0x93bf11140cb03b9f0e6ffa243c217611018f6d03f06d10f5836d20f000f024050158223281303 Qars Rc
def Qaru:=dZ 0x902ff111501b0309f1f1243121004 Qart
def Ro:=dY 0xad0069f2f07a032a540f4a55555f5a55415f595
def Qarv:=dZ 0x76110190a503f0a510f580a520f0a550f0a510f582a520f000f0240158324fa0c0b0a0605090807060504030201000f0da2 .skip Ro
def Qy4:=dZ 0x19092ff111400158022e212 Qaru [] Qarv
def Qy5:=dZ 0x19092df11141018ed01580219312 s_im_insOk_8 Rd Qy4
def Qarw:=dZ 0x190918f211151018cd0158020f312 s_im_insOk_4 Qy8 Qy5
def Qarx:=dZ 0x92111415132f089f618be1f0e21 Qarw Qy7
def Qary:=dZ 0x91111415700332f079f0360133180015020961 Qarx Ov
def Qbgg:=dZ 0x9111302f029059f290331 Qary
theorem Qbfq:mFn prog Q98 3 91 Qbgg AJ=true:=ZE
theorem Qaq4:mFn prog Pa 2 9 Me Cm=true:=ZE
theorem Qaq5:mFn prog Qs9 2 8 Md Cm=true:=ZE
def O1:=dY 4718625
def Qar1:=dZ 0x7211ff6f0f0315d200321 .skip O1
def Qa59:=dZ 0x90102f00211 Qar1
theorem Qa5f:mFn prog Q2t 1 5 Qa59 A8=true:=ZE
def Qaxz:=dZ 0x72110e6f1f0315d200321 .skip O1
def Qbgh:=dZ 0x90102f00211 Qaxz
theorem Qbfr:mFn prog Q99 1 5 Qbgh A8=true:=ZE
def Qc6:=dY 0x104322f013c122 DA
def Qkj:=dZ 0x2315101142f78361805800e40 .skip Qc6
def OC:=dZ 0x231504900a9f1fa8041420
def Qkl:=dZ 0x1909000131615700332f079f03613330c310142 Qkj Ov OC
def Qjf:=dZ 0x9000bb0002316010440b11 Qkl
def OB:=dZ 0x7410590049f5801521
def Qkn:=dZ 0x1909500400231500f0057008312 Qjf [] OB
def Qko:=dZ 0x93003034f00511 Qkn
def Qo5:=dZ 0x9002034f00411 Qko
theorem Qog:mFn prog Qdl 2 22 Qo5 A7=true:=ZE
def Qdo:=dY 0xd8784e001
def Qdq:=dY 0x104422f014c122 DA
def Qo6:=dZ 0x2315101142f78461805800e40 .skip Qdq
def Qo8:=dZ 0x19090001316101700432f079f04613430c310142 Qo6 Qdo OC
def Qmy:=dZ 0x9000bb0002316010440b11 Qo8
def Qpa:=dZ 0x1909500400231500f0057008312 Qmy [] OB
def Qpb:=dZ 0x93003044f00511 Qpa
def Qwf:=dZ 0x9002044f00411 Qpb
theorem Qv2:mFn prog RJ 2 22 Qwf A7=true:=ZE
def Qdr:=dY 0xd8782e001
def Qdt:=dY 0x104222f012c122 DA
def Qpc:=dZ 0x2315101142f78261805800e40 .skip Qdt
def Qpe:=dZ 0x190900013161170232f079f02613230c310142 Qpc Qdr OC
def Qmz:=dZ 0x9000bb0002316010440b11 Qpe
def Qpg:=dZ 0x1909500400231500f0057008312 Qmz [] OB
def Qph:=dZ 0x93003024f00511 Qpg
def Qwg:=dZ 0x9002024f00411 Qph
theorem Qv3:mFn prog RI 2 22 Qwg A7=true:=ZE
def Q7g:=dZ 0x872100f00211083
def Q7h:=dZ 0x9810980089f036f52409217210026f00211063 Q7g
def Q7i:=dZ 0x92320780069f026f324072172101f00211043 Q7h
def Q7j:=dZ 0x90320580049f1f1240521004 Q7i
def Q7l:=dZ 0x19093102003112 Q7j [] Fx
def Qakg:=dZ 0x90100f00211 Q7l
theorem Qaiv:mFn prog Qn4 1 10 Qakg A8=true:=ZE
def CB:=dY 3080273
def Qakh:=dZ 0x870421051e0371d1f0921083 .skip CB
def GX:=dY 4128849
def Qps:=dY 0x10481e0101371d1f0e2 GX
def Qaki:=dZ 0x7042101222d180017020a41 .skip Qps
def Qakj:=dZ 0x19093101410117d31606212 Qakh G3 Qaki
def Qax0:=dZ 0x91013137132f049f190221 Qakj CB
abbrev DB:List RS:=[.cell 4 1 true,.tmp 5]
theorem Qawq:mFn prog Rk 2 15 Qax0 DB=true:=ZE
def Qa6g:=dZ 0x7211018cd200321 .skip Ps
def Qbmi:=dZ 0x90102f00211 Qa6g
theorem Qbk3:mFn prog LC 1 13 Qbmi A8=true:=ZE
def Qash:=dZ 0x7210880029f03f2a036f020a40f50a00f00026f024200371
def Qa6i:=dZ 0x90102f00211 Qash
theorem Qa5k:mFn prog Q2v 1 9 Qa6i A8=true:=ZE
def Qu4:=dY 0x99a85e001
def Qatc:=dZ 0x8053303f01e021301a8329801d501c3
def Qu5:=dY 0xfa00c1
def Qatd:=dZ 0x80053402f01e0113c809803240313
def Qate:=dZ 0x1005350fb00d9f1f004d803e30
def Qatf:=dZ 0x910053503f01e00c13010113d80010220143b8001a81298040c00342 Qate
def Qalx:=dZ 0x902683d33df1005360074405010220143b8001a812d8035912 Qatf
def Qatg:=dZ 0x9502410053500f00d11 Qalx
def Qath:=dZ 0x190931f00053600f074c8030212 Qatd [] Qatg
def Qalq:=dZ 0x53409a00b9f1f014b802830
def Qalr:=dZ 0x1909000535101d3d0460143b8001a8122a610142 Qath Qu5 Qalq
def Qac7:=dZ 0x9006827327f0053500164380b8025312 Qalr
def Qals:=dZ 0x7810bc0089f9804b21
def Qalt:=dZ 0x190950040053404a00b9f1f0140501a81221512 Qac7 [] Qals
def Qalu:=dZ 0x19091cf053401f03401a8221a312 Qatc [] Qalt
def Qalv:=dZ 0x90533117004727532f0a9f05601532800148221561 Qalu Qu4
def Qalw:=dZ 0x940024105122f01011328001581201c0e71 Qalv Ch
def Qa7j:=dZ 0x900024014f0089f39390431 Qalw
theorem Qa5o:mFn prog Q2y 4 76 Qa7j CS=true:=ZE
def Q4a:=dY 0x9900a1
def Q4b:=dY 0x101274d280182 Q4a
def Qa7k:=dZ 0x30002704a00b9f1f004b802330
def Qa7l:=dZ 0x90030002703f01e05a13010113a80010120123b800100201533800148229802510f00142 Qa7k
def Qa0n:=dZ 0x9006822322f003000280074405010020153380014822b801a912 Qa7l
def Nx:=dZ 0x23012603f01e0113d800101132800158124a80
def Qa7m:=dZ 0x809023012609c00c9f03ffba07e80f07e10f0117e30fd87e00f07e10f0117e30f287e00f07e10f5817e20f00c803ed13d3 Nx
def Qa7n:=dZ 0x23012609b00d9f1f004d803830
def Qa7o:=dZ 0x19093df02301270010113d809803a410342 Qa7m [] Qa7n
def Qati:=dZ 0x9026837337f023012700244014812d8034412 Qa7o
def Qa0h:=dZ 0x78101d0089fc805121
def Qa0i:=dZ 0x19095024023012600f00d112 Qati [] Qa0h
def Qa0j:=dZ 0x923012502f00c11 Qa0i
def Qa0k:=dZ 0x190950040030002700f00b112 Qa0n [] Qa0j
def Qa0l:=dZ 0x9030002610126fd38048361531 Qa0k Q4b
def Qa0m:=dZ 0x9300025105122f01011338001580201c0e71 Qa0l Ch
def Qbmx:=dZ 0x90002402f0089f39390431 Qa0m
theorem Qblb:mFn prog L4 4 82 Qbmx CS=true:=ZE
def Q4c:=dY 0xc8382e001
def Q4d:=dY 0x101e38021c2
def Q4e:=dY 0x104122f011c41614f1a3 Q4d
def Q4f:=dY 0x101e3812242
def Q4g:=dY 0x104122f011c41e14f223 Q4f
def Qa7p:=dW 0x15108f0118120138121d5080706050104030201000a09a [] [Q4g] [eI 33 (.mks 1 [.bool false] (.t 32))]
def Qa7q:=dZ 0x150490059f1f0045801330
def Qa7r:=dW 0x1909000015108f011812013802155080706050104030201000a09a20142 [Qa7p,Qa7q] [Q4e] [eI 25 (.mks 1 [.bool false] (.t 24))]
def Qa07:=dZ 0x90068123c0000160014448058010312 Qa7r
def PN:=dY 0x6c0069f03f1a688800f00444
def Qa0o:=dZ 0x10001706b0089f1f0048803530
def Qa0p:=dZ 0x900100017109b8b7b4d1d0101138800104201537800118227803826183637d11f11f0742 Qa0o PN
def Qatj:=dZ 0x9066834334f0010001800744050104201537800118228802c912 Qa0p
def Qzp:=dY 0xac0091
def Qa0q:=dZ 0x1010001805d00a9f1f004a805430
def Qa0r:=dZ 0x901010001802f01e06d13010020123a8001002015378001182298056d00942 Qa0q
def Qatk:=dZ 0x9086853353f0101000190074405010020153780011822a804b912 Qa0r
def Qa0s:=dZ 0x11010001807e00b9f1f004b806630
def Qa0t:=dZ 0x91101000180775f0069f03f9ea0de31d2f0f0d210f011d230fb8d200f0d210f011d230f78d200f0d210f380d220f0d210f011d230fb8d200f98d200f006806811f11f11f0b42 Qa0s
def Qatl:=dZ 0x90a6865365f11010001900244011812b8062412 Qa0t
def Qa0u:=dZ 0x1000160101e12139807800138027860
def Qa0v:=dZ 0x190950a411010001800f00b112 Qatl [] Qa0u
def Qa0w:=dZ 0x1909508401010001800f00a112 Qatk [] Qa0v
def Qa0x:=dZ 0x91010001717f0124b3d780382618364741 Qa0w Qzp
def Qa0y:=dZ 0x1000160ba0079f1f0147802a30
def Qa0z:=dW 0x29190950640010001700f0081120542 [Qatj,Qa0x,Qa0y] []
def Qatm:=dZ 0x9046829329f010001700f07478028212 Qa0z
def Qa00:=dZ 0x95044010001607a0079f1f0144802631 Qatm
def Qa01:=dZ 0x910001502f00611034 Qa00
def Qatn:=dZ 0x9026825325f00015068025112 Qa01
def Qa02:=dZ 0x72100282e38267d21
def Qa03:=dZ 0x1909502410001503f006112 Qatn [] Qa02
def Qa04:=dZ 0x1909500400001500f005112 Qa07 [] Qa03
def Qa05:=dZ 0x9000140f80049f050118220d41 Qa04
def Qa06:=dZ 0x9001311717232f039f017172d1f0c21 Qa05 Q4c
def Qbmy:=dZ 0x901201717232f090121 Qa06
theorem Qblc:mFn prog L3 1 126 Qbmy Oq=true:=ZE
def Qkx:=dZ 0x74110128ad40400531 .skip E7
def Qrm:=dZ 0x900202f00411 Qkx
theorem Qoh:mFn prog Qdm 2 9 Qrm A7=true:=ZE
def Qs0:=dZ 0x97013006004142f0460143700801800b61 D3
def Qs2:=dZ 0x19090130050a80059f100a210142 Qs0 [] E5
def Qrn:=dZ 0x90009b005005010440911 Qs2
def Qs4:=dZ 0x190950040500400f0055006312 Qrn [] Ce
def Q0m:=dZ 0x900200f00411 Qs4
theorem Qyc:mFn prog Qf8 2 19 Q0m A7=true:=ZE
def Qauz:=dZ 0x87210780029f014120631053
def Qau1:=dZ 0x190931200181d0110203312 Qauz [] Fx
def Qbc2:=dZ 0x91100f0090121 Qau1
theorem Qa5w:mFn prog Q26 1 8 Qbc2 A8=true:=ZE
end Go.AE.Y
