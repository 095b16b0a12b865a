/- Part 2 of the proof: the engine, codes, walks and plain laws, each named where it stands. -/
import Derived.Test.YthnafimjdcihlaaGreatDoorZA
import Derived.Test.YthnafimjdcihlaaGreatDoorProg
open Nat (reduceEqDiff reduceAdd reduceLeDiff reduceLT)
set_option linter.unusedVariables false
set_option linter.unusedSimpArgs false
set_option maxRecDepth 4000
set_option maxHeartbeats 1000000
open Array renaming getD_eq_getD_getElem?->Ji,getElem?_eq_some_iff->Jl,getElem?_eq_getElem->Jq,getElem?_setIfInBounds_self_of_lt->J0
open Bool renaming and_eq_true->Jg,false_eq_true->J9,not_eq_true'->Jac,and_false->Jam,false_and->Jan,not_true->Jaw,true_and->Jax
open Int renaming eq_ofNat_of_zero_le->Jy,tmod_lt_of_pos->Jao,tmod_nonneg->Jat
open List renaming mem_of_getElem?->Ja,mem_append->Jb,mem_append_left->Jc,mem_append_right->Jd,mem_singleton->Je,getD_eq_getElem?_getD->Jh,mem_map->Jj,mem_cons->Jk,append_assoc->Jm,getElem?_eq_getElem->Jn,nodup_append->Jo,perm_append_comm->Jp,map_cons->Jr,all_eq_true->Js,all_cons->Jt,length_eq_zero_iff->Ju,map_append->Jv,take_of_length_le->Jw,getElem?_eq_some_iff->Jx,append_of_mem->Jz,append_nil->J1,take_succ_eq_append_getElem->J2,getElem?_set->J3,contains_iff_mem->J5,getElem_mem->J6,not_mem_nil->J7,length_nil->J8,map_nil->Jaa,pairwise_iff_getElem->Jab,map_id->Jad,cons_append->Jag,length_cons->Jah,length_eq_one_iff->Jai,length_map->Jak,mem_cons_of_mem->Jal,getElem?_drop->Jap,mem_cons_self->Jaq,countP_cons->Jas,nil_append->Jau,drop_zero->Jav,all_nil->Jay,map_set->Jaz
open List.Perm renaming append_left->J4
open List.cons renaming injEq->Jaj
open Nat renaming le_refl->Jae,le_trans->Ja0,zero_add->Ja1,zero_le->Ja2
open Ne renaming symm->Jar
open Option.some renaming injEq->Jf,inj->Ja3
open Prod.mk renaming injEq->Jaf
namespace Go.AE
variable {P:Program}{H:Heap}{g:G}{w:World}{e:Env}{a:Act}
abbrev dn (listed:Array Bool)(i:Nat):Prop:=listed.getD i false=true
def Rdy (P:Program)(x:Item)(e:Env)(H:Heap)(v:V):Prop:=
 match x with
 |.f _ gd op=>gdO e gd∧(gdB e gd=true→op.obl (gdB e gd) e H)∧v=gdV gd (gdB e gd) (op.val e H)
 |.p _ gd f xs=>gdO e gd∧∃r,(gdB e gd=true→(∀y∈xs,y.fine (gdB e gd) e)∧DB P f (xs.map fun y=>y.v e) r)∧v=gdV gd (gdB e gd) r
 |_=>False
theorem Rdy.congr {x:Item}{e e':Env}{v:V}(h:∀t∈x.looks,lk t e'=lk t e)(hr:Rdy P x e H v):Rdy P x e' H v:=by
 have h1:=K4 h;have h2:=PB h
 cases x with
 |f d gd op=>
  simp only[Item.gd]at h2;simp only[Item.opds]at h1;have h3:=FOp.congr (H:=H) (p:=gdB e gd) h1;simp only[Rdy]at hr⊢;rw[h2.1,h2.2,h3.1,h3.2];exact hr
 |p d gd f xs=>
  simp only[Item.gd]at h2;simp only[Item.opds]at h1;simp only[Rdy]at hr⊢;rw[h2.1,h2.2,Q9a h1,Q21 h1];exact hr
 |e=>exact hr
 |chk=>exact hr
theorem Rdy.hcongr {x:Item}{e:Env}{H':Heap}{v:V}(h:x.hf=true)(hr:Rdy P x e H v):Rdy P x e H' v:=by
 cases x with
 |f d gd op=>
  have h3:=FOp.hcongr (e:=e) (H:=H) (H':=H') (p:=gdB e gd) (op:=op) h;simp only[Rdy]at hr⊢;rw[h3.1,h3.2];exact hr
 |p d gd f xs=>exact hr
 |e=>exact hr
 |chk=>exact hr
theorem Qbpu {n:Nat}{ops:Array Oper}{i:Nat}{o:Oper}{x:Item}{v:V}{Q:Exit→Act→World→Prop}{next:Act→World→Prop}(nB:ops[i]? = some o)(hm:Bh P n ops o x=true)
  (hr:Rdy P x e H v) (hs:Sat H g w) (he:EnvOk w g (trim x.looks e) a)
  (cf:∀u w' g',Stp H g w H g' w'→RepV w' g' v u→next (a.put x.dst u) w') :
  wpOp P ops Q i next a w:=by
 have bx:Rdy P x (trim x.looks e) H v:=hr.congr fun t ht=>by rw[DJ,if_pos ht]
 unfold wpOp;rw[nB];simp only
 cases x with
 |f d gd op=>
  simp only[Bh,Jg]at hm;obtain⟨⟨h1,h2⟩,h3⟩:=hm;obtain⟨hd1,eY⟩:=Dk h1;simp only[Rdy]at bx;obtain⟨r1,r2,r3⟩:=bx;rw[GC (n:=n) h2 he r1];by_cases hg:gdB (trim (Item.f d gd op).looks e) gd=true
  ·rw[if_pos hg];obtain⟨u,w',g',k1,k2,k3,k4⟩:=KD h3 hs he hg (r2 hg);left;unfold Oper.wp;rw[k1,Oper.upon_value,hd1];refine cf u w' g' k2 ?_;rw[r3]
   cases gd with
   |none=>exact k3
   |some tb=>exact .gd _ _ _ (fun _=>k3) (fun h=>by rw[hg]at h;simp at h)
  ·rw[if_neg hg];have eP:gdB (trim (Item.f d gd op).looks e) gd=false:=Za5
   rw[hd1];refine cf _ _ g (.refl hs) ?_;rw[r3]
   cases gd with
   |none=>simp[gdB]at eP
   |some tb=>exact .gd _ _ _ (fun h=>absurd h hg) (fun _=>rfl)
 |p d gd f xs=>
  simp only[Bh,Jg]at hm;obtain⟨⟨h1,h2⟩,h3⟩:=hm;obtain⟨hd1,eY⟩:=Dk h1;simp only[Rdy]at bx;obtain⟨r1,v0,r2,r3⟩:=bx;rw[GC (n:=n) h2 he r1];by_cases hg:gdB (trim (Item.p d gd f xs).looks e) gd=true
  ·rw[if_pos hg];obtain⟨s1,s2⟩:=r2 hg;left;refine P4 h3 hs he hg s1 s2 Q next (fun y u w' H' g' hk aC dz=>?_) fun v w' H' g' hk _=>absurd hk.1.symm (s2.1 v);obtain⟨rfl,rfl⟩:=hk;rw[hd1];refine cf _ _ g' aC ?_;rw[r3]
   cases gd with
   |none=>exact dz
   |some tb=>exact .gd _ _ _ (fun _=>dz) (fun h=>by rw[hg]at h;simp at h)
  ·rw[if_neg hg];have eP:gdB (trim (Item.p d gd f xs).looks e) gd=false:=Za5
   rw[hd1];refine cf _ _ g (.refl hs) ?_;rw[r3]
   cases gd with
   |none=>simp[gdB]at eP
   |some tb=>exact .gd _ _ _ (fun h=>absurd h hg) (fun _=>rfl)
 |e=>exact bx.elim
 |chk=>exact bx.elim
theorem Qbox {n:Nat}{ops:Array Oper}{i:Nat}{o:Oper}{d:Option Nat}{gd:Option (Nat×Bool)}{op:EOp}{K:V→Heap→Prop}{Q:Exit→Act→World→Prop}{next:Act→World→Prop}(nB:ops[i]? = some o)
  (hm:Bh P n ops o (.e d gd op)=true) (hs:Sat H g w) (he:EnvOk w g (trim (Item.e d gd op).looks e) a)
  (h1:gdO e gd) (h2:gdB e gd=true→op.eff P (gdB e gd) e H K) (h3:gdB e gd=false→K .unk H)
  (cf:∀x u w' H' g',K x H'→Stp H g w H' g' w'→RepV w' g' x u→next (a.put d u) w') (iF:∀v w' H' g',K (.pn v) H'→Stp H g w H' g' w'→Q (.panic [{ v:=v,recovered:=false }]) a w') :
  wpOp P ops Q i next a w:=by
 have fT:∀t∈(Item.e d gd op).looks,lk t (trim (Item.e d gd op).looks e)=lk t e:=fun t ht=>by rw[DJ,if_pos ht]
 have c1:=K4 fT;have c2:=PB fT;simp only[Item.gd]at c2;simp only[Item.opds]at c1;unfold wpOp;rw[nB];simp only;simp only[Bh,Jg]at hm;obtain⟨⟨m1,m2⟩,m3⟩:=hm;obtain⟨hd1,eY⟩:=Dk m1;rw[GC (n:=n) m2 he (c2.2.2 h1),c2.1];by_cases hg:gdB e gd=true
 ·rw[if_pos hg];left;refine FQ m3 hs he hg (EOp.congr c1 (h2 hg)) Q next (fun x u w' H' g' hk aC dz=>?_) iF;rw[hd1];exact cf x u w' H' g' hk aC dz
 ·rw[if_neg hg];rw[hd1];exact cf .unk undef w H g (h3 Za5) (.refl hs) (.unk _)
structure Early (g0:G)(H:Heap)(g:G)(w:World)(a:Act)(x:Item):Prop where
 ok:∃(d:Nat) (cells:List C) (l b sz:Nat) (T:TypeId) (cs:Array Value),x=.e (some d) none (.alloc cells)∧g.io l=some (b,sz,0)∧g.own b=some (l,[])∧w.heap[b]? = some (.cells cs T (0,0))∧
  cs.size=cells.length∧(∀(k:Nat) (c:C) (v:Value),cells[k]? = some c→cs[k]? = some v→RepC w g c v)∧H l=.none∧g0.io l=none∧RepV w g (.c (.ptr l 0)) (a.tmps.getD d undef)
theorem Early.mono {g0:G}{x:Item}{H':Heap}{g':G}{w':World}{a':Act}(h:Early g0 H g w a x)(hs:Stp H g w H' g' w')(ha:∀d,x.dst=some d→a'.tmps.getD d undef=a.tmps.getD d undef):Early g0 H' g' w' a' x:=by
 obtain⟨d,cells,l,b,sz,T,cs,h1,h2,h3,h4,h5,h6,h7,h8,h9⟩:=h.ok;obtain⟨k1,k2⟩:=hs.fr l ZaI h7;obtain⟨k3,k4⟩:=k2 b [] h3;refine⟨d,cells,l,b,sz,T,cs,h1,hs.le.io _ _ h2,k3,k4.trans h4,h5,fun k c v p q=>(h6 k c v p q).mono hs.le,k1,h8,?_⟩;rw[ha d Zbt];exact h9.mono hs.le
theorem Early.ptr {g0:G}{x:Item}(h:Early g0 H g w a x):∃d l b sz,x.dst=some d∧g.io l=some (b,sz,0)∧b<w.heap.size∧H l=.none∧a.tmps.getD d undef=.pointer (some ⟨b,0,none⟩):=by
 obtain⟨d,cells,l,b,sz,T,cs,h1,h2,h3,h4,h5,h6,h7,h8,h9⟩:=h.ok;refine⟨d,l,b,sz,by rw[h1];rfl,h2,(Jl.1 h4).1,h7,?_⟩;have hr:=h9.aF;generalize a.tmps.getD d undef=vv at hr⊢
 cases hr with
 |ptr _ _ b' sz' q h=>
  rw[h2]at h;simp only[Jf,Jaf]at h;obtain⟨rfl,rfl,rfl⟩:=h;rfl
theorem Early.other {g0:G}{x:Item}(h:Early g0 H g w a x){l:Nat}{o:Obj}{u:Value}(hr:RepV w g (.c (.ptr l 0)) u)(aP:∀d,x.dst=some d→u≠a.tmps.getD d undef):Early g0 (H.set l o) g w a x:=by
 obtain⟨d,cells,l',b,sz,T,cs,h1,h2,h3,h4,h5,h6,h7,h8,h9⟩:=h.ok;have jn:l'≠l:=fun e=>by
  subst e;have k:=h9.aF;have k2:=hr.aF;have hq:=aP d Zbt;generalize a.tmps.getD d undef=vv at k hq
  cases k with
  |ptr _ _ b1 s1 q1 e1=>
   cases k2 with
   |ptr _ _ b2 s2 q2 e2=>
    rw[e1]at e2;simp only[Jf,Jaf]at e2;obtain⟨rfl,rfl,rfl⟩:=e2;exact hq rfl
 exact⟨d,cells,l',b,sz,T,cs,h1,h2,h3,h4,h5,h6,by rw[Heap.aj _ _ jn];exact h7,h8,h9⟩
theorem Qbac {n:Nat}{ops:Array Oper}{i:Nat}{o:Oper}{x:Item}{g0:G}{Q:Exit→Act→World→Prop}{next:Act→World→Prop}(nB:ops[i]? = some o)(hm:Bh P n ops o x=true)(hf:x.isFa=true)
  (hs:Sat H g w) (h0:∀l y,g0.io l=some y→g.io l=some y) (hn:a.tmps.size=n)
  (cf:∀u w' g',Stp H g w H g' w'→Early g0 H g' w' (a.put x.dst u) x→(∀x',Early g0 H g w a x'→∀d,x'.dst=some d→a.tmps.getD d undef≠u)→next (a.put x.dst u) w') :
  wpOp P ops Q i next a w:=by
 cases x with
 |e d gd op=>
  cases op with
  |alloc cells=>
   cases d with
   |none=>simp[Item.isFa]at hf
   |some d=>
    cases gd with
    |some=>simp[Item.isFa]at hf
    |none=>
     simp only[Bh,Jg]at hm;obtain⟨⟨m1,m2⟩,m3⟩:=hm;obtain⟨hd1,eY⟩:=Dk m1;have jt:=eY d hd1;simp only[mE]at m3;split at m3
     ·rename_i t b7
      obtain⟨i1,z,z1,z2,z3⟩:=Q9l m3;obtain⟨l,hl,hH⟩:=hs.newName;have hr:=Hh (w:=w) (g:=g) z3;have aE:=EB hs hl cells.length 0 (.cells z.cells t);have aC:=Dw hs hl cells.length 0 (.cells z.cells t) .none (fun g' hg=>trivial);rw[Heap.set_self _ _ _ hH]at aC;have de:g0.io l=none:=by
       cases hx:g0.io l with
       |none=>rfl
       |some y=>rw[h0 l y hx]at hl;simp at hl
      have hw:Region.wanted o (yielded ops a.tmps)=true:=by
       unfold Region.wanted
       cases kE:o.guard with
       |none=>rfl
       |some jb=>rw[kE]at m2;simp[mG]at m2
      unfold wpOp;rw[nB];simp only;rw[if_pos hw];left;unfold Oper.wp;have bX:(execOp a.eval o).run P w=.ok (.value (.pointer (some ⟨w.heap.size,0,none⟩))) (w.alloc (.cells z.cells t)):=by
       simp[execOp,b7,Instr.alloc,BJ z1 z2,newVar,newRow]
      rw[bX,Oper.upon_value,hd1];refine cf _ _ _ aC ⟨d,cells,l,w.heap.size,cells.length,t,z.cells,rfl,Zaf,Zaf,Cl _ _,hr.1,fun k c v p q=>(hr.2 k c v p q).mono aE,hH,de,?_⟩ (fun x' fg d' eQ hh=>?_)
      ·have:(a.put (Item.e (some d) none (.alloc cells)).dst (.pointer (some ⟨w.heap.size,0,none⟩))).tmps.getD d undef=.pointer (some ⟨w.heap.size,0,none⟩):=by
        simp only[Item.dst,Act.put];rw[Ji,J0 ZT];rfl
       rw[this];exact .c _ _ (.ptr l 0 w.heap.size cells.length 0 Zaf)
      ·obtain⟨d1,l1,b1,sz1,p1,p2,p3,p4,p5⟩:=fg.ptr;rw[p1]at eQ;obtain rfl:=Ja3 eQ;rw[p5]at hh;have:=congrArg (fun v=>match v with
        |Value.pointer (some a)=>a.block
        |_=>0) hh
       simp only at this;omega
     ·simp at m3
  |_=>cases d <;> (try cases gd) <;> simp[Item.isFa]at hf
 |_=>simp[Item.isFa]at hf
theorem Qbe8 {H0:Heap}{g0:G}{w0:World}{x:Item}(aC:Stp H0 g0 w0 H g w)(h:Early g0 H g w a x) :
  ∃d cells l,x=.e (some d) none (.alloc cells)∧H l=.none∧Stp H0 g0 w0 (H.set l (.st cells)) g w∧RepV w g (.c (.ptr l 0)) (a.tmps.getD d undef):=by
 obtain⟨d,cells,l,b,sz,T,cs,h1,h2,h3,h4,h5,h6,h7,h8,h9⟩:=h.ok;refine⟨d,cells,l,h1,h7,⟨aC.le,fun m hm hn=>?_,⟨aC.sat.fresh,aC.sat.names,aC.sat.excl,aC.sat.named,fun m=>?_⟩⟩,h9⟩
 ·have jl:m≠l:=fun h=>by subst h;exact hm h8
  rw[Heap.aj _ _ jl];exact aC.fr m hm hn
 ·by_cases jl:m=l
  ·subst jl;rw[Heap.aK];exact⟨b,sz,T,cs,h2,h3,h4,h5,fun k c v p q=>.plain _ _ _ _ (h6 k c v p q)⟩
  ·have dg:=Heap.aj H (.st cells) jl;rw[dg,←dg];refine SatObj.keep aC.sat (.refl _ _) (fun b q hb=>⟨hb,rfl⟩) dg fun m' v left cur hc v' es hv=>?_;by_cases em:m'=l
   ·subst em;rw[Heap.aK]at hv;simp at hv
   ·rw[Heap.aj _ _ em]at hv;exact .inl ⟨hv,fun b q hb=>⟨hb,rfl⟩⟩
structure Fix where
 P:Program
 n:Nat
 ops:Array Oper
 ms:List Nat
 fa:Nat
 L:List Row
 H0:Heap
 g0:G
 w0:World
 KP:Value→Heap→Prop
 K:Env→Heap→Prop
def Fix.anc (F:Fix)(i j:Nat):Prop:=(F.ms.getD i 0).testBit j=true
def BI (F:Fix)(listed:Array Bool)(pre:List Row)(y:Row)(t:Nat)(z:Row):Prop:=
 z∈pre∧z.2.aH=false∧¬dn listed z.1∧z.2.dst=some t∧F.anc y.1 z.1
def Pend (F:Fix)(listed:Array Bool)(a:Act)(w:World)(pre:List Row)(e:Env)(H:Heap)(g:G)(y:Row):Prop:=
 ∃(o:Oper) (x:Item) (ei:Env) (v:V),F.ops[y.1]? = some o∧Bh F.P F.n F.ops o x=true∧x.dst=y.2.dst∧x.looks=y.2.looks∧(y.2.hf=true→x.hf=true)∧
  Rdy F.P x ei H v∧(∀d,y.2.dst=some d→lk d e=v)∧
  ∀t∈y.2.looks,(∀z,BI F listed pre y t z→lk t ei=lk t e)∧((¬∃z,BI F listed pre y t z)→RepV w g (lk t ei) (a.tmps.getD t undef))
structure DInv (F:Fix)(listed:Array Bool)(a:Act)(w:World)(pre post:List Row)(e:Env)(H:Heap)(g:G):Prop where
 split:F.L=pre++post
 rest:B0 F.P (post.map Prod.snd) e H F.KP F.K
 stp:Stp F.H0 F.g0 F.w0 H g w
 size:a.tmps.size=F.n
 defers:a.defers=[]
 lsz:listed.size=F.ops.size
 closed:∀i,dn listed i→∀j,F.anc i j→dn listed j
 eDone:∀y∈pre,y.2.isE=true→dn listed y.1
 postDone:∀y∈post,y.2.aH=false→dn listed y.1→flo F.fa y.1=true∧Early F.g0 H g w a y.2
 pend:∀y∈pre,y.2.isFl=true→¬dn listed y.1→Bv y.1 post=true∨Pend F listed a w pre e H g y
 temps:∀t,(∃y∈pre,y.2.aH=false∧¬dn listed y.1∧y.2.dst=some t)∨(∃y∈post,y.2.aH=false∧flo F.fa y.1=true∧dn listed y.1∧y.2.dst=some t)∨RepV w g (lk t e) (a.tmps.getD t undef)
 ne:∀y∈post,∀z∈post,y.2.aH=false→z.2.aH=false→dn listed y.1→dn listed z.1→y.1≠z.1→∀d d',y.2.dst=some d→z.2.dst=some d'→a.tmps.getD d undef≠a.tmps.getD d' undef
structure FixOk (F:Fix):Prop where
 rows:CP F.P F.n F.ops F.ms F.fa [] F.L=true
 all:∀i,i<F.ops.size→∃y∈F.L,y.2.aH=false∧y.1=i
theorem FixOk.row {F:Fix}(hF:FixOk F){A B:List Row}{y:Row}(h:F.L=A++y::B)(hc:y.2.aH=false):∃o,RowOk F.P F.n F.ops F.ms F.fa A y B o:=by
 have:=Q3j _ _ hF.rows A y B h;exact Qba7 this hc
def Ca (F:Fix)(x y:Row):Prop:=∃A B,F.L=A++y::B∧x∈A
theorem FixOk.pair {F:Fix}(hF:FixOk F){x y:Row}(h:Ca F x y)(hx:x.2.aH=false)(hy:y.2.aH=false):PairOk F.ms F.fa x y:=by
 obtain⟨A,B,h1,h2⟩:=h;obtain⟨o,ho⟩:=hF.row h1 hy;exact ho.pair x h2 hx
theorem BS {F:Fix}{pre post:List Row}(h:F.L=pre++post){x y:Row}(hx:x∈pre)(hy:y∈post):Ca F x y:=by
 obtain⟨s,t,rfl⟩:=Jz hy;exact⟨pre++s,t,by rw[h];simp,Zbw⟩
theorem EF {F:Fix}{pre post:List Row}{y x:Row}(h:F.L=pre++y::post)(hx:x∈post):Ca F y x:=
 BS (pre:=pre++[y]) Zaz ZV hx
theorem Q9b {F:Fix}{x y:Row}(hx:x∈F.L)(hy:y∈F.L):x=y∨Ca F x y∨Ca F y x:=by
 obtain⟨s,t,h⟩:=Jz hx;have:y∈s++x::t:=h▸hy;rcases Jb.1 this with k|k
 ·exact .inr (.inr ⟨s,t,h,k⟩)
 ·rcases Jk.1 k with k|k
  ·exact .inl k.symm
  ·exact .inr (.inl (EF h k))
theorem FixOk.inj {F:Fix}(hF:FixOk F){x y:Row}(hx:x∈F.L)(hy:y∈F.L)(lU:x.2.aH=false)(bN:y.2.aH=false)(h:x.1=y.1):x=y:=by
 rcases Q9b hx hy with k|k|k
 ·exact k
 ·exact absurd h (hF.pair k lU bN).ne
 ·exact absurd h.symm (hF.pair k bN lU).ne
theorem FixOk.injDst {F:Fix}(hF:FixOk F){x y:Row}(hx:x∈F.L)(hy:y∈F.L)(lU:x.2.aH=false)(bN:y.2.aH=false){t:Nat}(h1:x.2.dst=some t)(h2:y.2.dst=some t):x=y:=by
 rcases Q9b hx hy with k|k|k
 ·exact k
 ·exact absurd h2 ((hF.pair k lU bN).dst t h1)
 ·exact absurd h1 ((hF.pair k bN lU).dst t h2)
theorem E6 {x:Item}(h:x.isFl=true):x.aH=false∧x.isE=false:=by
 cases x <;> simp_all[Item.isFl,Item.aH,Item.isE]
theorem CR {x:Item}(h:x.isE=true):x.aH=false∧x.isFl=false:=by
 cases x <;> simp_all[Item.isFl,Item.aH,Item.isE]
theorem HA {j:Nat}{y:Row}{r:List Row}(h:Bv j (y::r)=true):y.2.aH=true∧(y.1=j∨Bv j r=true):=by
 simpa[Bv]using h
theorem DInv.passFl {F:Fix}(hF:FixOk F){listed:Array Bool}{pre r:List Row}{y:Row}(hI:DInv F listed a w pre (y::r) e H g)(hy:y.2.isFl=true)(v:V)(hr:Rdy F.P y.2 e H v)
  (bK:B0 F.P (r.map Prod.snd) (putE y.2.dst v e) H F.KP F.K) (du:¬dn listed y.1):DInv F listed a w (pre++[y]) r (putE y.2.dst v e) H g:=by
 obtain⟨bN,sI⟩:=E6 hy;obtain⟨o,ho⟩:=hF.row hI.split bN;have hL:y∈F.L:=ZbW
 have gf:∀z∈pre,z∈F.L:=fun z hz=>ZaA
 have ey:∀z∈r,z∈F.L:=fun z hz=>ZaA
 have fT:∀t,y.2.dst≠some t→lk t (putE y.2.dst v e)=lk t e:=by
  intro t ht
  cases hd:y.2.dst with
  |none=>rfl
  |some d=>
   simp only[putE,lk];rw[if_neg];intro h;subst h;exact ht hd
 have rE:∀t,y.2.dst=some t→lk t (putE y.2.dst v e)=v:=by
  intro t ht;rw[ht];simp[putE,lk]
 refine⟨by rw[hI.split];simp,bK,hI.stp,hI.size,hI.defers,hI.lsz,hI.closed,?_,?_,?_,?_,fun y' iw z' bF=>hI.ne y' (by simp[iw]) z' (by simp[bF])⟩
 ·intro z hz iT;rcases Jb.1 hz with k|k
  ·exact hI.eDone z k iT
  ·simp at k;subst k;rw[sI]at iT;simp at iT
 ·exact fun z hz=>hI.postDone z ZbR
 ·intro z hz dM gJ;obtain⟨cA,nN⟩:=E6 dM;right;rcases Jb.1 hz with k|k
  ·rcases hI.pend z k dM gJ with h|h
   ·have:=(HA h).1;rw[bN]at this;simp at this
   ·obtain⟨o',x,ei,u,p1,p2,p3,p4,p5,p6,p7,p8⟩:=h;refine⟨o',x,ei,u,p1,p2,p3,p4,p5,p6,?_,?_⟩
    ·intro d hd;rw[fT d fun h=>(hF.pair (BS hI.split k ZV) cA bN).dst d hd h];exact p7 d hd
    ·intro t ht;obtain⟨q1,q2⟩:=p8 t ht;have hb:∀z',BI F listed (pre++[y]) z t z'→BI F listed pre z t z':=by
      rintro z' ⟨b1,b2,b3,b4,b5⟩;refine⟨?_,b2,b3,b4,b5⟩;rcases Jb.1 b1 with b|b
      ·exact b
      ·simp at b;subst b;have:=(hF.pair (BS hI.split k ZV) cA bN).top;rw[Fix.anc,this]at b5;simp at b5
     refine⟨?_,?_⟩
     ·intro z' bF;have hz'':=hb z' bF;rw[q1 z' hz'',fT];intro h;exact (hF.pair (BS hI.split hz''.1 ZV) hz''.2.1 bN).dst t hz''.2.2.2.1 h
     ·intro bO;refine q2 fun ⟨z',b1,b2⟩=>bO ⟨z',?_,b2⟩;simp[b1]
  ·simp at k;subst k;refine⟨o,z.2,e,v,ho.op,ho.item,rfl,rfl,id,hr,rE,?_⟩;intro t ht;have ly:z.2.dst≠some t:=fun h=>ho.self t h ht;refine⟨?_,?_⟩
   ·intro z' bF;rw[fT t ly]
   ·intro bO;rcases hI.temps t with ⟨y',k1,k2,k3,k4⟩|⟨y',k1,k2,k3,k4,k5⟩|k
    ·exact absurd ⟨y',Zbi,k2,k3,k4,(hF.pair (BS hI.split k1 ZV) k2 cA).raw t k4 ht⟩ bO
    ·exfalso;rcases Jk.1 k1 with h|h
     ·subst h;exact ly k5
     ·have:=(hF.pair (EF hI.split h) cA k2).war t k5 ht;exact du (hI.closed _ k4 _ this)
    ·exact k
 ·intro t;by_cases ht:y.2.dst=some t
  ·exact .inl ⟨y,ZV,bN,du,ht⟩
  ·rw[fT t ht];rcases hI.temps t with ⟨y',k1,k2,k3,k4⟩|⟨y',k1,k2,k3,k4,k5⟩|k
   ·exact .inl ⟨y',Zbi,k2,k3,k4⟩
   ·rcases Jk.1 k1 with h|h
    ·subst h;exact absurd k5 ht
    ·exact .inr (.inl ⟨y',h,k2,k3,k4,k5⟩)
   ·exact .inr (.inr k)
theorem DInv.passChk {F:Fix}(hF:FixOk F){listed:Array Bool}{pre r:List Row}{j d:Nat}{gd:Option (Nat×Bool)}{op:FOp}(hI:DInv F listed a w pre ((j,.chk d gd op)::r) e H g) :
  DInv F listed a w (pre++[(j,.chk d gd op)]) r e H g:=by
 have aI:=Q3j _ _ hF.rows pre _ _ hI.split;obtain⟨o,c1,c2,⟨y0,c3,c4,c5,c6,c7,c8⟩,c9⟩:=Qa97 aI;have bK:=hI.rest;simp only[Jr,B0]at bK;obtain⟨⟨r1,r2,r3⟩,r4⟩:=bK;have gf:∀z∈pre,z∈F.L:=fun z hz=>ZaA
 have j4:∀z t z',BI F listed (pre++[(j,.chk d gd op)]) z t z'↔BI F listed pre z t z':=by
  intro z t z';constructor
  ·rintro⟨b1,b2⟩;refine⟨?_,b2⟩;rcases Jb.1 b1 with b|b
   ·exact b
   ·simp at b;subst b;simp[Item.aH]at b2
  ·rintro⟨b1,b2⟩;exact⟨by simp[b1],b2⟩
 refine⟨by rw[hI.split];simp,r4,hI.stp,hI.size,hI.defers,hI.lsz,hI.closed,?_,?_,?_,?_,fun y' iw z' bF=>hI.ne y' (by simp[iw]) z' (by simp[bF])⟩
 ·intro z hz iT;rcases Jb.1 hz with k|k
  ·exact hI.eDone z k iT
  ·simp at k;subst k;simp[Item.isE]at iT
 ·exact fun z hz=>hI.postDone z ZbR
 ·intro z hz dM gJ;obtain⟨cA,nN⟩:=E6 dM;have k:z∈pre:=by
   rcases Jb.1 hz with k|k
   ·exact k
   ·simp at k;subst k;simp[Item.aH]at cA
  have jM:Pend F listed a w pre e H g z→Pend F listed a w (pre++[(j,.chk d gd op)]) e H g z:=by
   rintro⟨o',x,ei,u,p1,p2,p3,p4,p5,p6,p7,p8⟩;refine⟨o',x,ei,u,p1,p2,p3,p4,p5,p6,p7,fun t ht=>?_⟩;simp only[j4];exact p8 t ht
  rcases hI.pend z k dM gJ with h|h
  ·rcases (HA h).2 with h'|h'
   ·right;simp only at h';have eD:z=y0:=hF.inj (gf _ k) (gf _ c3) cA c4 (by rw[c5,←h']);subst eD;refine⟨o,.f (some d) gd op,e,gdV gd (gdB e gd) (op.val e H),by rw[c5];exact c1,c2,by rw[c7];rfl,c6.symm,fun h=>by rw[c8]at h;simp at h,⟨r1,r2,rfl⟩,?_,?_⟩
    ·intro d' eQ;rw[c7]at eQ;simp at eQ;subst eQ;exact r3
    ·intro t ht;simp only[j4];refine⟨fun _ _=>trivial,fun bO=>?_⟩;rcases hI.temps t with ⟨y',k1,k2,k3,k4⟩|⟨y',k1,k2,k3,k4,k5⟩|k'
     ·exfalso;refine bO ⟨y',k1,k2,k3,k4,?_⟩;have:=c9 y' k1 k2 t k4 (by rw[←c6];exact ht);rw[Fix.anc,c5];exact this
     ·exfalso;rcases Jk.1 k1 with h|h
      ·subst h;simp[Item.aH]at k2
      ·have:=(hF.pair (BS (pre:=pre++[(j,.chk d gd op)]) ZbW (by simp[k]) h) cA k2).war t k5 ht;exact gJ (hI.closed _ k4 _ this)
     ·exact k'
   ·exact .inl h'
  ·exact .inr (jM h)
 ·intro t;rcases hI.temps t with ⟨y',k1,k2,k3,k4⟩|⟨y',k1,k2,k3,k4,k5⟩|k
  ·exact .inl ⟨y',Zbi,k2,k3,k4⟩
  ·rcases Jk.1 k1 with h|h
   ·subst h;simp[Item.aH]at k2
   ·exact .inr (.inl ⟨y',h,k2,k3,k4,k5⟩)
  ·exact .inr (.inr k)
theorem GI {d:Option Nat}{v:V}{e:Env}{t:Nat}(h:d≠some t):lk t (putE d v e)=lk t e:=by
 cases d with
 |none=>rfl
 |some s=>
  simp only[putE,lk];rw[if_neg];intro k;subst k;exact h rfl
theorem LG {d:Option Nat}{v:V}{e:Env}{t:Nat}(h:d=some t):lk t (putE d v e)=v:=by
 subst h;simp[putE,lk]
theorem BG {a:Act}{d:Option Nat}{u:Value}{t:Nat}(h:d≠some t):(a.put d u).tmps.getD t undef=a.tmps.getD t undef:=by
 cases d with
 |none=>rfl
 |some s=>
  have:s≠t:=fun k=>by subst k;exact h rfl
  simp only[Act.put];rw[Ji,Array.getElem?_setIfInBounds_ne this,←Ji]
theorem Em {a:Act}{d:Option Nat}{u:Value}{t:Nat}(h:d=some t)(ht:t<a.tmps.size):(a.put d u).tmps.getD t undef=u:=by
 subst h;simp only[Act.put];rw[Ji,J0 ht];rfl
theorem AK {listed:Array Bool}{i j:Nat}(hi:i<listed.size):dn (listed.setIfInBounds i true) j↔j=i∨dn listed j:=by
 by_cases h:j=i
 ·subst h;simp[dn,hi]
 ·simp only[dn,getD_set_ne false (Jar h),h,false_or]
theorem Tj {n:Nat}{ops:Array Oper}{o:Oper}{x:Item}(h:Bh P n ops o x=true):∀t,x.dst=some t→t<n:=by
 intro t ht;cases x <;> simp only[Bh,Jg]at h
 case f d gd op=>obtain⟨h1,h2⟩:=Dk h.1.1;simp only[Item.dst]at ht;exact h2 t (h1.trans ht)
 case p d gd f xs=>obtain⟨h1,h2⟩:=Dk h.1.1;simp only[Item.dst]at ht;exact h2 t (h1.trans ht)
 case e d gd op=>obtain⟨h1,h2⟩:=Dk h.1.1;simp only[Item.dst]at ht;exact h2 t (h1.trans ht)
 case chk=>simp at h
theorem DInv.passE {F:Fix}(hF:FixOk F){listed:Array Bool}{pre r:List Row}{y:Row}(hI:DInv F listed a w pre (y::r) e H g)(hy:y.2.isE=true)(jx:¬dn listed y.1)(lS:¬flo F.fa y.1=true)
  (dm:∀j,F.anc y.1 j→dn listed j) {v:V} {u:Value} {w':World} {H':Heap} {g':G}
  (bK:B0 F.P (r.map Prod.snd) (putE y.2.dst v e) H' F.KP F.K) (aC:Stp H g w H' g' w') (hv:RepV w' g' v u) :
  DInv F (listed.setIfInBounds y.1 true) (a.put y.2.dst u) w' (pre++[y]) r (putE y.2.dst v e) H' g':=by
 obtain⟨bN,qi⟩:=CR hy;obtain⟨o,ho⟩:=hF.row hI.split bN;have af:y.1<listed.size:=Za3
 have gf:∀z∈pre,z∈F.L:=fun z hz=>ZaA
 have py:∀z∈pre,Ca F z y:=fun z hz=>BS hI.split hz ZV;refine⟨by rw[hI.split];simp,bK,hI.stp.trans aC,by rw[(B2 _ _ _).1];exact hI.size,by rw[(B2 _ _ _).2];exact hI.defers,by simp[hI.lsz],?_,?_,?_,?_,?_,?_⟩
 ·intro i hi j hj;rw[AK af]at hi⊢;rcases hi with rfl|hi
  ·exact .inr (dm j hj)
  ·exact .inr (hI.closed i hi j hj)
 ·intro z hz iT;rw[AK af];rcases Jb.1 hz with k|k
  ·exact .inr (hI.eDone z k iT)
  ·simp at k;subst k;exact .inl rfl
 ·intro z hz cA eB;have lP:=hF.pair (EF hI.split hz) bN cA;rw[AK af]at eB;obtain⟨k1,k2⟩:=hI.postDone z ZbR cA (eB.resolve_left (Jar lP.ne));exact⟨k1,k2.mono aC fun d hd=>BG fun h=>lP.dst d h hd⟩
 ·intro z hz dM gJ;obtain⟨cA,nN⟩:=E6 dM;rw[AK af]at gJ;have ga:¬dn listed z.1:=fun h=>gJ (.inr h);have k:z∈pre:=by
   rcases Jb.1 hz with k|k
   ·exact k
   ·simp at k;subst k;rw[qi]at dM;simp at dM
  have hp:=hF.pair (py z k) cA bN;by_cases hh:z.2.hf=true
  ·right;rcases hI.pend z k dM ga with h|h
   ·have:=(HA h).1;rw[bN]at this;simp at this
   ·obtain⟨o',x,ei,u',p1,p2,p3,p4,p5,p6,p7,p8⟩:=h;refine⟨o',x,ei,u',p1,p2,p3,p4,p5,p6.hcongr (p5 hh),?_,?_⟩
    ·intro d hd;rw[GI fun h=>hp.dst d hd h];exact p7 d hd
    ·intro t ht;obtain⟨q1,q2⟩:=p8 t ht;have gO:y.2.dst≠some t:=fun h=>by
      have:=hp.war t h ht;exact ga (dm _ this)
     have hb:∀z',BI F (listed.setIfInBounds y.1 true) (pre++[y]) z t z'↔BI F listed pre z t z':=by
      intro z';constructor
      ·rintro⟨b1,b2,b3,b4,b5⟩;rw[AK af]at b3;refine⟨?_,b2,fun h=>b3 (.inr h),b4,b5⟩;rcases Jb.1 b1 with b|b
       ·exact b
       ·simp at b;subst b;exact absurd b4 gO
      ·rintro⟨b1,b2,b3,b4,b5⟩;refine⟨by simp[b1],b2,?_,b4,b5⟩;rw[AK af];rintro (h|h)
       ·exact (hF.pair (py z' b1) b2 bN).ne h
       ·exact b3 h
     simp only[hb,GI gO,BG gO];exact⟨q1,fun h=>(q2 h).mono aC.le⟩
  ·left;have:=ho.cover hy z k cA (by simpa using hh);refine this ?_
   cases hx:(F.ms.getD y.1 0).testBit z.1 with
   |false=>rfl
   |true=>exact absurd (dm _ hx) ga
 ·intro t;by_cases ht:y.2.dst=some t
  ·right;right;rw[LG ht,Em ht Zbx];exact hv
  ·rw[GI ht,BG ht];rcases hI.temps t with ⟨y',k1,k2,k3,k4⟩|⟨y',k1,k2,k3,k4,k5⟩|k
   ·refine .inl ⟨y',Zbi,k2,?_,k4⟩;rw[AK af];rintro (h|h)
    ·exact (hF.pair (py y' k1) k2 bN).ne h
    ·exact k3 h
   ·rcases Jk.1 k1 with h|h
    ·subst h;exact absurd k3 lS
    ·exact .inr (.inl ⟨y',h,k2,k3,(AK af).2 (.inr k4),k5⟩)
   ·exact .inr (.inr (k.mono aC.le))
 ·intro y' iw z' bF fL dT i7 eB aP d d' hd eQ;have p1:=hF.pair (EF hI.split iw) bN fL;have p2:=hF.pair (EF hI.split bF) bN dT;rw[AK af]at i7 eB;rw[BG fun h=>p1.dst d h hd,BG fun h=>p2.dst d' h eQ];exact hI.ne y' (by simp[iw]) z' (by simp[bF]) fL dT (i7.resolve_left (Jar p1.ne)) (eB.resolve_left (Jar p2.ne)) aP d d' hd eQ
theorem DInv.passFa {F:Fix}(hF:FixOk F){listed:Array Bool}{pre r:List Row}{y:Row}(hI:DInv F listed a w pre (y::r) e H g)(bN:y.2.aH=false)(jx:dn listed y.1) :
  ∃e' H',DInv F listed a w (pre++[y]) r e' H' g:=by
 obtain⟨lS,qa⟩:=hI.postDone y ZV bN jx;obtain⟨d,cells,l,h1,h2,h3,h4⟩:=Qbe8 hI.stp qa;obtain⟨d0,cells0,l0,b0,sz0,T0,cs0,e1,e2,e3,e4,e5,e6,e7,e8,e9⟩:=qa.ok;obtain⟨o,ho⟩:=hF.row hI.split bN;have hy:y.2.isE=true:=Zbt
 have qi:=(CR hy).2;have i7:y.2.dst=some d:=Zbt
 have py:∀z∈pre,Ca F z y:=fun z hz=>BS hI.split hz ZV;have bK:=hI.rest;simp only[Jr,h1,B0,gdO,gdB,true_and,EOp.eff]at bK;have m8:=bK.1 trivial l h2;refine⟨putE (some d) (.c (.ptr l 0)) e,H.set l (.st cells),?_⟩;refine⟨by rw[hI.split];simp,m8,h3,hI.size,hI.defers,hI.lsz,hI.closed,?_,?_,?_,?_,fun y' iw z' bF=>hI.ne y' (by simp[iw]) z' (by simp[bF])⟩
 ·intro z hz iT;rcases Jb.1 hz with k|k
  ·exact hI.eDone z k iT
  ·simp at k;subst k;exact jx
 ·intro z hz cA eB;obtain⟨k1,k2⟩:=hI.postDone z ZbR cA eB;refine⟨k1,k2.other h4 fun d' eQ=>?_⟩;exact hI.ne y ZV z ZbR bN cA jx eB (hF.pair (EF hI.split hz) bN cA).ne d d' i7 eQ
 ·intro z hz dM gJ;obtain⟨cA,nN⟩:=E6 dM;have k:z∈pre:=by
   rcases Jb.1 hz with k|k
   ·exact k
   ·simp at k;subst k;rw[qi]at dM;simp at dM
  have hp:=hF.pair (py z k) cA bN;by_cases hh:z.2.hf=true
  ·right;rcases hI.pend z k dM gJ with h|h
   ·have:=(HA h).1;rw[bN]at this;simp at this
   ·obtain⟨o',x,ei,u',p1,p2,p3,p4,p5,p6,p7,p8⟩:=h;refine⟨o',x,ei,u',p1,p2,p3,p4,p5,p6.hcongr (p5 hh),?_,?_⟩
    ·intro d' eQ;rw[GI fun h=>hp.dst d' eQ (by rw[i7];exact h)];exact p7 d' eQ
    ·intro t ht;obtain⟨q1,q2⟩:=p8 t ht;have gO:some d≠some t:=fun h=>by
      have:=hp.war t (by rw[i7];exact h) ht;exact gJ (hI.closed _ jx _ this)
     have hb:∀z',BI F listed (pre++[y]) z t z'↔BI F listed pre z t z':=by
      intro z';constructor
      ·rintro⟨b1,b2,b3,b4,b5⟩;refine⟨?_,b2,b3,b4,b5⟩;rcases Jb.1 b1 with b|b
       ·exact b
       ·simp at b;subst b;rw[i7]at b4;exact absurd b4 gO
      ·rintro⟨b1,b2⟩;exact⟨by simp[b1],b2⟩
     simp only[hb,GI gO];exact⟨q1,q2⟩
  ·left;refine ho.cover hy z k cA (by simpa using hh) ?_
   cases hx:(F.ms.getD y.1 0).testBit z.1 with
   |false=>rfl
   |true=>exact absurd (hI.closed _ jx _ hx) gJ
 ·intro t;by_cases ht:some d=some t
  ·right;right;rw[LG ht];simp at ht;subst ht;exact h4
  ·rw[GI ht];rcases hI.temps t with ⟨y',k1,k2,k3,k4⟩|⟨y',k1,k2,k3,k4,k5⟩|k
   ·exact .inl ⟨y',Zbi,k2,k3,k4⟩
   ·rcases Jk.1 k1 with h|h
    ·subst h;rw[i7]at k5;exact absurd k5 ht
    ·exact .inr (.inl ⟨y',h,k2,k3,k4,k5⟩)
   ·exact .inr (.inr k)
theorem DInv.doneFl {F:Fix}(hF:FixOk F){listed:Array Bool}{pre post:List Row}{y:Row}(hI:DInv F listed a w pre post e H g)(fK:y∈pre)(hy:y.2.isFl=true)(jx:¬dn listed y.1)
  (dm:∀j,F.anc y.1 j→dn listed j) {v:V} {u:Value} {w':World} {g':G} (sL:∀d,y.2.dst=some d→lk d e=v)
  (aC:Stp H g w H g' w') (hv:RepV w' g' v u) :
  DInv F (listed.setIfInBounds y.1 true) (a.put y.2.dst u) w' pre post e H g':=by
 obtain⟨bN,sI⟩:=E6 hy;have iu:y∈F.L:=by rw[hI.split];simp[fK]
 obtain⟨A,B,nv⟩:=Jz iu;obtain⟨o,ho⟩:=hF.row nv bN;have af:y.1<listed.size:=Za3
 have gf:∀z∈pre,z∈F.L:=fun z hz=>ZaA
 refine⟨hI.split,hI.rest,hI.stp.trans aC,by rw[(B2 _ _ _).1];exact hI.size,by rw[(B2 _ _ _).2];exact hI.defers,by simp[hI.lsz],?_,?_,?_,?_,?_,?_⟩
 ·intro i hi j hj;rw[AK af]at hi⊢;rcases hi with rfl|hi
  ·exact .inr (dm j hj)
  ·exact .inr (hI.closed i hi j hj)
 ·intro z hz iT;rw[AK af];exact .inr (hI.eDone z hz iT)
 ·intro z hz cA eB;have lP:=hF.pair (BS hI.split fK hz) bN cA;rw[AK af]at eB;obtain⟨k1,k2⟩:=hI.postDone z hz cA (eB.resolve_left (Jar lP.ne));exact⟨k1,k2.mono aC fun d hd=>BG fun h=>lP.dst d h hd⟩
 ·intro z hz dM gJ;obtain⟨cA,nN⟩:=E6 dM;rw[AK af]at gJ;have ga:¬dn listed z.1:=fun h=>gJ (.inr h);have lP:z≠y:=fun h=>gJ (.inl Zau);rcases hI.pend z hz dM ga with h|h
  ·exact .inl h
  ·right;obtain⟨o',x,ei,u',p1,p2,p3,p4,p5,p6,p7,p8⟩:=h;refine⟨o',x,ei,u',p1,p2,p3,p4,p5,p6,p7,?_⟩;intro t ht;obtain⟨q1,q2⟩:=p8 t ht;have hb:∀z',BI F (listed.setIfInBounds y.1 true) pre z t z'→BI F listed pre z t z':=by
    rintro z' ⟨b1,b2,b3,b4,b5⟩;rw[AK af]at b3;exact⟨b1,b2,fun h=>b3 (.inr h),b4,b5⟩
   refine⟨fun z' bF=>q1 z' (hb z' bF),fun bO=>?_⟩;by_cases gO:y.2.dst=some t
   ·have j4:BI F listed pre z t y:=by
     refine⟨fK,bN,jx,gO,?_⟩;rcases Q9b iu (gf z hz)with k|k|k
     ·exact absurd k.symm lP
     ·exact (hF.pair k bN cA).raw t gO ht
     ·exact absurd (dm _ ((hF.pair k cA bN).war t gO ht)) ga
    rw[q1 y j4,sL t gO,Em gO (by rw[hI.size];exact Tj ho.item t gO)];exact hv
   ·rw[BG gO];refine (q2 fun ⟨z',b⟩=>bO ⟨z',?_⟩).mono aC.le;obtain⟨b1,b2,b3,b4,b5⟩:=b;refine⟨b1,b2,?_,b4,b5⟩;rw[AK af];rintro (h|h)
    ·have:=hF.inj (gf _ b1) iu b2 bN h;subst this;exact gO b4
    ·exact b3 h
 ·intro t;by_cases ht:y.2.dst=some t
  ·right;right;rw[sL t ht,Em ht Zbx];exact hv
  ·rw[BG ht];rcases hI.temps t with ⟨y',k1,k2,k3,k4⟩|⟨y',k1,k2,k3,k4,k5⟩|k
   ·refine .inl ⟨y',k1,k2,?_,k4⟩;rw[AK af];rintro (h|h)
    ·have:=hF.inj (gf _ k1) iu k2 bN h;subst this;exact ht k4
    ·exact k3 h
   ·exact .inr (.inl ⟨y',k1,k2,k3,(AK af).2 (.inr k4),k5⟩)
   ·exact .inr (.inr (k.mono aC.le))
 ·intro y' iw z' bF fL dT i7 eB aP d d' hd eQ;have p1:=hF.pair (BS hI.split fK iw) bN fL;have p2:=hF.pair (BS hI.split fK bF) bN dT;rw[AK af]at i7 eB;rw[BG fun h=>p1.dst d h hd,BG fun h=>p2.dst d' h eQ];exact hI.ne y' iw z' bF fL dT (i7.resolve_left (Jar p1.ne)) (eB.resolve_left (Jar p2.ne)) aP d d' hd eQ
theorem DInv.doneFa {F:Fix}(hF:FixOk F){listed:Array Bool}{pre post:List Row}{y:Row}(hI:DInv F listed a w pre post e H g)(fK:y∈post)(bN:y.2.aH=false)(lS:flo F.fa y.1=true)(jx:¬dn listed y.1)
  (dm:∀j,F.anc y.1 j→dn listed j) {u:Value} {w':World} {g':G}
  (aC:Stp H g w H g' w') (hv:Early F.g0 H g' w' (a.put y.2.dst u) y.2) (cx:∀x',Early F.g0 H g w a x'→∀d,x'.dst=some d→a.tmps.getD d undef≠u) :
  DInv F (listed.setIfInBounds y.1 true) (a.put y.2.dst u) w' pre post e H g':=by
 have iu:y∈F.L:=by rw[hI.split];simp[fK]
 obtain⟨A,B,nv⟩:=Jz iu;obtain⟨o,ho⟩:=hF.row nv bN;have af:y.1<listed.size:=Za3
 have gf:∀z∈pre,z∈F.L:=fun z hz=>ZaA
 have ey:∀z∈post,z∈F.L:=fun z hz=>ZaA
 refine⟨hI.split,hI.rest,hI.stp.trans aC,by rw[(B2 _ _ _).1];exact hI.size,by rw[(B2 _ _ _).2];exact hI.defers,by simp[hI.lsz],?_,?_,?_,?_,?_,?_⟩
 ·intro i hi j hj;rw[AK af]at hi⊢;rcases hi with rfl|hi
  ·exact .inr (dm j hj)
  ·exact .inr (hI.closed i hi j hj)
 ·intro z hz iT;rw[AK af];exact .inr (hI.eDone z hz iT)
 ·intro z hz cA eB;rw[AK af]at eB;rcases eB with h|h
  ·have:=hF.inj (ey _ hz) iu cA bN h;subst this;exact⟨lS,hv⟩
  ·obtain⟨k1,k2⟩:=hI.postDone z hz cA h;refine⟨k1,k2.mono aC fun d hd=>BG fun hh=>?_⟩;have:=hF.injDst (ey _ hz) iu cA bN hd hh;subst this;exact jx h
 ·intro z hz dM gJ;obtain⟨cA,nN⟩:=E6 dM;rw[AK af]at gJ;have ga:¬dn listed z.1:=fun h=>gJ (.inr h);rcases hI.pend z hz dM ga with h|h
  ·exact .inl h
  ·right;obtain⟨o',x,ei,u',p1,p2,p3,p4,p5,p6,p7,p8⟩:=h;refine⟨o',x,ei,u',p1,p2,p3,p4,p5,p6,p7,?_⟩;intro t ht;obtain⟨q1,q2⟩:=p8 t ht;have gO:y.2.dst≠some t:=fun h=>by
    have:=(hF.pair (BS hI.split hz fK) cA bN).war t h ht;exact ga (dm _ this)
   have hb:∀z',BI F (listed.setIfInBounds y.1 true) pre z t z'↔BI F listed pre z t z':=by
    intro z';constructor
    ·rintro⟨b1,b2,b3,b4,b5⟩;rw[AK af]at b3;exact⟨b1,b2,fun h=>b3 (.inr h),b4,b5⟩
    ·rintro⟨b1,b2,b3,b4,b5⟩;refine⟨b1,b2,?_,b4,b5⟩;rw[AK af];rintro (h|h)
     ·exact (hF.pair (BS hI.split b1 fK) b2 bN).ne h
     ·exact b3 h
   simp only[hb,BG gO];exact⟨q1,fun h=>(q2 h).mono aC.le⟩
 ·intro t;by_cases ht:y.2.dst=some t
  ·exact .inr (.inl ⟨y,fK,bN,lS,(AK af).2 (.inl rfl),ht⟩)
  ·rw[BG ht];rcases hI.temps t with ⟨y',k1,k2,k3,k4⟩|⟨y',k1,k2,k3,k4,k5⟩|k
   ·refine .inl ⟨y',k1,k2,?_,k4⟩;rw[AK af];rintro (h|h)
    ·exact (hF.pair (BS hI.split k1 fK) k2 bN).ne h
    ·exact k3 h
   ·exact .inr (.inl ⟨y',k1,k2,k3,(AK af).2 (.inr k4),k5⟩)
   ·exact .inr (.inr (k.mono aC.le))
 ·have fu:∀z'∈post,z'.2.aH=false→dn listed z'.1→z'.1≠y.1→∀d d',y.2.dst=some d→z'.2.dst=some d'→(a.put y.2.dst u).tmps.getD d undef≠(a.put y.2.dst u).tmps.getD d' undef:=by
   intro z' bF dT eB aP d d' hd eQ;obtain⟨_,k2⟩:=hI.postDone z' bF dT eB;rw[Em hd (by rw[hI.size];exact Tj ho.item d hd),BG fun h=>aP Zbn];exact fun h=>cx _ k2 d' eQ h.symm
  intro y' iw z' bF fL dT i7 eB aP d d' hd eQ;rw[AK af]at i7 eB;by_cases h1:y'.1=y.1
  ·have:=hF.inj (ey _ iw) iu fL bN h1;subst this;exact fu z' bF dT (eB.resolve_left fun h=>aP h.symm) (fun h=>aP h.symm) d d' hd eQ
  ·by_cases h2:z'.1=y.1
   ·have:=hF.inj (ey _ bF) iu dT bN h2;subst this;exact (fu y' iw fL (i7.resolve_left h1) h1 d' d eQ hd).symm
   ·rw[BG fun h=>h1 (by rw[hF.injDst (ey _ iw) iu fL bN hd h]),BG fun h=>h2 Zbn];exact hI.ne y' iw z' bF fL dT (i7.resolve_left h1) (eB.resolve_left h2) aP d d' hd eQ
def EY (listed:Array Bool)(post:List Row):Prop:=post=[]∨∃y r,post=y::r∧y.2.isE=true∧¬dn listed y.1
theorem Hg {F:Fix}(hF:FixOk F){listed:Array Bool}:∀(post pre:List Row) (e:Env) (H:Heap),DInv F listed a w pre post e H g→
  ∃pre' post' e' H',DInv F listed a w pre' post' e' H' g∧EY listed post'
 |[],pre,e,H,hI=>⟨pre,[],e,H,hI,.inl rfl⟩
 |(i,x)::r,pre,e,H,hI=>by
  have te:x.isE=false→x.aH=false→¬dn listed i:=by
   intro hx hc hd;obtain⟨_,qa⟩:=hI.postDone (i,x) ZV hc hd;obtain⟨d,cells,l,b,sz,T,cs,h1,_⟩:=qa.ok;simp only at h1;rw[h1]at hx;simp[Item.isE]at hx
  have bK:=hI.rest
  cases x with
  |chk d gd op=>exact Hg hF r _ e H (hI.passChk hF)
  |f d gd op=>
   simp only[Jr,B0]at bK;exact Hg hF r _ _ H (hI.passFl hF rfl _ ⟨bK.1,bK.2.1,rfl⟩ bK.2.2 (te rfl rfl))
  |p d gd f xs=>
   simp only[Jr,B0]at bK;obtain⟨r1,v,r2,r3⟩:=bK;exact Hg hF r _ _ H (hI.passFl hF rfl _ ⟨r1,v,r2,rfl⟩ r3 (te rfl rfl))
  |e d gd op=>
   by_cases hd:dn listed i
   ·obtain⟨e',H',s4⟩:=hI.passFa hF rfl hd;exact Hg hF r _ e' H' s4
   ·exact⟨pre,_,e,H,hI,.inr ⟨_,r,rfl,rfl,hd⟩⟩
theorem KQ {α:Type}{p q:α→Bool}:∀(l:List α),(∀x∈l,q x=true→p x=true)→(∃x∈l,p x=true∧q x=false)→l.countP q<l.countP p
 |[],_,h=>Zaa
 |x::r,h1,h2=>by
  have aE:r.countP q≤r.countP p:=List.countP_mono_left fun y hy=>h1 y (by simp[hy]);obtain⟨y,hy,k1,k2⟩:=h2;rcases Jk.1 hy with rfl|hy
  ·simp only[Jas,k1,k2];simp;omega
  ·have:=KQ r (fun y hy=>h1 y (by simp[hy])) ⟨y,hy,k1,k2⟩;have hx:=h1 x ZV;simp only[Jas]
   cases hq:q x with
   |true=>rw[hx hq];simp;omega
   |false=>simp;split <;> omega
def unl (F:Fix)(listed:Array Bool):Nat:=(List.range F.ops.size).countP fun i=>!listed.getD i false
theorem Rk {F:Fix}(hF:FixOk F){listed:Array Bool}(aO:listed.size=F.ops.size)(hr:Region.ready .any F.ops listed=[]):∀(B A:List Row),F.L=A++B→
  (∀y∈A,y.2.aH=false→dn listed y.1)→∀y∈B,y.2.aH=false→dn listed y.1
 |[],A,h,hA,y,hy,hc=>by simp at hy
 |x::r,A,h,hA,y,hy,hc=>by
  have hx:x.2.aH=false→dn listed x.1:=by
   intro lU;obtain⟨o,ho⟩:=hF.row h lU;have af:x.1<listed.size:=by rw[aO];exact (Jl.1 ho.op).1
   by_cases hd:dn listed x.1
   ·exact hd
   ·exfalso;have:x.1∈Region.ready .any F.ops listed:=by
     rw[mem_ready];refine⟨?_,o,ho.op,fun ed pr hb=>?_⟩
     ·simp only[dn]at hd;rw[Ji,Jq af]at hd⊢;simpa using hd
     ·obtain⟨z,hz,h1,h2⟩:=ho.aft ed pr hb;rw[←h2];exact hA z hz h1
    rw[hr]at this;simp at this
  rcases Jk.1 hy with rfl|hy
  ·exact hx hc
  ·refine Rk hF aO hr r (A++[x]) (by rw[h];simp) ?_ y hy hc;intro z hz cA;rcases Jb.1 hz with k|k
   ·exact hA z k cA
   ·simp at k;subst k;exact hx cA
theorem PT {F:Fix}(hF:FixOk F){listed:Array Bool}{pre post:List Row}(hI:DInv F listed a w pre post e H g)(aC:EY listed post)(hr:Region.ready .any F.ops listed=[]) :
  Post F.n F.H0 F.g0 F.w0 F.K a w:=by
 have aG:=Rk hF hI.lsz hr F.L [] rfl ZV;rcases aC with rfl|⟨y,r,rfl,hy,hd⟩
 ·refine⟨e,H,g,hI.rest,hI.stp,fun t=>?_,hI.defers,hI.size⟩;rcases hI.temps t with ⟨y',k1,k2,k3,k4⟩|⟨y',k1,_⟩|k
  ·exact absurd (aG y' (by rw[hI.split];simp[k1]) k2) k3
  ·simp at k1
  ·exact k
 ·exact absurd (aG y ZbW (CR hy).1) hd
theorem Qbe7 {F:Fix}(hF:FixOk F){Q:Exit→Act→World→Prop}(hQ:∀a' w',Post F.n F.H0 F.g0 F.w0 F.K a' w'→Q .normal a' w')(hP:∀v a' w' H' g',F.KP v H'→Stp F.H0 F.g0 F.w0 H' g' w'→a'.defers=[]→a'.tmps.size=F.n→Q (.panic [{ v:=v,recovered:=false }]) a' w') :
  ∀(fuel:Nat) (listed:Array Bool) (a:Act) (w:World) (pre post:List Row) (e:Env) (H:Heap) (g:G),DInv F listed a w pre post e H g→EY listed post→unl F listed≤fuel→
   wpAny F.P .any F.ops Q fuel listed a w:=by
 intro fuel
 induction fuel with
 |zero=>
  intro listed a w pre post e H g hI aC hu;have hr:Region.ready .any F.ops listed=[]:=by
   rw[List.eq_nil_iff_forall_not_mem];intro i hi;rw[mem_ready]at hi;obtain⟨h1,o,h2,h3⟩:=hi;have af:i<F.ops.size:=(Jl.1 h2).1;have:0<unl F listed:=by
    unfold unl;rw[List.countP_pos_iff];refine⟨i,by simp[af],?_⟩;have dl:i<listed.size:=(by rw[hI.lsz];exact af);rw[Ji,Jq dl]at h1⊢;simpa using h1
   omega
  exact⟨hr,hQ _ _ (PT hF hI aC hr)⟩
 |succ fuel ih=>
  intro listed a w pre post e H g hI aC hu;refine⟨fun hr=>hQ _ _ (PT hF hI aC hr),?_⟩;intro i hi;rw[mem_ready]at hi;obtain⟨h1,o,h2,h3⟩:=hi;have af:i<F.ops.size:=(Jl.1 h2).1;have dl:i<listed.size:=by rw[hI.lsz];exact af
  have du:¬dn listed i:=by
   simp only[dn];rw[Ji,Jq dl]at h1⊢;simpa using h1
  have cU:unl F (listed.setIfInBounds i true)≤fuel:=by
   have:unl F (listed.setIfInBounds i true)<unl F listed:=by
    refine KQ _ ?_ ⟨i,by simp[af],?_,?_⟩
    ·intro j hj hq;by_cases kZ:i=j
     ·subst kZ;simp[dl]at hq
     ·rw[getD_set_ne false kZ]at hq;exact hq
    ·simpa[dn]using du
    ·simp[dl]
   omega
  obtain⟨y,iu,bN,hyi⟩:=hF.all i af;subst hyi;obtain⟨A,B,nv⟩:=Jz iu;obtain⟨o',ho⟩:=hF.row nv bN;have cn:o'=o:=by have:=ho.op;rw[h2]at this;simpa using this.symm
  subst cn;have dm:∀j,F.anc y.1 j→dn listed j:=by
   intro j hj;obtain⟨ed,k1,k2,k3⟩:=ho.anc j hj;rcases k3 with k3|k3
   ·rw[←k3];exact h3 ed k1 k2
   ·exact hI.closed _ (h3 ed k1 k2) j k3
  have dv:∀a' w' pre' post' e' H' g',DInv F (listed.setIfInBounds y.1 true) a' w' pre' post' e' H' g'→wpAny F.P .any F.ops Q fuel (listed.setIfInBounds y.1 true) a' w':=by
   intro a' w' pre' post' e' H' g' s4;obtain⟨p2,q2,e2,H2,sy,cr⟩:=Hg hF post' pre' e' H' s4;exact ih _ a' w' p2 q2 e2 H2 g' sy cr cU
  have fO:y∈pre∨y∈post:=by
   have:y∈pre++post:=hI.split▸iu;exact Jb.1 this
  have nf:flo F.fa y.1=true→y∈post→wpOp F.P F.ops Q y.1 (wpAny F.P .any F.ops Q fuel (listed.setIfInBounds y.1 true)) a w:=by
   intro jc fK;refine Qbac h2 ho.item (ho.isFa jc) hI.stp.sat (fun l z hz=>hI.stp.le.io l z hz) hI.size (g0:=F.g0) fun u w' g' k1 k2 k3=>?_;exact dv _ _ _ _ _ _ _ (hI.doneFa hF fK bN jc du dm k1 k2 k3)
  rcases fO with fK|fK
  ·
   have fW:y.2.isFl=true:=by
    have hE:=hI.eDone y fK;revert hE bN;cases y.2 <;> simp_all[Item.isFl,Item.aH,Item.isE]
   rcases hI.pend y fK fW du with h|h
   ·exfalso;rcases aC with rfl|⟨z,r,rfl,hz,_⟩
    ·simp[Bv]at h
    ·have:=(HA h).1;rw[(CR hz).1]at this;simp at this
   ·obtain⟨o2,x,ei,v,p1,p2,p3,p4,p5,p6,p7,p8⟩:=h;rw[h2]at p1;simp only[Jf]at p1;subst p1;have bO:∀t,¬∃z,BI F listed pre y t z:=by
     rintro t ⟨z,b1,b2,b3,b4,b5⟩;exact b3 (dm _ b5)
    refine Qbpu (n:=F.n) h2 p2 p6 hI.stp.sat ?_ fun u w' g' k1 k2=>?_
    ·intro t;rw[DJ];split
     ·rename_i ht
      rw[p4]at ht;exact (p8 t ht).2 (bO t)
     ·exact .unk _
    ·rw[p3];exact dv _ _ _ _ _ _ _ (hI.doneFl hF fK fW du dm p7 k1 k2)
  ·by_cases jc:flo F.fa y.1=true
   ·exact nf jc fK
   ·rcases aC with rfl|⟨z,r,rfl,hz,eB⟩
    ·simp at fK
    ·have hyz:y=z:=by
      rcases Jk.1 fK with k|k
      ·exact k
      ·exfalso;have:=(hF.pair (EF hI.split k) (CR hz).1 bN).ord hz jc;exact eB (dm _ this)
     subst hyz;have bK:=hI.rest;have him:=ho.item;have sW:=@DInv.passE;obtain⟨yi,yx⟩:=y
     cases yx with
     |e d gd op=>
      simp only[Jr,B0]at bK;obtain⟨r1,r2,r3⟩:=bK;refine Qbox (n:=F.n) h2 him hI.stp.sat ?_ r1 r2 r3 (fun x u w' H' g' k1 k2 k3=>?_) fun v w' H' g' k1 k2=>hP v a w' H' g' k1 (hI.stp.trans k2) hI.defers hI.size
      ·intro t;rw[DJ];split
       ·rename_i ht
        rcases hI.temps t with ⟨y',b1,b2,b3,b4⟩|⟨y',b1,b2,b3,b4,b5⟩|k
        ·exfalso;exact b3 (dm _ ((hF.pair (BS hI.split b1 ZV) b2 bN).raw t b4 ht))
        ·exfalso;rcases Jk.1 b1 with h|h
         ·subst h;exact du b4
         ·have:=(hF.pair (EF hI.split h) bN b2).war t b5 ht;exact du (hI.closed _ b4 _ this)
        ·exact k
       ·exact .unk _
      ·exact dv _ _ _ _ _ _ _ (hI.passE hF hz du jc dm (Rx k1 k3) k2 k3)
     |f=>simp[Item.isE]at hz
     |p=>simp[Item.isE]at hz
     |chk=>simp[Item.isE]at hz
theorem Qbjm (hs:Sat H g w)(k:Nat):Stp H g w H g { w with drawn:=k }:=by
 have aE:Le g w g { w with drawn:=k }:=⟨fun _ h=>⟨h,rfl⟩,fun _ _ h=>h,Jae _,fun _ _ _ h=>h,rfl,rfl,rfl⟩;have hk:∀l,Cp g w g { w with drawn:=k } l:=fun l b q hb=>⟨hb,rfl⟩;exact⟨aE,fun l _ hn=>⟨hn,fun b p hb=>⟨hb,rfl⟩⟩,hs.fresh,hs.names,hs.excl,hs.named,fun l=>SatObj.keep_all hs aE hk l⟩
theorem Qbab {n id fa:Nat}{ord:List Nat}{ops:Array Oper}{its:List Item}{KP:Value→Heap→Prop}{K:Env→Heap→Prop}{Q:Exit→Act→World→Prop}(Aa:P.follows .mixedOrders=true)(hm:EW P n ops fa ord its=true)(hs:Sat H g w)(he:EnvOk w g e a)(hn:a.tmps.size=n)(hd:a.defers=[])
  (hr:B0 P its e H KP K) (hQ:∀a' w',Post n H g w K a' w'→Q .normal a' w') (hP:∀v a' w',Post n H g w (fun _ H'=>KP v H') a' w'→Q (.panic [{ v:=v,recovered:=false }]) a' w'):(Code.region id ops true).wp P Q a w:=by
 simp only[EW,Jg,beq_iff_eq,Js,List.mem_range,List.any_eq_true,Jac]at hm;obtain⟨⟨⟨m1,m2⟩,m3⟩,m4⟩:=hm;let F:Fix:={ P,n,ops,ms:=EU ops.toList [],fa,L:=ord.zip its,H0:=H,g0:=g,w0:=w,KP,K };have hF:FixOk F:=⟨m3,fun i hi=>m4 i hi⟩;have iG:(ord.zip its).map Prod.snd=its:=by
  rw[List.map_snd_zip];omega
 have aC:=Qbjm hs (w.drawn+1);have ft:∀i,¬dn (Array.replicate ops.size false) i:=by
  intro i h;simp only[dn,Ji,Array.getElem?_replicate]at h;split at h <;> simp at h
 have hI:DInv F (Array.replicate ops.size false) a { w with drawn:=w.drawn+1 } [] (ord.zip its) e H g:=by
  refine⟨rfl,by rw[iG];exact hr,aC,hn,hd,by simp[F],fun i hi=>absurd hi (ft i),ZV,fun y _ _ h=>absurd h (ft _),ZV,fun t=>?_,fun y _ z _ _ _ h=>absurd h (ft _)⟩;exact .inr (.inr ((he t).mono aC.le))
 obtain⟨p2,q2,e2,H2,sy,cr⟩:=Hg hF _ _ _ _ hI;refine wp_region_any Aa ?_;refine Qbe7 hF hQ (fun v a' w' H' g' k1 k2 k3 k4=>hP v a' w' ⟨[],H',g',k1,k2,fun t=>.unk _,k3,k4⟩) ops.size _ a _ p2 q2 e2 H2 g sy cr ?_;exact Ja0 List.countP_le_length (by simp[F])
theorem Qbej {c:Code}{Q:Exit→Act→World→Prop}(I:Nat→Act→World→Prop)(h₀:∃n,I n a w)
  (round:∀n a w,I n a w→c.wp P (Exit.then (fun a' w'=>∃m,m<n∧I m a' w') Q) a w):(Code.loop c).wp P Q a w:=by
 intro b k cs;have key:∀n a w,I n a w→∃e a' w',Q e a' w'∧Arrives P (lone (b.at a (.code c::.inLoop c::k)) cs w) b k cs e a' w':=by
  intro n
  induction n using Nat.strongRecOn with
  |_ n ih=>
   intro a w hI;obtain⟨e,a₁,w₁,hq,cI⟩:=round n a w hI b (.inLoop c::k) cs
   cases e with
   |normal=>
    obtain⟨m,af,hI₁⟩:=hq;obtain⟨e₂,a₂,w₂,hq₂,p9⟩:=ih m af a₁ w₁ hI₁;exact⟨e₂,a₂,w₂,hq₂,.of_steps (Steps.trans cI (.one step_inLoop)) p9⟩
   |exit id=>exact⟨_,a₁,w₁,hq,.pass (x:=.inLoop c) rfl (fun _ _=>.inl ZV) cI⟩
   |goto l=>exact⟨_,a₁,w₁,hq,.pass (x:=.inLoop c) rfl (fun _ _=>.inl ZV) cI⟩
   |ret=>exact⟨_,a₁,w₁,hq,.pass (x:=.inLoop c) rfl (fun _ _=>.inl ZV) cI⟩
   |panic ch=>exact⟨_,a₁,w₁,hq,.pass (x:=.inLoop c) rfl (fun _ _=>.inl ZV) cI⟩
   |outgrown=>exact⟨_,a₁,w₁,hq,.pass (x:=.inLoop c) rfl (fun _ _=>.inl ZV) cI⟩
 obtain⟨n,hn⟩:=h₀;obtain⟨e,a',w',hq,cI⟩:=key n a w hn;exact⟨e,a',w',hq,.of_steps (.one step_loop) cI⟩
def xm:Exit→Option X
 |.normal=>some .nrm
 |.exit id=>some (.exit id)
 |.ret=>some .ret
 |.panic [{ v:=v,recovered:=false,goexit:=false }]=>some (.pan v)
 |_=>none
theorem Ej {ch:List PanicEntry}{x:X}(h:xm (.panic ch)=some x):∃v,x=.pan v∧ch=[{ v:=v,recovered:=false }]:=by
 unfold xm at h;split at h <;> simp_all
def CO (n:Nat)(H:Heap)(g:G)(w:World)(Q:X→Env→Heap→Prop)(x:Exit)(a:Act)(w':World):Prop:=
 ∃x',xm x=some x'∧Post n H g w (Q x') a w'
def mC (P:Program)(n:Nat):Code→SC→Bool
 |c,.seq .gh s=>mC P n c s
 |.skip,.skip=>true
 |.region _ ops false,.reg its _=>mIts P n ops 0 its
 |.region _ ops true,.iS fa ord its _=>EW P n ops fa ord its
 |.seq c d,.seq s t=>mC P n c s&&mC P n d t
 |.cond x c d,.cond y s t=>mO y x&&mC P n c s&&mC P n d t
 |.block i c,.block j s=>i == j&&mC P n c s
 |.loop c,.loop s=>mC P n c s
 |.exit i,.exit j=>i == j
 |.ret,.ret=>true
 |.scope c,.scope s=>mC P n c s
 |.label _,.skip=>true
 |_,_=>false
theorem I6 {ks:List Nat}(h:EnvOk w g e a):EnvOk w g (trim ks e) a:=by
 intro t;unfold trim
 induction ks with
 |nil=>exact .unk _
 |cons k ks ih=>
  simp only[Jr,lk];split
  ·rename_i ht;subst ht;exact h t
  ·exact ih
theorem Post.trans {n:Nat}{H':Heap}{g':G}{w' w'':World}{K:Env→Heap→Prop}(h:Stp H g w H' g' w')(k:Post n H' g' w' K a w''):Post n H g w K a w'':=by
 obtain⟨e2,H2,g2,k1,k2,k3,k4,k5⟩:=k;exact⟨e2,H2,g2,k1,h.trans k2,k3,k4,k5⟩
theorem Qa99 (Aa:P.follows .mixedOrders=true){n:Nat}:∀(s:SC) (c:Code) (Q:X→Env→Heap→Prop) (e:Env) (H:Heap),mC P n c s=true→Q6 P s Q e H→
  ∀(g:G) (w:World) (a:Act),Sat H g w→EnvOk w g e a→a.defers=[]→a.tmps.size=n→c.wp P (CO n H g w Q) a w:=by
 intro s
 induction s with
 |skip=>
  intro c Q e H hm hc g w a hs he hd hn
  cases c with
  |skip=>exact wp_skip ⟨.nrm,rfl,e,H,g,hc,.refl hs,he,hd,hn⟩
  |label l=>exact wp_label ⟨.nrm,rfl,e,H,g,hc,.refl hs,he,hd,hn⟩
  |_=>simp[mC]at hm
 |reg its keep=>
  intro c Q e H hm hc g w a hs he hd hn
  cases c with
  |region id ops dr'=>
   cases dr' with
   |true=>simp[mC]at hm
   |false=>
    simp only[mC]at hm;simp only[Q6]at hc;have hQ:∀a' w',Post n H g w (fun e' H'=>Q .nrm (trim keep e') H') a' w'→CO n H g w Q .normal a' w':=by
     rintro a' w' ⟨e2,H2,g2,k1,k2,k3,k4,k5⟩;exact⟨.nrm,rfl,_,H2,g2,k1,k2,I6 k3,k4,k5⟩
    have hP:∀v a' w',Post n H g w (fun _ H'=>X.panK Q v H') a' w'→CO n H g w Q (.panic [{ v:=v,recovered:=false }]) a' w':=by
     rintro v a' w' ⟨e2,H2,g2,k1,k2,k3,k4,k5⟩;exact⟨.pan v,rfl,[],H2,g2,k1,k2,fun t=>.unk _,k4,k5⟩
    have hl:=P9 its 0 hm;refine wp_region ?_;rw[List.range_eq_range',←hl,Ja1];exact OQ hQ hP its 0 e H g w a hm (.refl hs) he hn hd hc
  |_=>simp[mC]at hm
 |iS fa ord its keep=>
  intro c Q e H hm hc g w a hs he hd hn
  cases c with
  |region id ops dr'=>
   cases dr' with
   |false=>simp[mC]at hm
   |true=>
    simp only[mC]at hm;simp only[Q6]at hc;have hQ:∀a' w',Post n H g w (fun e' H'=>Q .nrm (trim keep e') H') a' w'→CO n H g w Q .normal a' w':=by
     rintro a' w' ⟨e2,H2,g2,k1,k2,k3,k4,k5⟩;exact⟨.nrm,rfl,_,H2,g2,k1,k2,I6 k3,k4,k5⟩
    have hP:∀v a' w',Post n H g w (fun _ H'=>X.panK Q v H') a' w'→CO n H g w Q (.panic [{ v:=v,recovered:=false }]) a' w':=by
     rintro v a' w' ⟨e2,H2,g2,k1,k2,k3,k4,k5⟩;exact⟨.pan v,rfl,[],H2,g2,k1,k2,fun t=>.unk _,k4,k5⟩
    exact Qbab Aa hm hs he hn hd hc hQ hP
  |_=>simp[mC]at hm
 |seq s t ihs iht=>
  intro c Q e H hm hc g w a hs he hd hn;by_cases hg:s=.gh
  ·subst hg;have em:mC P n c t=true:=by simpa[mC]using hm
   simp only[Q6]at hc;obtain⟨e1,H1,h1,h2⟩:=hc;obtain⟨g1,k1,k2⟩:=h1 g w (fun t=>a.tmps.getD t undef) hs he;refine wp_mono (iht c Q e1 H1 em h2 g1 w a k1.sat k2 hd hn) ?_;rintro x a' w' ⟨x',q1,q2⟩;exact⟨x',q1,q2.trans k1⟩
  ·cases c with
   |seq c d=>
    have em:mC P n c s=true∧mC P n d t=true:=by
     cases s <;> first|(exact absurd rfl hg)|simpa[mC]using hm
    simp only[Q6]at hc;refine wp_seq (wp_mono (ihs c _ e H em.1 hc g w a hs he hd hn) ?_);rintro x a' w' ⟨x',q1,e2,H2,g2,k1,k2,k3,k4,k5⟩
    cases x with
    |normal=>
     simp only[xm,Jf]at q1;subst q1;refine wp_mono (iht d Q e2 H2 em.2 k1 g2 w' a' k2.sat k3 k4 k5) ?_;rintro x2 a2 w2 ⟨x2',r1,r2⟩;exact⟨x2',r1,r2.trans k2⟩
    |exit id=>
     simp only[xm,Jf]at q1;subst q1;exact⟨_,rfl,e2,H2,g2,k1,k2,k3,k4,k5⟩
    |ret=>
     simp only[xm,Jf]at q1;subst q1;exact⟨_,rfl,e2,H2,g2,k1,k2,k3,k4,k5⟩
    |panic ch=>
     obtain⟨v,rfl,rfl⟩:=Ej q1;exact⟨_,rfl,e2,H2,g2,k1,k2,k3,k4,k5⟩
    |_=>simp[xm]at q1
   |_=>cases s <;> first|(exact absurd rfl hg)|simp[mC]at hm
 |cond y s t ihs iht=>
  intro c Q e H hm hc g w a hs he hd hn;cases c <;> simp[mC]at hm
  rename_i x c d
  obtain⟨⟨h1,h2⟩,h3⟩:=hm;simp only[Q6]at hc;obtain⟨b,k1,k2,k3⟩:=hc;have hr:=Iw he h1;rw[k1]at hr;have hb:=hr.aF.bk;exact wp_cond_split hb (fun nk=>ihs c Q e H h2 (k2 nk) g w a hs he hd hn) (fun nk=>iht d Q e H h3 (k3 nk) g w a hs he hd hn)
 |block id s ih=>
  intro c Q e H hm hc g w a hs he hd hn;cases c <;> simp[mC]at hm
  rename_i id' c
  obtain⟨rfl,h2⟩:=hm;simp only[Q6]at hc;refine wp_block (wp_mono (ih c _ e H h2 hc g w a hs he hd hn) ?_);rintro x a' w' ⟨x',q1,e2,H2,g2,k1,k2⟩
  cases x with
  |normal=>
   simp only[xm,Jf]at q1;subst q1;exact⟨.nrm,rfl,e2,H2,g2,k1,k2⟩
  |exit id2=>
   simp only[xm,Jf]at q1;subst q1;simp only[X.inBlock]at k1;simp only[Exit.inBlock];split
   ·rename_i h;subst h;rw[if_pos rfl]at k1;exact⟨.nrm,rfl,e2,H2,g2,k1,k2⟩
   ·rename_i h;rw[if_neg h]at k1;exact⟨.exit id2,rfl,e2,H2,g2,k1,k2⟩
  |ret=>
   simp only[xm,Jf]at q1;subst q1;exact⟨.ret,rfl,e2,H2,g2,k1,k2⟩
  |panic ch=>
   obtain⟨v,rfl,rfl⟩:=Ej q1;exact⟨.pan v,rfl,e2,H2,g2,k1,k2⟩
  |_=>simp[xm]at q1
 |loop s ih=>
  intro c Q e H hm hc g w a hs he hd hn;cases c <;> simp[mC]at hm
  rename_i c
  simp only[Q6]at hc;obtain⟨I,⟨m0,h0⟩,mz⟩:=hc;refine Qbej (fun m a' w'=>Post n H g w (I m) a' w') ⟨m0,e,H,g,h0,.refl hs,he,hd,hn⟩ ?_;rintro m a1 w1 ⟨e1,H1,g1,k1,k2,k3,k4,k5⟩;refine wp_mono (ih c _ e1 H1 hm (mz m e1 H1 k1) g1 w1 a1 k2.sat k3 k4 k5) ?_;rintro x a' w' ⟨x',q1,e2,H2,g2,r1,r2,r3,r4,r5⟩
  cases x with
  |normal=>
   simp only[xm,Jf]at q1;subst q1;obtain⟨m',af,hI⟩:=r1;exact⟨m',af,e2,H2,g2,hI,k2.trans r2,r3,r4,r5⟩
  |exit id=>
   simp only[xm,Jf]at q1;subst q1;exact⟨_,rfl,e2,H2,g2,r1,k2.trans r2,r3,r4,r5⟩
  |ret=>
   simp only[xm,Jf]at q1;subst q1;exact⟨_,rfl,e2,H2,g2,r1,k2.trans r2,r3,r4,r5⟩
  |panic ch=>
   obtain⟨v,rfl,rfl⟩:=Ej q1;exact⟨_,rfl,e2,H2,g2,r1,k2.trans r2,r3,r4,r5⟩
  |_=>simp[xm]at q1
 |exit id=>
  intro c Q e H hm hc g w a hs he hd hn;cases c <;> simp[mC]at hm;subst hm;exact wp_exit ⟨.exit _,rfl,e,H,g,hc,.refl hs,he,hd,hn⟩
 |ret=>
  intro c Q e H hm hc g w a hs he hd hn;cases c <;> simp[mC]at hm;exact wp_ret ⟨.ret,rfl,e,H,g,hc,.refl hs,he,hd,hn⟩
 |gh=>
  intro c Q e H hm hc g w a hs he hd hn;cases c <;> simp[mC]at hm
 |scope s ih=>
  intro c Q e H hm hc g w a hs he hd hn;cases c <;> simp[mC]at hm
  rename_i c
  simp only[Q6]at hc;refine wp_scope_straight (wp_mono (ih c Q e H hm hc g w a hs he hd hn) ?_);rintro x a' w' ⟨x',q1,q2⟩
  cases x with
  |goto l=>simp[xm]at q1
  |_=>exact⟨x',q1,q2⟩
def mR (P:Program):ResultVar→RS→Bool
 |.tmp t,.tmp t'=>t == t'
 |.cell t ty,.cell t' n agg=>t == t'&&B7 P ty n agg
 |_,_=>false
def mRs (P:Program):List ResultVar→List RS→Bool
 |[],[]=>true
 |x::r,y::s=>mR P x y&&mRs P r s
 |_,_=>false
def mFn (P:Program)(f:FuncId)(nargs n:Nat)(s:SC)(rs:List RS):Bool:=
 fnOk P f&&(match P.funcs[f]? with
  |some fn=>(match fn.body with
   |some c=>fn.ntmps == n&&decide (nargs≤n)&&mC P n c s&&mRs P fn.results.toList rs
   |none=>false)
  |none=>false)
theorem Yd {n:Nat}{x:ResultVar}{y:RS}(hm:mR P x y=true)(hs:Sat H g w)(he:EnvOk w g e a)(ho:y.op.obl true e H) :
  ∃v,(match x with
   |.tmp t=>(pure (a.tmps.getD t undef):Sem Value)
   |.cell t ty=>do loadVar ty (←asAddr (a.tmps.getD t undef))).run P w=.ok v w∧RepV w g (y.op.val e H) v:=by
 cases x with
 |tmp t=>
  cases y with
  |tmp t'=>
   simp[mR]at hm;subst hm;have hr:=Al (x:=.t t) (y:=.tmp t) he (by simp[mO]) rfl ho;exact⟨a.tmps.getD t undef,rfl,hr⟩
  |cell=>simp[mR]at hm
 |cell t ty=>
  cases y with
  |tmp=>simp[mR]at hm
  |cell t' n agg=>
   simp only[mR,Jg,beq_iff_eq]at hm;obtain⟨rfl,h2⟩:=hm;obtain⟨d,i,k1,k2,k3,k4,k5⟩:=GH h2;obtain ⟨v, w', g', r1, r2, r3, _⟩ := s_ld (o := { dst := none, op := .load ty (.tmp t), type := 0, pos := "", after := #[], guard := none }) (x := .t t) (x' := .tmp t) rfl k1 k2 k3 k4 k5 (by simp [mO]) hs he rfl ho
   simp only[RS.op,FOp.obl]at ho;obtain⟨o1,o2,o3,o4,o5⟩:=ho;have gX:=Al (x:=.t t) (y:=.tmp t) he (by simp[mO]) rfl o1;rw[Br o2]at gX;obtain⟨b,q,hv,_⟩:=Mi hs gX.aF o3;have lw:a.tmps.getD t undef=.pointer (some ⟨b,q,none⟩):=hv;have ca := RC (P := P) (o := { dst := none, op := .load ty (.tmp t), type := 0, pos := "", after := #[], guard := none }) (x := .t t) (x' := .tmp t) rfl k1 k2 k3 k4 k5 (by simp [mO]) hs he rfl ⟨o1, o2, o3, o4, o5⟩
   obtain⟨v2,q1,q2⟩:=ca;refine⟨v2,?_,q2⟩;simp only[execOp,Instr.loadAt,Act.eval,lw,Instr.sureAddr,Sem.run_bind,Sem.run_pure,Result.andThen_ok]at q1;simp only[lw,asAddr,Sem.run_bind,Sem.run_pure,Result.andThen_ok]
   cases hl:(loadVar ty ⟨b,q,none⟩).run P w with
   |ok u w2=>rw[hl]at q1;simp at q1;obtain⟨rfl,rfl⟩:=q1;rfl
   |halt h w2=>rw[hl]at q1;simp at q1
def rRun (tmps:Array Value):ResultVar→Sem Value
 |.tmp t=>pure (tmps.getD t undef)
 |.cell a t=>do loadVar t (←asAddr (tmps.getD a undef))
theorem Qa21 {P:Program}{w:World}{tmps:Array Value}:∀(l:List ResultVar) (vs:List Value),l.length=vs.length→
  (∀(j:Nat) (x:ResultVar) (v:Value),l[j]? = some x→vs[j]? = some v→(rRun tmps x).run P w=.ok v w)→(l.mapM (rRun tmps)).run P w=.ok vs w:=by
 intro l
 induction l with
 |nil=>intro vs hl _;cases vs with
  |nil=>simp
  |cons=>simp at hl
 |cons x r ih=>
  intro vs hl h
  cases vs with
  |nil=>simp at hl
  |cons v vs=>
   have h0:=h 0 x v rfl rfl;have ih':=ih vs ZaG fun j y u h1 h2=>h (j+1) y u Za4 Zbf;simp only[List.mapM_cons,Sem.run_bind,h0,Result.andThen_ok,ih',Sem.run_pure]
theorem Qbqm {n:Nat}:∀(l:List ResultVar) (rs:List RS),mRs P l rs=true→Sat H g w→EnvOk w g e a→(∀r∈rs,r.op.obl true e H)→
  ∃vs:List Value,l.length=vs.length∧vs.length=rs.length∧(∀(j:Nat) (x:ResultVar) (v:Value),l[j]? = some x→vs[j]? = some v→(rRun a.tmps x).run P w=.ok v w)∧
   (∀(j:Nat) (x:V) (u:Value),(rs.map fun r=>r.op.val e H)[j]? = some x→vs[j]? = some u→RepV w g x u):=by
 intro l
 induction l with
 |nil=>
  intro rs hm hs he ho
  cases rs with
  |nil=>exact⟨[],rfl,rfl,ZV,ZV⟩
  |cons=>simp[mRs]at hm
 |cons x r ih=>
  intro rs hm hs he ho
  cases rs with
  |nil=>simp[mRs]at hm
  |cons y rs=>
   simp only[mRs,Jg]at hm;obtain⟨v,h1,h2⟩:=Yd (n:=n) hm.1 hs he (ho y ZV);obtain⟨vs,k1,k2,k3,k4⟩:=ih rs hm.2 hs he fun z hz=>ho z ZbR;refine⟨v::vs,Zbi,by simp[k2],?_,?_⟩
   ·intro j z u hz hu
    cases j with
    |zero=>
     simp at hz hu;subst hz;subst hu;exact h1
    |succ j=>exact k3 j z u Zbh (by simpa using hu)
   ·intro j z u hz hu
    cases j with
    |zero=>
     simp at hz hu;subst hz;subst hu;exact h2
    |succ j=>exact k4 j z u Zbh (by simpa using hu)
theorem Qba5 {fn:Func}{rs:List RS}(hm:mRs P fn.results.toList rs=true)(hs:Sat H g w)(he:EnvOk w g e a){K:V→Heap→Prop}(ho:Q0 rs e H K) :
  ∃v x,(results fn a.tmps).run P w=.ok v w∧K x H∧RepV w g x v:=by
 obtain⟨h1,h2⟩:=ho;obtain⟨vs,k1,k2,k3,k4⟩:=Qbqm (n:=0) _ _ hm hs he h1;have hr:=Qa21 (P:=P) (w:=w) (tmps:=a.tmps) _ _ k1 k3;have bX:(results fn a.tmps).run P w=.ok (if h:vs.toArray.size=1 then vs.toArray[0]else .tuple vs.toArray) w:=by
  have:results fn a.tmps=(do let vs ←fn.results.mapM (rRun a.tmps);pure (if h:vs.size=1 then vs[0]else .tuple vs)):=by
   unfold results;rfl
  rw[this,Array.mapM_eq_mapM_toList];simp only[Sem.run_bind,Sem.run_map,hr,Result.andThen_ok,Sem.run_pure]
 by_cases hl:vs.length=1
 ·obtain⟨v,rfl⟩:∃v,vs=[v]:=Jai.mp hl;obtain⟨r,rfl⟩:∃r,rs=[r]:=Jai.mp ZT;exact⟨v,_,by simpa using bX,h2,k4 0 _ v ZV rfl⟩
 ·have aO:¬vs.toArray.size=1:=ZaG
  rw[dif_neg aO]at bX;refine⟨_,.tup (rs.map fun r=>r.op.val e H),bX,?_,.tup _ _ (by simp[k2]) k4⟩;split at h2
  ·rename_i r;simp at k2;omega
  ·exact h2
def Qq (rs:List RS)(K:V→Heap→Prop):X→Env→Heap→Prop
 |.nrm,e,H=>Q0 rs e H K
 |.ret,e,H=>Q0 rs e H K
 |.exit _,_,_=>False
 |.pan v,_,H=>K (.pn v) H
theorem Y9:∀(args:List V) (i t:Nat),lk t (zipE i args)=if i≤t then args.getD (t-i) .unk else .unk:=by
 intro args
 induction args with
 |nil=>intro i t;simp[zipE,lk]
 |cons v r ih=>
  intro i t;simp only[zipE,lk,ih];split
  ·rename_i h;subst h;simp
  ·rename_i h
   split
   ·rw[if_pos ZT];have:t-i=(t-(i+1))+1:=ZT;rw[this];simp
   ·rw[if_neg ZT]
theorem Qc (Aa:P.follows .mixedOrders=true){f n:Nat}{s:SC}{rs:List RS}{args:List V}{H:Heap}{K:V→Heap→Prop}
  (hm:mFn P f args.length n s rs=true) (hc:Q6 P s (Qq rs K) (zipE 0 args) H):Qm P f args H K:=by
 simp only[mFn,Jg]at hm;obtain⟨bf,hm⟩:=hm;refine⟨bf,?_⟩;intro g w vs hs hl hv
 cases hf:P.funcs[f]? with
 |none=>rw[hf]at hm;simp at hm
 |some fn=>
  rw[hf]at hm;simp only at hm
  cases hb:fn.body with
  |none=>rw[hb]at hm;simp at hm
  |some c=>
   rw[hb]at hm;simp only[Jg,beq_iff_eq,decide_eq_true_eq]at hm;obtain⟨⟨⟨h1,h2⟩,h3⟩,h4⟩:=hm;refine calls_of_wp hf hb ?_;have he:EnvOk w g (zipE 0 args) { tmps:=vs.toArray++Array.replicate (fn.ntmps-vs.toArray.size) undef,defers:=[] }:=by
    intro t;rw[Y9,if_pos (Ja2 _),Nat.sub_zero];by_cases ht:t<args.length
    ·have sN:t<vs.length:=ZT;have hg:(vs.toArray++Array.replicate (fn.ntmps-vs.toArray.size) undef).getD t undef=vs[t]:=by
      simp[Array.getD,sN,Array.getElem_append];intro h;omega
     rw[hg];exact hv t _ _ (by rw[Jh,Jn ht];rfl) (Jn sN)
    ·rw[Jh,List.getElem?_eq_none ZT];exact .unk _
   refine wp_mono (Qa99 Aa s c _ (zipE 0 args) H h3 hc g w _ hs he rfl Zac) ?_;rintro x a' w' ⟨x',q1,e2,H2,g2,k1,k2,k3,k4,k5⟩;have key:Q0 rs e2 H2 K→a'.defers=[]∧∃v,(results fn a'.tmps).run P w'=.ok v w'∧((∃v' x H' g',Ending.returned v=.returned v'∧K x H'∧Stp H g w H' g' w'∧RepV w' g' x v')∨(∃v' H' g',Ending.returned v=.panicked [{ v:=v',recovered:=false }]∧K (.pn v') H'∧Stp H g w H' g' w')):=by
    intro qS;obtain⟨v,x,r1,r2,r3⟩:=Qba5 h4 k2.sat k3 qS;exact⟨k4,v,r1,.inl ⟨v,x,H2,g2,rfl,r2,k2,r3⟩⟩
   cases x with
   |normal=>
    simp only[xm,Jf]at q1;subst q1;exact key k1
   |ret=>
    simp only[xm,Jf]at q1;subst q1;exact key k1
   |exit id=>
    simp only[xm,Jf]at q1;subst q1;exact k1.elim
   |panic ch=>
    obtain⟨v,rfl,rfl⟩:=Ej q1;exact⟨k4,.inr ⟨v,H2,g2,rfl,k1,k2⟩⟩
   |_=>simp[xm]at q1
end Go.AE
namespace Go.AE
variable {P:Program}{H:Heap}{e:Env}
def X.sq (P:Program)(b:SC)(Q:X→Env→Heap→Prop):X→Env→Heap→Prop:=X.next (Q6 P b Q) Q
theorem YK {KP:Value→Heap→Prop}{K:V→Heap→Prop}{x:C}:BC KP K (.c x) H=K (.c x) H:=rfl
theorem Qbnz {KP:Value→Heap→Prop}{K:V→Heap→Prop}{x:List C}:BC KP K (.ag x) H=K (.ag x) H:=rfl
theorem Qbji {KP:Value→Heap→Prop}{K:V→Heap→Prop}{x:List V}:BC KP K (.tup x) H=K (.tup x) H:=rfl
theorem Qbjj {KP:Value→Heap→Prop}{K:V→Heap→Prop}:BC KP K .unk H=K .unk H:=rfl
theorem Qbn0 {KP:Value→Heap→Prop}{K:V→Heap→Prop}{v:Value}:BC KP K (.pn v) H=KP v H:=rfl
theorem XG {b:SC}{Q:X→Env→Heap→Prop}:X.sq P b Q .nrm e H=Q6 P b Q e H:=rfl
theorem XE {b:SC}{Q:X→Env→Heap→Prop}:X.sq P b Q .ret e H=Q .ret e H:=rfl
theorem Qbq7 {b:SC}{Q:X→Env→Heap→Prop}{i:Nat}:X.sq P b Q (.exit i) e H=Q (.exit i) e H:=rfl
theorem Yq {i:Nat}{Q:X→Env→Heap→Prop}:X.inBlock i Q .nrm e H=Q .nrm e H:=rfl
theorem Yo {i:Nat}{Q:X→Env→Heap→Prop}:X.inBlock i Q .ret e H=Q .ret e H:=rfl
theorem Qbp2 {i:Nat}{Q:X→Env→Heap→Prop}:X.inBlock i Q (.exit i) e H=Q .nrm e H:=by simp[X.inBlock]
theorem Qf {a b:SC}{Q:X→Env→Heap→Prop}(h:Q6 P a (X.sq P b Q) e H):Q6 P (.seq a b) Q e H:=h
theorem Qbhc {K K':Env→Heap→Prop}{Q:X→Env→Heap→Prop}:X.next K (X.next K' Q)=X.next K Q:=by
 funext x e H
 cases x <;> rfl
theorem Qz {a b c:SC}{Q:X→Env→Heap→Prop}(h:Q6 P (.seq a (.seq b c)) Q e H):Q6 P (.seq (.seq a b) c) Q e H:=by
 simp only[Q6]at h⊢;rw[Qbhc];exact h
theorem Qr {its:List Item}{keep:List Nat}{Q:X→Env→Heap→Prop}(h:regT P its e H (X.panK Q) fun e' H'=>Q .nrm (trim keep e') H'):Q6 P (.reg its keep) Q e H:=h
theorem Bf {fa:Nat}{ord:List Nat}{its:List Item}{keep:List Nat}{Q:X→Env→Heap→Prop}(h:B0 P its e H (X.panK Q) fun e' H'=>Q .nrm (trim keep e') H'):Q6 P (.iS fa ord its keep) Q e H:=h
theorem Qa {its:List Item}{keep:List Nat}{b:SC}{Q:X→Env→Heap→Prop}(h:regT P its e H (X.panK Q) fun e' H'=>Q6 P b Q (trim keep e') H'):Q6 P (.seq (.reg its keep) b) Q e H:=h
theorem An {fa:Nat}{ord:List Nat}{its:List Item}{keep:List Nat}{b:SC}{Q:X→Env→Heap→Prop}(h:B0 P its e H (X.panK Q) fun e' H'=>Q6 P b Q (trim keep e') H'):Q6 P (.seq (.iS fa ord its keep) b) Q e H:=h
theorem Qb {t:Opd}{a b:SC}{Q:X→Env→Heap→Prop}{c:Bool}(hc:t.raw e=.c (.bool c))(h1:c=true→Q6 P a Q e H)(h2:c=false→Q6 P b Q e H):Q6 P (.cond t a b) Q e H:=⟨c,hc,h1,h2⟩
theorem Qg {i:Nat}{a:SC}{Q:X→Env→Heap→Prop}(h:Q6 P a (X.inBlock i Q) e H):Q6 P (.block i a) Q e H:=h
theorem Qy {i:Nat}{Q:X→Env→Heap→Prop}(h:Q (.exit i) e H):Q6 P (.exit i) Q e H:=h
theorem Qi {Q:X→Env→Heap→Prop}(h:Q .ret e H):Q6 P .ret Q e H:=h
theorem Qd {Q:X→Env→Heap→Prop}(h:Q .nrm e H):Q6 P .skip Q e H:=h
theorem Q3 {a:SC}{Q:X→Env→Heap→Prop}(I:Nat→Env→Heap→Prop)(n:Nat)(h0:I n e H)
  (h:∀n e1 H1,I n e1 H1→Q6 P a (X.next (fun e2 H2=>∃m,m<n∧I m e2 H2) Q) e1 H1):Q6 P (.loop a) Q e H:=⟨I,⟨n,h0⟩,h⟩
theorem Qbk3 {e:Env}:gdO e none=True:=rfl
theorem Qbk2 {e:Env}:gdB e none=true:=rfl
theorem Qbk4 {p:Bool}{v:V}:gdV none p v=v:=rfl
theorem Qbk5 {p:Bool}{v:V}{x:Nat×Bool}:gdV (some x) p v=.gd p v:=rfl
theorem Qbn6 {e:Env}:trim [] e=[]:=rfl
theorem Qbjs {k:Nat}{ks:List Nat}{e:Env}:trim (k::ks) e=(k,lk k e)::trim ks e:=rfl
theorem Qbn7 {a:Prop}:(true=true→a)=a:=ZV
theorem Qbff {a:Prop}:(false=true→a)=True:=ZV
theorem Qbju {a:Prop}:(true=false→a)=True:=ZV
theorem Qbag {a:Prop}:(false=false→a)=a:=ZV
theorem X1 {a:Prop}:(a∧True)=a:=ZV
theorem Xd {a:Prop}:(True∧a)=a:=ZV
theorem Xc {a:Prop}:(True→a)=a:=ZV
theorem XP {a:Prop}:(a→True)=True:=ZV
theorem b_f {b:Bool}:(b == false) = !b:=by cases b <;> rfl
theorem b_t {b:Bool}:(b == true)=b:=by cases b <;> rfl
theorem Qblc {a:Prop}:(a→a)=True:=ZV
theorem Qbf5 {a b:Prop}:(a→b→a)=True:=propext ⟨fun _=>trivial,fun _ h _=>h⟩
theorem Qbf6 {a b:Prop}:(a→a∧b)=(a→b):=propext ⟨fun h x=>(h x).2,fun h x=>⟨x,h x⟩⟩
theorem Qbp3 {a b:Prop}:(a→a→b)=(a→b):=ZV
theorem Qa2u {α:Type}{p:α→Prop}:(∀x∈([]:List α),p x)=True:=ZV
def Dd (H:Heap)(p:C)(vs:List C)(K:V→Heap→Prop):Prop:=
 match p with
 |.ptr l k=>match H l with
  |.st cells=>k+vs.length≤cells.length∧∀H',H'=H.set l (.st (Dn cells k vs))→K .unk H'
  |_=>False
 |.ep (.aw l sz st n) z i k=>match H l with
  |.vec y rows=>y=sz∧z=sz∧i<n∧st+n≤rows.length∧k+vs.length≤sz∧
    ∀H',H'=H.set l (.vec sz (rows.set (st+i) (Dn (rows.getD (st+i) []) k vs)))→K .unk H'
  |_=>False
 |_=>False
def appQ (H:Heap)(sz:Nat)(a b:C)(K:V→Heap→Prop):Prop:=
 aT H b∧b.aN=sz∧match a with
 |.sl true z rows=>z=sz∧(rows=[]∨rowsOf H b≠[])∧(∀r∈rows++rowsOf H b,ai r=true)∧rows.length+a9 b≤LIM∧
   ∀l,H l=.none→∀H',H'=H.set l (.vec sz (rows++rowsOf H b))→K (.c (.aw l sz 0 (rows.length+a9 b))) H'
 |.aw l z st n=>match H l with
  |.vec y rows=>z=sz∧y=sz∧st+n≤rows.length∧(∀r∈rowsOf H b,ai r=true)∧n+a9 b≤LIM∧
    ∀l',(H.set l .none) l'=.none→∀H',H'=(H.set l .none).set l' (.vec sz ((rows.drop st).take n++rowsOf H b))→
     K (.c (.aw l' sz 0 (n+a9 b))) H'
  |_=>False
 |_=>False
def updQ (H:Heap)(tag:Nat)(m k:C)(v:V)(K:V→Heap→Prop):Prop:=
 match m with
 |.mp l=>match H l with
  |.map n es=>AL tag k es∧es.length+1≤LIM∧∀H',H'=H.set l (.map (n+1) (AH k v es))→K .unk H'
  |_=>False
 |_=>False
def delQ (H:Heap)(tag:Nat)(m k:C)(K:V→Heap→Prop):Prop:=
 match m with
 |.mp l=>match H l with
  |.map n es=>AL tag k es∧∀H',H'=H.set l (.map (n+1) (delE k es))→K .unk H'
  |_=>False
 |.mnil=>AL tag k []∧K .unk H
 |_=>False
theorem Bu {α:Type}{a:α}{p:α→Prop}:(∀x,x=a→p x)=p a:=propext ⟨fun h=>h a rfl,fun h x hx=>hx▸h⟩
section
variable {p:Bool}{K:V→Heap→Prop}
theorem Qbjl {a:C}{vs:List C}:BU H a vs K=Dd H a vs K:=by
 cases a with
 |ptr l k=>simp only[BU,Dd];cases hh:H l <;> simp only[hh,Bu]
 |ep s z i k=>
  cases s with
  |aw l sz st n=>simp only[BU,Dd];cases hh:H l <;> simp only[hh,Bu]
  |_=>rfl
 |_=>rfl
theorem Kj {sz:Nat}{a b:C}:appT H sz a b K=appQ H sz a b K:=by
 unfold appT appQ;refine congrArg (And _) (congrArg (And _) ?_)
 cases a with
 |sl fl z rows=>cases fl <;> simp only[Bu]
 |aw l z st n=>simp only[];cases hh:H l <;> simp only[hh,Bu]
 |_=>rfl
theorem YE {tag:Nat}{m k:C}{v:V}:updT H tag m k v K=updQ H tag m k v K:=by
 cases m with
 |mp l=>simp only[updT,updQ];cases hh:H l <;> simp only[hh,Bu]
 |_=>rfl
theorem Qbpb {tag:Nat}{m k:C}:delT H tag m k K=delQ H tag m k K:=by
 cases m with
 |mp l=>simp only[delT,delQ];cases hh:H l <;> simp only[hh,Bu]
 |_=>rfl
theorem Qbe9 {cells:List C}:(EOp.alloc cells).eff P p e H K=∀l,H l=.none→∀H',H'=H.set l (.st cells)→K (.c (.ptr l 0)) H':=ZaV
theorem Qbki {a:Opd}:(EOp.boxm a).eff P p e H K=(a.fine p e∧(a.v e).cells≠[]∧∀l,H l=.none→∀H',H'=H.set l (.st (a.v e).cells)→K (.c (.ptr l 0)) H'):=ZaV
theorem Qbpo {n:Nat}{a v:Opd}:(EOp.sto n a v).eff P p e H K=(a.fine p e∧v.fine p e∧(a.v e).isC∧(v.v e).cells.length=n∧0<n∧Dd H (a.v e).c1 (v.v e).cells K):=by simp only[EOp.eff,Qbjl]
theorem Qbpf {sz:Nat}{a b:Opd}:(EOp.app sz a b).eff P p e H K=(a.fine p e∧b.fine p e∧(a.v e).isC∧(b.v e).isC∧appQ H sz (a.v e).c1 (b.v e).c1 K):=by simp only[EOp.eff,Kj]
theorem Qbpg {sz:Nat}{zr:List C}{a n:Opd}:(EOp.apz sz zr a n).eff P p e H K=(a.fine p e∧n.fine p e∧(a.v e).isC∧Bz (n.v e)∧0≤Q8 (n.v e)∧Q8 (n.v e)≤LIM∧appQ H sz (a.v e).c1 (.sl false sz (List.replicate (Q8 (n.v e)).toNat zr)) K):=by simp only[EOp.eff,Kj]
theorem Qbpl {sz:Nat}{zero:List C}{n:Opd}:(EOp.mks sz zero n).eff P p e H K=(n.fine p e∧Bz (n.v e)∧0≤Q8 (n.v e)∧Q8 (n.v e)≤LIM∧
   ∀l,H l=.none→∀H',H'=H.set l (.vec sz (List.replicate (Q8 (n.v e)).toNat zero))→K (.c (.aw l sz 0 (Q8 (n.v e)).toNat)) H'):=ZaV
theorem Qbpk:EOp.mkm.eff P p e H K=∀l,H l=.none→∀H',H'=H.set l (.map 0 [])→K (.c (.mp l)) H':=ZaV
theorem Qbpp {tag:Nat}{m k v:Opd}:(EOp.upd tag m k v).eff P p e H K=(m.fine p e∧k.fine p e∧v.fine p e∧(m.v e).isC∧(k.v e).isC∧(v.v e).cells≠[]∧updQ H tag (m.v e).c1 (k.v e).c1 (v.v e) K):=by simp only[EOp.eff,YE]
theorem Qbpi {tag:Nat}{m k:Opd}:(EOp.del tag m k).eff P p e H K=(m.fine p e∧k.fine p e∧(m.v e).isC∧(k.v e).isC∧delQ H tag (m.v e).c1 (k.v e).c1 K):=by simp only[EOp.eff,Qbpb]
theorem Qbkl {m:Opd}:(EOp.clrm m).eff P p e H K=(m.fine p e∧match m.v e with
  |.c (.mp l)=>match H l with
   |.map n _=>∀H',H'=H.set l (.map (n+1) [])→K .unk H'
   |_=>False
  |_=>False):=by
 simp only[EOp.eff];refine congrArg (And _) ?_
 cases m.v e with
 |c x=>cases x with
  |mp l=>simp only[];cases hh:H l <;> simp only[hh,Bu]
  |_=>rfl
 |_=>rfl
theorem Qbkm {sz:Nat}{zero:List C}{m:Opd}:(EOp.clrs sz zero m).eff P p e H K=(m.fine p e∧match m.v e with
  |.c (.aw l z st n)=>z=sz∧match H l with
   |.vec y rows=>y=sz∧st+n≤rows.length∧∀H',H'=H.set l (.vec sz (rows.take st++List.replicate n zero++rows.drop (st+n)))→K .unk H'
   |_=>False
  |_=>False):=by
 simp only[EOp.eff];refine congrArg (And _) ?_
 cases m.v e with
 |c x=>cases x with
  |aw l z st n=>simp only[];refine congrArg (And _) ?_;cases hh:H l <;> simp only[hh,Bu]
  |_=>rfl
 |_=>rfl
theorem Qbkk {f:Nat}{args:List Opd}:(EOp.call f args).eff P p e H K=((∀x∈args,x.fine p e)∧Qm P f (args.map fun x=>x.v e) H K):=rfl
theorem Qbfa {f:Opd}{args:List Opd}:(EOp.eA f args).eff P p e H K=(f.fine p e∧(∀x∈args,x.fine p e)∧match f.v e with
  |.c (.fn n caps)=>Qm P n ((args.map fun x=>x.v e)++caps.map .c) H K
  |_=>False):=rfl
theorem Qbpn {m:Opd}:(EOp.rng m).eff P p e H K=(m.fine p e∧match m.v e with
  |.c (.mp l)=>match H l with
   |.map n es=>es.Nodup∧∀i,H i=.none→∀H',H'=H.set i (.iter (some (l,n)) es none)→K (.c (.itr i)) H'
   |_=>False
  |.c .mnil=>∀i,H i=.none→∀H',H'=H.set i (.iter none [] none)→K (.c (.itr i)) H'
  |_=>False):=by
 simp only[EOp.eff];refine congrArg (And _) ?_
 cases m.v e with
 |c x=>cases x with
  |mp l=>simp only[];cases hh:H l <;> simp only[hh,Bu]
  |mnil=>simp only[Bu]
  |_=>rfl
 |_=>rfl
theorem Qbkp {a:Opd}:(EOp.rngs a).eff P p e H K=(a.fine p e∧match a.v e with
  |.c (.str s)=>∀i,H i=.none→∀H',H'=H.set i (.sit s 0)→K (.c (.itr i)) H'
  |_=>False):=by
 simp only[EOp.eff];refine congrArg (And _) ?_
 cases a.v e with
 |c x=>cases x with
  |str s=>simp only[Bu]
  |_=>rfl
 |_=>rfl
theorem Qbko {it:Opd}:(EOp.nxts it).eff P p e H K=(it.fine p e∧match it.v e with
  |.c (.itr i)=>match H i with
   |.sit s q=>(s.length≤q→K (.tup [.c (.bool false)]) H)∧
     ∀(c:Int) (wd:Nat),q<s.length→1≤wd→((s.getD q 0).toNat<128→c=((s.getD q 0).toNat:Int)∧wd=1)→(128≤(s.getD q 0).toNat→128≤c)→
      ∀H',H'=H.set i (.sit s (q+wd))→K (.tup [.c (.bool true),.c (.int .i64 q),.c (.int .i32 c)]) H'
   |_=>False
  |_=>False):=by
 simp only[EOp.eff];refine congrArg (And _) ?_
 cases it.v e with
 |c x=>cases x with
  |itr i=>
   simp only[];cases hh:H i <;> simp only[Bu]
  |_=>rfl
 |_=>rfl
theorem Qbpm {it:Opd}:(EOp.nxt it).eff P p e H K=(it.fine p e∧match it.v e with
  |.c (.itr i)=>match H i with
   |.iter none left _=>K (.tup [.c (.bool false)]) H
   |.iter (some (l,n)) left cur=>(∃es,H l=.map n es)∧(left=[]→K (.tup [.c (.bool false)]) H)∧
     ∀x left',x∈left→(∀y,y∈left'↔y∈left∧y≠x)→left'.Nodup→left'.length+1=left.length→
      ∀H',H'=H.set i (.iter (some (l,n)) left' (some x))→K (.tup [.c (.bool true),.c x.1,x.2]) H'
   |_=>False
  |_=>False):=by
 simp only[EOp.eff];refine congrArg (And _) ?_
 cases it.v e with
 |c x=>cases x with
  |itr i=>
   simp only[]
   cases hh:H i with
   |iter m left cur=>cases m with
    |none=>rfl
    |some y=>simp only[Bu]
   |_=>rfl
  |_=>rfl
 |_=>rfl
theorem Qbpj {it:Opd}:(EOp.ent it).eff P p e H K=(it.fine p e∧match it.v e with
  |.c (.itr i)=>match H i with
   |.iter (some (l,n)) left (some x)=>(∃es,H l=.map n es)∧K (.tup [.c x.1,x.2]) H
   |_=>False
  |_=>False):=rfl
def cpyQ (H:Heap)(sz:Nat)(a b:C)(K:V→Heap→Prop):Prop:=
 aT H b∧b.aN=sz∧match a with
 |.aw l z st n=>match H l with
  |.vec y rows=>z=sz∧y=sz∧st+n≤rows.length∧a9 b≤n∧(∀r∈rowsOf H b,ai r=true)∧
    ∀H',H'=H.set l (.vec sz (rows.take st++rowsOf H b++rows.drop (st+a9 b)))→K (.c (.int .i64 (a9 b))) H'
  |_=>False
 |_=>False
theorem Qbo9 {sz:Nat}{a b:C}:cpyT H sz a b K=cpyQ H sz a b K:=by
 unfold cpyT cpyQ;refine congrArg (And _) (congrArg (And _) ?_)
 cases a with
 |aw l z st n=>simp only[];cases hh:H l <;> simp only[hh,Bu]
 |_=>rfl
theorem Qbph {sz:Nat}{a b:Opd}:(EOp.cpy sz a b).eff P p e H K=(a.fine p e∧b.fine p e∧(a.v e).isC∧(b.v e).isC∧cpyQ H sz (a.v e).c1 (b.v e).c1 K):=by simp only[EOp.eff,Qbo9]
theorem Qbkj {sz:Nat}{parts:List Opd}:(EOp.bslm sz parts).eff P p e H K=((∀x∈parts,x.fine p e∧(x.v e).cells.length=sz)∧∀l,H l=.none→∀H',H'=H.set l (.vec sz (parts.map fun x=>(x.v e).cells))→K (.c (.aw l sz 0 parts.length)) H'):=ZaV
theorem Qbkn {a:Opd}:(EOp.nilq a).eff P p e H K=(a.fine p e∧match a.v e with
  |.c (.sl _ _ rows)=>∀b:Bool,(b=true→rows=[])→K (.c (.bool b)) H
  |_=>False):=rfl
end
theorem Dg {k:IntKind}{n:Int}:(C.int k n).ah=false:=rfl
theorem Qbf7 {b:Bool}:(C.bool b).ah=false:=rfl
theorem CH {s:List UInt8}:(C.str s).ah=false:=rfl
theorem Df {f:Bool}{sz:Nat}{r:List (List C)}:(C.sl f sz r).ah=false:=rfl
theorem Qbqa {c:List C}:(C.pp c).ah=false:=rfl
theorem Qbp6 {c:C}{a i k:Nat}:(C.ep c a i k).ah=false:=rfl
theorem Qbga:C.pnil.ah=false:=rfl
theorem Qbll {l k:Nat}:(C.ptr l k).ah=false:=rfl
theorem Qblp {l a b c:Nat}:(C.aw l a b c).ah=false:=rfl
theorem Qbp8 {l:Nat}:(C.mp l).ah=false:=rfl
theorem Qbf9:C.mnil.ah=false:=rfl
theorem Qbln {n:Nat}:(C.stb n).ah=false:=rfl
theorem Qblm {n:Nat}:(C.slb n).ah=false:=rfl
theorem Qbp5 {a:Bool}{k:List C}{r:List (List C)}:(C.cm a k r).ah=false:=rfl
theorem Qbp7 {f:Nat}{c:List C}:(C.fn f c).ah=false:=rfl
theorem Qbf8:C.fnil.ah=false:=rfl
theorem Qblk {l:Nat}:(C.itr l).ah=false:=rfl
theorem Qblo:C.unk.ah=false:=rfl
theorem Qbp9 {sz:Nat}{r:List (List C)}:(C.ow sz r).ah=true:=rfl
theorem Qbqh {f:Bool}{sz:Nat}{r:List (List C)}:a9 (.sl f sz r)=r.length:=rfl
theorem PC {l a b c:Nat}:a9 (.aw l a b c)=c:=rfl
theorem Qbfb {f:Bool}{sz:Nat}{r:List (List C)}:(C.sl f sz r).aN=sz:=rfl
theorem Qbad {l a b c:Nat}:(C.aw l a b c).aN=a:=rfl
theorem Qbhv {f:Bool}{sz:Nat}{r:List (List C)}:rowsOf H (.sl f sz r)=r:=rfl
theorem Qba8 {l a st n:Nat}:rowsOf H (.aw l a st n)=match H l with
  |.vec _ rows=>(rows.drop st).take n
  |_=>[]:=rfl
theorem YX {f:Bool}{sz:Nat}{r:List (List C)}:aT H (.sl f sz r)=True:=rfl
theorem Qbmr {l sz st n:Nat}:aT H (.aw l sz st n)=match H l with
  |.vec z rows=>z=sz∧st+n≤rows.length
  |_=>False:=rfl
section
variable {K:V→Heap→Prop}
theorem Qboy {sz z:Nat}{rows:List (List C)}{b:C}:appQ H sz (.sl true z rows) b K=(aT H b∧b.aN=sz∧z=sz∧(rows=[]∨rowsOf H b≠[])∧(∀r∈rows++rowsOf H b,ai r=true)∧rows.length+a9 b≤LIM∧
   ∀l,H l=.none→∀H',H'=H.set l (.vec sz (rows++rowsOf H b))→K (.c (.aw l sz 0 (rows.length+a9 b))) H'):=rfl
theorem Qbj7 {sz l z st n:Nat}{b:C}:appQ H sz (.aw l z st n) b K=(aT H b∧b.aN=sz∧match H l with
  |.vec y rows=>z=sz∧y=sz∧st+n≤rows.length∧(∀r∈rowsOf H b,ai r=true)∧n+a9 b≤LIM∧
    ∀l',(H.set l .none) l'=.none→∀H',H'=(H.set l .none).set l' (.vec sz ((rows.drop st).take n++rowsOf H b))→
     K (.c (.aw l' sz 0 (n+a9 b))) H'
  |_=>False):=rfl
end
theorem Qbq6 {lo hi:Option Int}{fl:Bool}{sz:Nat}{rows:List (List C)}:sliC lo hi (.sl fl sz rows)=.sl (fl&&(hi.isNone || rows.isEmpty)) sz ((rows.take (hi.getD rows.length).toNat).drop (lo.getD 0).toNat):=rfl
theorem Qbnq {lo hi:Option Int}{l sz st n:Nat}:sliC lo hi (.aw l sz st n)=.aw l sz (st+(lo.getD 0).toNat) ((hi.getD n).toNat-(lo.getD 0).toNat):=rfl
attribute [go_sem] Qbph cpyQ DA CN YK Qbnz Qbji Qbjj Qbn0 b_f b_t Qblc Qbf5 Qbf6 Qbp3 regT B0 putE lk Qbk3 Qbk2 Qbk4 Qbk5 gdO gdB Opd.v Opd.raw Opd.fine V.bare V.fine FOp.val FOp.obl FOp.fct Qbe9 Qbki Qbpo Qbpf Qbpg Qbpl Qbpk Qbpp Qbpi Qbkl Qbkm Qbkk Qbfa Qbpn Qbpm Qbkp Qbko Qbpj Qbkn Qbkj Qbn6 Qbjs
 V.c1 V.isC V.isAg V.cells Cg Cw fadC binC binO Cd ai Dd Qboy Qbj7 updQ delQ zipE RE Qbq6 Qbnq bnds YX Qbmr Qbqh PC Qbhv Qba8 Qbfb Qbad Dg Qbf7 CH Df Qbqa Qbp6 Qbga Qbll Qblp Qbp8 Qbf9 Qbln Qblm Qbp5 Qbp7 Qbf8 Qblk Qblo Qbp9 Bz D6 Q8 D4 Qbn7 Qbff Qbju Qbag X1 Xd Xc XP
 XG XE Qbq7 Yq Yo Qbp2 Jr Jaa Dn List.take_succ_cons List.take_zero List.take_nil List.drop_succ_cons Jav List.drop_nil
 Jah J8 Jt Jay List.headD_cons Bool.not_false Jaw Bool.and_true Jax Jam Jan and_self eq_self J9 Jag Jau Ja2 Jae not_true_eq_false not_false_eq_true ite_true ite_false ne_eq Option.map_some Option.map_none Option.getD_some Option.getD_none Option.isNone_some Option.isNone_none List.isEmpty_nil List.isEmpty_cons Bool.or_true Bool.true_or Bool.or_false Bool.false_or optI optF Int.toNat_natCast Int.natCast_nonneg Int.add_sub_cancel List.forall_mem_cons Qa2u
end Go.AE
namespace Go.AE
abbrev fI (d : Nat) (o : FOp) : Item := .f (some d) none o
abbrev eI (d : Nat) (o : EOp) : Item := .e (some d) none o
abbrev gT (d t : Nat) (o : FOp) : Item := .f (some d) (some (t, true)) o
abbrev gF (d t : Nat) (o : FOp) : Item := .f (some d) (some (t, false)) o
abbrev kI (n : Int) : Opd := .k (.c (.int .i64 n))
abbrev mJ (d a : Nat) : Item := .f (some d) none (.mv (.t a))
abbrev fJ (d n a : Nat) : Item := .f (some d) none (.fad n (.t a))
abbrev lJ (d a : Nat) : Item := .f (some d) none (.ld 1 false (.t a))
abbrev tJ (d n a : Nat) : Item := .f (some d) none (.ld n true (.t a))
abbrev nJ (d a : Nat) : Item := .f (some d) none (.len (.t a))
abbrev kJ (d a : Nat) : Item := .f (some d) none (.nck (.t a))
abbrev oJ (d a : Nat) : Item := .f (some d) none (.not (.t a))
abbrev iJ (d n a b : Nat) : Item := .f (some d) none (.iad n (.t a) (.t b))
abbrev bJ (d : Nat) (o : BinOp) (a b : Nat) : Item := .f (some d) none (.bin 0 o (.t a) (.t b))
abbrev cJ (d : Nat) (o : BinOp) (a : Nat) (n : Int) : Item := .f (some d) none (.bin 0 o (.t a) (.k (.c (.int .i64 n))))
abbrev gTm (d g a : Nat) : Item := .f (some d) (some (g, true)) (.mv (.t a))
abbrev gFm (d g a : Nat) : Item := .f (some d) (some (g, false)) (.mv (.t a))
abbrev gTf (d g n a : Nat) : Item := .f (some d) (some (g, true)) (.fad n (.t a))
abbrev gFf (d g n a : Nat) : Item := .f (some d) (some (g, false)) (.fad n (.t a))
abbrev gTl (d g a : Nat) : Item := .f (some d) (some (g, true)) (.ld 1 false (.t a))
abbrev gFl (d g a : Nat) : Item := .f (some d) (some (g, false)) (.ld 1 false (.t a))
abbrev aJ (d f : Nat) (l : List Opd) : Item := .e (some d) none (.call f l)
abbrev sJ (k a b : Nat) : Item := .e none none (.sto k (.t a) (.t b))
abbrev fB (d : Nat) (b : Bool) : Item := .f (some d) none (.mv (.k (.c (.bool b))))
abbrev zJ (d : Nat) (n : Int) : Item := .f (some d) none (.mv (.k (.c (.int .i64 n))))
abbrev hJ (d a : Nat) : Item := .chk d none (.ld 1 false (.t a))
abbrev pT (d a b : Nat) : Item := .f (some d) none (.pick (.t a) (.k (.c (.bool true))) (.t b))
abbrev pF (d a b : Nat) : Item := .f (some d) none (.pick (.t a) (.t b) (.k (.c (.bool false))))
abbrev xJ (d k a b : Nat) : Item := .e (some d) none (.app k (.t a) (.t b))
abbrev vJ (d a : Nat) : Item := .f (some d) none (.box (.t a))
abbrev sR (l : List Item) (k : List Nat) (n : SC) : SC := .seq (.reg l k) n
abbrev cX (t i : Nat) (n : SC) : SC := .seq (.cond (.t t) .skip (.exit i)) n
abbrev bL (i : Nat) (l : SC) : SC := .block i (.loop l)
abbrev cT (t : Nat) (a b : SC) : SC := .cond (.t t) a b
theorem X7 : Int.toNat 0 = 0 := rfl
theorem X6 : Int.toNat 1 = 1 := rfl
theorem YI : Int.toNat 2000 = 2000 := rfl
attribute [go_sem] sJ fB zJ hJ pT pF xJ vJ mJ fJ lJ tJ nJ kJ oJ iJ bJ cJ gTm gFm gTf gFf gTl gFl aJ fI eI gT gF kI false_implies X7 X6 YI
universe u
variable {α:Sort u}
def fc (n:Nat)(k:Nat→α):α:=
 match n with
 |0=>k 0
 |m+1=>k (m+1)
def dK (n:Nat)(k:Opd→Nat→α):α:=fc n fun n=>
 match n % 16 with
 |0=>k (.k (.c (.int .i64 0))) (n / 16)
 |1=>k (.k (.c (.int .i64 1))) (n / 16)
 |2=>k (.k (.c (.bool false))) (n / 16)
 |3=>k (.k (.c (.bool true))) (n / 16)
 |4=>k (.k (.c (.sl true (n / 16 % 16) []))) (n / 256)
 |5=>k (.t (n / 16 % 256)) (n / 4096)
 |6=>k (.k (.c (.int .i64 (n / 16 % 256:Nat)))) (n / 4096)
 |7=>k (.k (.c (.int .i64 (-1)))) (n / 16)
 |8=>k (.k (.c .pnil)) (n / 16)
 |9=>k (.k (.c (.int .i64 (n / 16 % 65536:Nat)))) (n / 1048576)
 |10=>k (.k (.c .fnil)) (n / 16)
 |_=>k (.k (.c .mnil)) (n / 16)
def dO (d n:Nat)(k:Opd→Nat→α):α:=fc n fun n=>
 match n / 8 % 2 with
 |0=>k (.t (d-1-n % 8)) (n / 16)
 |_=>match n % 8 with
  |0=>k (.t (n / 16 % 16)) (n / 256)
  |1=>k (.t (16+n / 16 % 16)) (n / 256)
  |2=>k (.t (32+n / 16 % 16)) (n / 256)
  |3=>k (.t (48+n / 16 % 16)) (n / 256)
  |4=>k (.t (64+n / 16 % 16)) (n / 256)
  |5=>k (.t (80+n / 16 % 16)) (n / 256)
  |6=>k (.t (96+n / 16 % 16)) (n / 256)
  |_=>dK (n / 16) k
def dOs:Nat→Nat→Nat→(List Opd→Nat→α)→α
 |0,_,n,k=>k [] n
 |c+1,d,n,k=>dO d n fun x n=>dOs c d n fun l n=>k (x::l) n
def dP (n:Nat)(k:BinOp→α):α:=
 match n % 16 with
 |0=>k .add
 |1=>k .sub
 |2=>k .eql
 |3=>k .neq
 |4=>k .lss
 |5=>k .leq
 |6=>k .gtr
 |7=>k .geq
 |8=>k .mul
 |9=>k .quo
 |10=>k .rem
 |11=>k .and
 |12=>k .or
 |_=>k .xor
def dC:Nat→Nat→(List C→Nat→α)→α
 |0,n,k=>k [] n
 |c+1,n,k=>fc n fun n=>match n % 16 with
  |0=>dC c (n / 16) fun l n=>k (.int .i64 0::l) n
  |1=>dC c (n / 16) fun l n=>k (.str []::l) n
  |2=>dC c (n / 16) fun l n=>k (.bool false::l) n
  |3=>dC c (n / 16) fun l n=>k (.pnil::l) n
  |4=>dC c (n / 16) fun l n=>k (.mnil::l) n
  |5=>dC c (n / 16) fun l n=>k (.fnil::l) n
  |6=>dC c (n / 16) fun l n=>k (.int .u8 0::l) n
  |_=>dC c (n / 256) fun l m=>k (.sl true (n / 16 % 16) []::l) m
def dPt:Nat→Nat→Nat→(List (Nat×Nat×Opd)→Nat→α)→α
 |0,_,n,k=>k [] n
 |c+1,d,n,k=>dO d (n / 256) fun x m=>dPt c d m fun l m=>k ((n % 16,n / 16 % 16,x)::l) m
def dF (t d n:Nat)(k:FOp→Nat→α):α:=fc n fun n=>
 match t with
 |0=>dO d n fun a n=>k (.mv a) n
 |1=>dO d n fun a n=>k (.ld 1 false a) n
 |2=>dO d (n / 16) fun a m=>k (.fad (n % 16) a) m
 |3=>dO d (n / 16) fun a m=>dO d m fun i m=>k (.iad (n % 16) a i) m
 |4=>dO d (n / 16) fun a m=>dO d m fun b m=>dP n fun o=>k (.bin 0 o a b) m
 |5=>dO d n fun a n=>k (.len a) n
 |6=>dO d (n / 16) fun a m=>k (.ld (n % 16) true a) m
 |7=>dO d n fun a n=>k (.nck a) n
 |8=>dO d n fun a n=>k (.not a) n
 |9=>dO d n fun a n=>k (.box a) n
 |10=>dO d n fun a n=>dO d n fun b n=>dO d n fun c n=>k (.pick a b c) n
 |11=>dO d (n / 16) fun a m=>k (.ext a (n % 16)) m
 |12=>dOs (n / 16 % 16) d (n / 256) fun l m=>k (.fH (n % 16) l) m
 |13=>dC (n % 16) (n / 16) fun z m=>dPt (m % 16) d (m / 16) fun l m=>k (.bld z l) m
 |14=>dOs (n / 256 % 16) d (n / 4096) fun l m=>k (.mkf (n % 256) l) m
 |_=>dO d (n / 256) fun a m=>dO d m fun b m=>dP (n / 16) fun o=>k (.bin (n % 16) o a b) m
def dE (t d n:Nat)(k:EOp→Nat→α):α:=fc n fun n=>
 match t with
 |0=>dOs (n / 256 % 16) d (n / 4096) fun l m=>k (.call (n % 256) l) m
 |1=>dO d (n / 16) fun a m=>dO d m fun b m=>k (.sto (n % 16) a b) m
 |2=>dO d (n / 16) fun a m=>dO d m fun b m=>k (.app (n % 16) a b) m
 |3=>dC (n % 16) (n / 16) fun z m=>k (.alloc z) m
 |4=>dO d (n / 16) fun a m=>dOs (n % 16) d m fun l m=>k (.eA a l) m
 |_=>dO d n fun a m=>k (.boxm a) m
def gdD (n:Nat):Option (Nat×Bool):=some (n / 2,match n % 2 with
 |0=>false
 |_=>true)
def gx {β:Type}(d:β):List β→Nat→β
 |[],_=>d
 |x::_,0=>x
 |_::l,n+1=>gx d l n
def dI (is:List Item)(d n:Nat)(k:Item→Nat→Nat→α):α:=fc n fun n=>
 match n % 16 with
 |13=>dE 0 d (n / 16) fun o m=>k (.e (some d) none o) (d+1) m
 |14=>dE 1 d (n / 16) fun o m=>k (.e none none o) d m
 |15=>match n / 16 % 16 with
  |0=>dF (n / 256 % 16) d (n / 2^20) fun o m=>k (.f (some d) (gdD (n / 4096 % 256)) o) (d+1) m
  |1=>dF (n / 256 % 16) d (n / 2^12) fun o m=>k (.f (some d) none o) (d+1) m
  |2=>dE (n / 256 % 16) d (n / 2^12) fun o m=>k (.e (some d) none o) (d+1) m
  |3=>dE (n / 256 % 16) d (n / 2^20) fun o m=>k (.e (some d) (gdD (n / 4096 % 256)) o) (d+1) m
  |4=>dF (n / 256 % 16) d (n / 2^20) fun o m=>k (.chk (n / 4096 % 256) none o) d m
  |5=>dF (n / 256 % 16) d (n / 2^28) fun o m=>k (.chk (n / 4096 % 256) (gdD (n / 2^20 % 256)) o) d m
  |6=>dE (n / 256 % 16) d (n / 2^20) fun o m=>k (.e none (gdD (n / 4096 % 256)) o) d m
  |7=>k (gx (.e none none .mkm) is (n / 256 % 16)) d (n / 4096)
  |_=>k (gx (.e none none .mkm) is (n / 256 % 16)) (d+1) (n / 4096)
 |t=>dF t d (n / 16) fun o m=>k (.f (some d) none o) (d+1) m
def dJ (is:List Item)(d n:Nat)(k:Item→Nat→Nat→α):α:=fc n fun n=>
 match n % 256 with
 |159=>dI is (n / 256 % 256) (n / 65536) k
 |_=>dI is d n k
def dL (ts:List (List Item))(is:List Item):Nat→Nat→Nat→(List Item→Nat→α)→α
 |0,_,n,k=>match n % 16 with
  |0=>k [] (n / 16)
  |t=>k (gx [] ts (t-1)) (n / 16)
 |c+1,d,n,k=>dJ is d n fun x d n=>dL ts is c d n fun l n=>k (x::l) n
def dQ (n:Nat)(k:Nat→Nat→α):α:=fc n fun n=>
 match n % 16 with
 |15=>k (n / 16 % 256) (n / 4096)
 |c=>k c (n / 16)
def dLs (ts:List (List Item))(is:List Item)(n:Nat)(k:List Item→Nat→α):α:=
 dQ n fun c n=>dL ts is c (n % 256) (n / 256) k
def dN:Nat→Nat→Nat→(List Nat→Nat→α)→α
 |0,_,n,k=>k [] n
 |c+1,d,n,k=>fc n fun n=>match n % 16 with
  |15=>dN c (n / 16 % 256+1) (n / 4096) fun l m=>k ((n / 16 % 256)::l) m
  |x=>dN c (d+x+1) (n / 16) fun l m=>k ((d+x)::l) m
def dR:Nat→Nat→List Nat
 |0,_=>[]
 |c+1,i=>i::dR c (i+1)
def dX:Nat→Nat→(List Nat→Nat→α)→α
 |0,n,k=>k [] n
 |c+1,n,k=>fc n fun n=>dX c (n / 256) fun l m=>k ((n % 256)::l) m
def dS (cs:List SC)(ts:List (List Item))(is:List Item):Nat→Nat→(SC→Nat→α)→α
 |0,n,k=>k .skip n
 |f+1,n,k=>fc n fun n=>match n % 16 with
  |0=>dLs ts is (n / 16) fun l m=>dQ m fun c m=>dN c 0 m fun kp m=>k (.reg l kp) m
  |1=>dLs ts is (n / 16) fun l m=>dQ m fun c m=>dN c 0 m fun kp m=>dS cs ts is f m fun b m=>k (.seq (.reg l kp) b) m
  |2=>dS cs ts is f (n / 16) fun a m=>dS cs ts is f m fun b m=>k (.seq a b) m
  |3=>dS cs ts is f (n / 4096) fun a m=>dS cs ts is f m fun b m=>k (.cond (.t (n / 16 % 256)) a b) m
  |4=>dS cs ts is f (n / 4096) fun a m=>k (.block (n / 16 % 256) a) m
  |5=>dS cs ts is f (n / 16) fun a m=>k (.loop a) m
  |6=>k (.exit (n / 16 % 256)) (n / 4096)
  |7=>k .ret (n / 16)
  |8=>k .skip (n / 16)
  |9=>k (gx .skip cs (n / 16 % 16)) (n / 256)
  |10=>dX (n / 4096 % 256) (n / 2^20) fun o m=>dLs ts is m fun l m=>dQ m fun c m=>dN c 0 m fun kp m=>k (.iS (n / 16 % 256) o l kp) m
  |11=>dS cs ts is f (n / 2^20) fun b m=>k (.seq (.cond (.t (n / 16 % 256)) .skip (.exit (n / 4096 % 256))) b) m
  |12=>dS cs ts is f (n / 16) fun a m=>k (.scope a) m
  |13=>k .gh (n / 16)
  |15=>dQ (n / 4096) fun c m=>dLs ts is m fun l m=>dQ m fun c' m=>dN c' 0 m fun kp m=>k (.iS (n / 16 % 256) (dR c 0) l kp) m
  |_=>dOs 1 0 (n / 16) fun t m=>dS cs ts is f m fun a m=>dS cs ts is f m fun b m=>k (.cond (t.headD (.t 0)) a b) m
def Pz (a b:α):Prop:=a=b
theorem dcI {n:Nat}:((no_index (OfNat.ofNat n):Nat):Int)=OfNat.ofNat n:=rfl
abbrev dW (n:Nat)(cs:List SC)(ts:List (List Item))(is:List Item:=[]){c:SC}
  (h:Pz (dS cs ts is 40 n (fun c _=>c)) c:=by
   conv=>arg 1;whnf
   dsimp only[gdD,gx,dR,List.headD_cons,Nat.reduceMod,Nat.reduceDiv,Nat.reduceAdd,Nat.reduceSub,Nat.reducePow,dcI];exact rfl):SC:=c
abbrev dZ (n:Nat)(a:SC:=.skip)(t:List Item:=[])(b:SC:=.skip){c:SC}
  (h:Pz (dS [a,b] [t] [] 40 n (fun c _=>c)) c:=by
   conv=>arg 1;whnf
   dsimp only[gdD,gx,dR,List.headD_cons,Nat.reduceMod,Nat.reduceDiv,Nat.reduceAdd,Nat.reduceSub,Nat.reducePow,dcI];exact rfl):SC:=c
abbrev dY (n:Nat)(t:List Item:=[])(is:List Item:=[]){c:List Item}
  (h:Pz (dLs [t] is n (fun c _=>c)) c:=by
   conv=>arg 1;whnf
   dsimp only[gdD,gx,dR,List.headD_cons,Nat.reduceMod,Nat.reduceDiv,Nat.reduceAdd,Nat.reduceSub,Nat.reducePow,dcI];exact rfl):List Item:=c
attribute [go_sem] dZ dY dW
end Go.AE
namespace Go.AE.Y
abbrev Qvm:Nat:=3
abbrev Qfj:Nat:=8
abbrev VO:Nat:=9
abbrev Qjy:Nat:=10
abbrev Qni:Nat:=11
abbrev Qve:Nat:=12
abbrev Qsy:Nat:=13
abbrev Qpn:Nat:=14
abbrev Qm7:Nat:=15
abbrev Q2d:Nat:=16
abbrev KE:Nat:=42
abbrev LT:Nat:=43
abbrev Mp:Nat:=44
abbrev Qna:Nat:=45
abbrev V0:Nat:=46
abbrev Vy:Nat:=47
abbrev KI:Nat:=48
abbrev Tm:Nat:=49
abbrev LR:Nat:=50
abbrev Q7a:Nat:=51
abbrev Q67:Nat:=52
abbrev Pa:Nat:=53
abbrev T8:Nat:=54
abbrev Qs1:Nat:=55
abbrev NS:Nat:=56
abbrev VD:Nat:=57
abbrev VV:Nat:=58
abbrev Qnf:Nat:=59
abbrev IM:Nat:=60
abbrev HU:Nat:=61
abbrev FL:Nat:=64
abbrev TO:Nat:=69
abbrev Qne:Nat:=84
abbrev TM:Nat:=91
abbrev KH:Nat:=92
abbrev KJ:Nat:=93
abbrev Pn:Nat:=94
abbrev PM:Nat:=95
abbrev Qm5:Nat:=96
abbrev VA:Nat:=97
abbrev S4:Nat:=98
abbrev VP:Nat:=99
abbrev FC:Nat:=100
abbrev HC:Nat:=101
abbrev Vb:Nat:=102
abbrev Qnh:Nat:=103
abbrev KG:Nat:=104
abbrev LO:Nat:=105
abbrev Q2h:Nat:=106
abbrev NT:Nat:=107
abbrev Q64:Nat:=108
abbrev Po:Nat:=109
abbrev Ql4:Nat:=110
abbrev Qnb:Nat:=111
abbrev Ta:Nat:=112
abbrev SI:Nat:=113
abbrev Q9g:Nat:=116
abbrev Rn:Nat:=121
abbrev HX:Nat:=122
abbrev IZ:Nat:=128
abbrev Qs3:Nat:=131
abbrev KM:Nat:=145
abbrev NU:Nat:=146
abbrev Q23:Nat:=147
abbrev VB:Nat:=148
abbrev Qm6:Nat:=149
abbrev Mq:Nat:=150
abbrev Qm9:Nat:=151
abbrev Ql1:Nat:=152
abbrev Fq:Nat:=153
abbrev Ql0:Nat:=154
abbrev HY:Nat:=155
abbrev Qs0:Nat:=156
abbrev HV:Nat:=157
abbrev NW:Nat:=158
abbrev IY:Nat:=159
abbrev CZ:Nat:=160
abbrev KF:Nat:=161
abbrev VE:Nat:=162
abbrev Vx:Nat:=163
abbrev TA:Nat:=164
abbrev Qvf:Nat:=165
abbrev Ql3:Nat:=166
abbrev KN:Nat:=170
abbrev NV:Nat:=174
abbrev Q22:Nat:=176
abbrev Qs2:Nat:=196
abbrev KO:Nat:=210
abbrev FB:Nat:=211
abbrev Q2f:Nat:=212
abbrev Q69:Nat:=213
abbrev Gy:Nat:=214
abbrev FA:Nat:=215
abbrev Pb:Nat:=216
abbrev Xa:Nat:=217
abbrev VW:Nat:=218
abbrev Q63:Nat:=219
abbrev Q65:Nat:=220
abbrev Qng:Nat:=221
abbrev S5:Nat:=222
abbrev Qm8:Nat:=223
abbrev ED:Nat:=224
abbrev Q66:Nat:=225
abbrev Q2e:Nat:=226
abbrev LN:Nat:=227
abbrev Q2g:Nat:=228
abbrev Q7d:Nat:=229
abbrev Qvk:Nat:=230
abbrev Hq:Nat:=231
abbrev Qvn:Nat:=232
abbrev Qnc:Nat:=233
abbrev VF:Nat:=234
abbrev LP:Nat:=241
abbrev FN:Nat:=255
abbrev CI:Nat:=256
abbrev TK:Nat:=257
abbrev EQ:Nat:=258
abbrev GL:Nat:=259
abbrev GM:Nat:=260
abbrev VM:Nat:=261
abbrev GW:Nat:=262
abbrev VU:Nat:=263
abbrev VY:Nat:=264
abbrev VZ:Nat:=265
abbrev Qsz:Nat:=266
abbrev T9:Nat:=267
abbrev Vw:Nat:=268
abbrev Te:Nat:=269
abbrev SH:Nat:=270
abbrev SM:Nat:=271
abbrev SV:Nat:=272
abbrev SE:Nat:=273
abbrev Tn:Nat:=274
abbrev SF:Nat:=275
abbrev S2:Nat:=276
abbrev EL:Nat:=277
abbrev GE:Nat:=278
abbrev HB:Nat:=279
abbrev Cn:Nat:=280
abbrev HN:Nat:=281
abbrev SL:Nat:=282
abbrev SU:Nat:=283
abbrev Sx:Nat:=299
abbrev S3:Nat:=300
abbrev TL:Nat:=301
abbrev DU:Nat:=302
abbrev DT:Nat:=303
abbrev To:Nat:=304
abbrev VL:Nat:=305
abbrev VC:Nat:=306
abbrev VN:Nat:=307
abbrev Vc:Nat:=308
abbrev SG:Nat:=309
abbrev F9:Nat:=310
abbrev Va:Nat:=318
abbrev RW:Nat:=319
abbrev SD:Nat:=320
abbrev FM:Nat:=321
abbrev SO:Nat:=322
abbrev TN:Nat:=323
abbrev Q9f:Nat:=325
abbrev Hr:Nat:=326
abbrev RV:Nat:=327
abbrev Tq:Nat:=328
abbrev PJ:Nat:=0
abbrev B1:Nat:=1
abbrev Bg:Nat:=2
open Go.Proofs.Tryz
def Qaqx:=dZ 0x874100f00411183
def Qaqy:=dW 0x87410ea0049f01a418008f010113580010020708025b1243 [] [] [fI 44 (.cvt .i64 (.t 43))]
def Qaqz:=dZ 0x74102e0049f01a41806806041
def Qaq0:=dZ 0x94120fd0069f02d4406f0946806805c51 Qaqz
def Qaq1:=dW 0x94120bd0069f02d04356f084059405010020708058002041d6f0845800db04045d9f08418f0101c1305a4050100207080036f004076f0845800100207080836f08408f01071305a405010020708058001002070802f2ef2ef2ef2 [Qaq0] [] [fI 60 (.cvt .i64 (.t 59)),fI 77 (.cvt .i64 (.t 76))]
def Qaq2:=dZ 0x190924f3004005440501002070805801e712 Qaqy [] Qaq1
def Qaq3:=dZ 0x930030d90059f1f01401012070801961 Qaq2
def Qaq4:=dZ 0x190918f003003f6a0f022240f02250f02210f002220f02270f082200f001f0441800fa12 Qaqx [] Qaq3
def Qaq5:=dZ 0x90020201e012571f004010120770600791 Qaq4
def Qazu:=dZ 0x900200f00411 Qaq5
abbrev Ab:List RS:=[.tmp 4]
theorem Qax8:mFn prog TM 2 99 Qazu Ab=true:=ZW
def Q2q:=dY 0xb80049f0104130a3
def KS:=dZ 0x74110225bd055050300551 .skip Q2q
def Qa39:=dZ 0x900200f00411 KS
theorem Qa2s:mFn prog Pn 2 12 Qa39 Ab=true:=ZW
def Nn:=dY 0xd80031
def Nt:=dY 0x1052f014310200173735d1f0c2 Nn
def Ns:=dY 589889
def Nr:=dY 0xa583ec91d14fb96911c34fa91b54f991a14f005
def Nq:=dY 0x157171332f051 Nr
def Np:=dY 0x10259393d31d14f46911c34f51b54f61a14f205 Nq
def No:=dY 0x201e01277293
def Qbcb:=dZ 0x104102322f013c58360101207380380218b0bf .skip No
def Qbcc:=dZ 0x1040490049f1f0144801330
def Qbcd:=dW 0x19090001051036f025bd08001051305010120738008f38015b0d080706050c0b080706050a09080706050403020100160ca20142 [Qbcb,Qbcc] [Np] [fI 22 (.fH 1 [.k (.c (.str [102])),.k (.c (.str [103])),.k (.c (.str [104]))])]
def Qaz4:=dZ 0x90068123d0010500f06448011212 Qbcd
def OX:=dY 0xfa683e001
def OW:=dY 0x157171332f061 OX
def OV:=dY 17363697 OW [eI 47 (.call Q23 [.t 43,.k (.c (.str [109])),.t 46])]
def OU:=dY 0x9b781e6833664f3b3414f003
def OT:=dY 0x137132f079f0101371d1f392 OU
def OS:=dY 0x102322f6833664f382 OT
def OR:=dY 33729
def Qa40:=dW 0x872100281e0101371d1f013c08f015c012036f102575747105d1f014c1f111f102471004d1f3d813c3 [] [] [fI 65 (.bld [.str [],.sl true 1 [],.sl true 5 []] [(0,1,.k (.c (.str [109]))),(2,1,.t 64)])]
def Qa41:=dZ 0x72100281e78164421
def Qa42:=dZ 0x19093cf42310194d78163a20d222 Qa40 OR Qa41
def Qa43:=dZ 0x9422104322f359f013c6836369f010120738003c3080b06040a09080605070604030201000f0aa2 Qa42 OS
def Qa44:=dZ 0x9202310125ed1f026f1f0f41c0803802b41 Qa43 OV
def Qa45:=dZ 0x190950040010410125ed026f1f1f0f41c0800e312 Qaz4 Ns Qa44
def Qa46:=dZ 0x9010310125ed1a6f086f146f0e6f41c080700841 Qa45 Nt
def Qbm7:=dZ 0x9102037132f0211 Qa46
abbrev Ak:List RS:=[.cell 2 1 true]
theorem Qbmd:mFn prog KJ 1 69 Qbm7 Ak=true:=ZW
def Qbmt:=dZ 0x7610e80069f2f03a0151540f281500f081500f00017460600791
def Yv:=dZ 0x9000302f00611 Qbmt
abbrev Ad:List RS:=[.tmp 6]
theorem Yc:mFn prog IZ 3 15 Yv Ad=true:=ZW
def Q8p:=dY 0xa9783e001
def Q8q:=dY 0x157171332f079f0116102571713d1f1a2 Q8p
def Q8r:=dY 0x101e78221d2
def TE:=dY 0x2f06a0f064740f292
def Q8s:=dY 0x101e78223b2
def Q8t:=dY 0x105522f015c012076f102575747105d1f014c33414f375 Q8s
def Qaz0:=dZ 0x621026f02d5d08001782233409080706050401030201000b0aa .skip Q8t
def s_l3Gen_fn_7:=dZ 0x80905030201e042571f01401042070800802b912a3 Qaz0
def T3:=dZ 0x76100683e78363c21
def Qaz1:=dZ 0x19092af05041046f025b4703f04710f004720f04770f084700f000f06401042070801eb12 s_l3Gen_fn_7 TE T3
def Qawb:=dZ 0x905031036f02d4d0801b21 Qaz1 Q8r
def Qawc:=dZ 0x90503104122f010220708001c1801371 Qawb Q8q
def Qawd:=dZ 0x940030201e032271f0142800800e61 Qawc
def Qawe:=dW 0x9300040201e0223718f7008f700871 [Qawd] [] [fI 9 (.fH 1 [.k (.c (.str [97])),.k (.c (.str [98])),.k (.c (.str [99]))]),fI 11 (.sli 1 (.t 9) none (some (.t 10)))]
def Qbca:=dZ 0x930004057171332f0611 Qawe
abbrev RR:List RS:=[.cell 6 3 true]
theorem Qba0:mFn prog Q23 3 61 Qbca RR=true:=ZW
def VI:=dY 32897
def Q6a:=dZ 0x872102f00211083
def VH:=dY 33121
def Q6b:=dZ 0x872102f00211163
def Q6c:=dZ 0x1120f80039f1f0043800e30
def Q6d:=dZ 0x190916f113101d6d036013338001180210610142 Q6b VH Q6c
def Q2a:=dZ 0x900680d3911300344050118025009512 Q6d
def VG:=dY 0x990029f286f054192
def Q6e:=dZ 0x721101d7d18161721 .skip VG
def Q6f:=dZ 0x1909500411200f003112 Q2a [] Q6e
def Q19:=dZ 0x19096121046f1f0380d050120204412 Q6a VI Q6f
def Qaco:=dZ 0x91102f0090121 Q19
abbrev Ac:List RS:=[.tmp 2]
theorem Qpw:mFn prog VB 1 26 Qaco Ac=true:=ZW
def Qtl:=dY 2687089
def Qtm:=dY 2752609
def Qtn:=dY 69610959393 Qtm
def Qal3:=dZ 0x30050d90079f1f0147801c30
def Qal4:=dW 0x9003005108f1800806801e400142 [Qal3] [Qtn] [aJ 33 TK [.t 31,.t 32]]
def Qag5:=dZ 0x900681b31bf00300602f05a0f062b40f02b10f042b20f02b70f082b00f000f06478013912 Qal4
def Qal5:=dZ 0x74107a0049f6802721
def Qal6:=dZ 0x9610201e022175800802351 Qal5
def Qal7:=dZ 0x1909500400300510125ed046f1f036f026f41c01002070800d612 Qag5 Qtl Qal6
def Qal8:=dZ 0x9030040c80069f05c0c21 Qal7
def Qag4:=dZ 0x930030b80059f0102207700851 Qal8
def Qawa:=dZ 0x9002054f00411 Qag4
theorem Qauz:mFn prog Q2f 2 40 Qawa Ab=true:=ZW
def Qxk:=dY 0x29584ef81014fb80c14f003
def Qxl:=dY 0x147100432f051 Qxk
def Vg:=dY 0x3f6a0f063240f1f2
def s_l3Gen_expr_3:=dZ 0x874100484e58462121203
def Qxm:=dY 0x1b683e0b33164ffa5a33034fda2e54fca2d14f8a2914f4a2514f007
def Qxn:=dY 0x157171332f069f03605a334a2514f304 Qxm
def Qxo:=dY 0x4b784e001
def Qxp:=dY 0x101e7832492
def Qxq:=dY 0x10db422f014ccb3d14f473 Qxp
def Qaq7:=dZ 0x13050bb0089f1f0048803a30
def Qal9:=dW 0x9001305108f010220708001002070800178323cb0e0d0c0b010a09080706050403020100100fa0142 [Qaq7] [Qxq] [aJ 70 CI [.t 65,.t 69,kI 2]]
def Qag6:=dZ 0x9006839339f001306003440501681288035512 Qal9
def Qto:=dY 0xf0244f1
def Qama:=dZ 0x874100484e784650214f3
def Qtp:=dY 0x484e0136d102471004d1f07d24c7845764f614
def Qtq:=dY 0x108f15f14f55b14f7845764f604 Qtp [aJ 96 CI [.t 91,.t 95,kI 2]]
def Qamb:=dZ 0x74110125ed569f010220708001002070807846579f0a6f086f046f036f41c0100207080510ff121110060f0e0a06050e0d0c0b0a0908070604030201001713a2 .skip Qtq
def Qamc:=dZ 0x19094ff23041026f025bd01002070804a512 Qama Qto Qamb
def Qamd:=dZ 0x1909500400130500f008112 Qag6 [] Qamc
def Qame:=dZ 0x901304147100432f079f0120d6f102471004d1f0168023241 Qamd Qxo
def Qxj:=dZ 0x9130310525bd0501012070800100207080010120708022e110f0e0c0b0703100f0e030d0c0b0a090807060504030201001910a2 Qame Qxn
def Qamf:=dZ 0x190920f03041046f025b3203f03210f003220f03270f083200f000f02405010120708013c12 s_l3Gen_expr_3 Vg Qxj
def Qamg:=dW 0x90303108f1800102207080010020708009a0b07030a090807060504030201000e0aa2 [Qamf] [Qxl] [aJ 18 CI [.t 12,.t 16,.t 17]]
def Qazz:=dZ 0x92003047100432f0411 Qamg
abbrev Bm:List RS:=[.cell 4 4 true]
theorem Qayb:mFn prog Q69 2 99 Qazz Bm=true:=ZW
def FJ:=dY 33041
def Qbm2:=dZ 0x872102f00211113
def Qbm3:=dZ 0x1120a80039f1f004500930
def Qbm4:=dW 0x1909d113108f0101133800118120b610142 [Qbm2,Qbm3] [FJ] [aJ 16 EQ [.t 15]]
def Qbim:=dZ 0x9006808341130034405013120004512 Qbm4
def Hn:=dY 0xf90029f2f03a1f2
def FI:=dY 0x108f03710f1823720f002f04a036f052b40f02b50f02b10f1812b20f0015a Hn [.e (some 30) (some (27,true)) (.call GL [.t 29,kI 4])]
def Qbm5:=dW 0x721108f0118021231 [] [FI] [aJ 20 EQ [.t 19]]
def Qbm6:=dZ 0x1909500411200f003112 Qbim [] Qbm5
def Yu:=dZ 0x91102f0090121 Qbm6
theorem Iv:mFn prog Gy 1 32 Yu Ac=true:=ZW
def Ga:=dY 0x490039f0704142
def IB:=dZ 0x1130b80049f1f004500a30
def Qbih:=dW 0x90113108f0102201334800118023800c800142 [IB] [Ga] [aJ 19 GM [.t 18]]
def Qbb6:=dZ 0x90068093401140034405014020005512 Qbih
def Qbii:=dZ 0x7210590029f3801521
def Qbij:=dZ 0x19095004011300f004112 Qbb6 [] Qbii
def Qbik:=dZ 0x911200f00311 Qbij
def Qbq2:=dZ 0x91100f0090121 Qbik
theorem IR:mFn prog FA 1 22 Qbq2 Ac=true:=ZW
def Qa6c:=dZ 0x872101f00211033
def Gl:=dZ 0x72100f00211
def Qa6e:=dZ 0x19093102003112 Qa6c [] Gl
def IC:=dZ 0x90100f00211 Qa6e
theorem Qbg7:mFn prog LP 1 4 IC Ac=true:=ZW
def E3:=dY 3735633
def Qx2:=dY 0xca0049f015c012311026f103575747105d1f014c2a4
def Qx3:=dY 0x1036f02d5d291 Qx2
def Qx4:=dY 0x4b0049f015c342
def Qx5:=dY 17363761 Qx4 [aJ 51 Sx [.t 48,.t 50]]
def Qx6:=dY 0xc0049f015c012036f102575747105d1f014c3e4
def Qx7:=dY 0xac0049f015c012046f102575747105d1f0224c484
def Qx8:=dY 0x1026f02d5d080462 Qx7
def Qx9:=dY 0x4d0049f015c012036f102575747105d1f014c0130c6f102471004d1f014c506
def Qya:=dY 0xfd685e001
def Qtt:=dY 0x157574710532f069f013412056f103575747105d1f5f2 Qya
def Qtu:=dY 0x1022d4d1f014180080014c5a5 Qtt
def Qtv:=dY 0xf024651
def Qtw:=dY 0x101e68426a2
def Qamo:=dZ 0x8611022d4d1f0141800806640653 .skip Qtw
def Qxz:=dZ 0x7410ce0049f015c68566b31
def Qamp:=dZ 0x190965f40041026f025bd010020708060512 Qamo Qtv Qxz
def Vo:=dY 0x775f06d9f2f06a0f02e140f763
def Qtx:=dY 0x7c5f0049f015c012076f102575747105d1f014c7a4
def Qx0:=dZ 0x87411026f02d5d08078216d3 .skip Qtx
def Qamq:=dW 0x196df0032036f025be103f0e110f00e120f0e170f08e100f000b6f0245806e810940031036f02d5d0805821553 [Qamp,Qx0] [Qtu,Vo]
def Qamr:=dW 0x955f300407d0559f0b6f0445805631741108f0804e214b3 [Qamq] [Qx9] [aJ 79 S3 [.t 78]]
def Qams:=dW 0x94bf30040dc04b9f086f0245804c31741108f0804421413 [Qamr] [Qx8] [aJ 69 S3 [.t 68]]
def Qamt:=dZ 0x941f300403c0419f076f02458042317411036f02d5d0803c21353 Qams Qx6
def Qamu:=dZ 0x935f30040bb0359f03f2a026f047040f187000f00076f04458036717411036f02d5d08008030312d3 Qamt Qx5
def Qamv:=dZ 0x92df30040fa02d9f056f0445802e31741104292d279f080289f010220708001002070801fa0e0d0c0b0a080907060504030201000f0fa2143 Qamu Qx3
def Qty:=dY 0x7f5f0041
def Vf:=dW 0x741108f1800807d31 [] [Qty] [aJ 127 TL [.t 125,.t 126]]
def Qamw:=dZ 0x1909e30040e90149f2f06a0f062f40f02f50f02f10f022f20f02f70f082f00f00036f04458015b10042 Qamv [] Vf
def Qamx:=dZ 0x9300310d6f025bd01002070800f51 Qamw E3
def Qamy:=dZ 0x90020201e042571f014010420770600791 Qamx
def Qaz3:=dZ 0x9002054f00411 Qamy
theorem Qayd:mFn prog TK 2 128 Qaz3 Ab=true:=ZW
def HI:=dY 0x3f3a0f021440f0d2
def Q4p:=dY 6820257793
def s_l2Expr_2:=dZ 0x87611012ffd1800800f310e3 .skip Q4p
def Q4q:=dY 0xf024141
def Q4r:=dY 0x684e0136102471004d1f014c1d3
def Q4s:=dY 0x108f1f014280180080185 Q4r [aJ 28 CI [.t 24,.t 25,.t 27]]
def Qbbw:=dZ 0x876110125ed0b6f0c6f0b6f31c0801531143 .skip Q4s
def Q4t:=dY 1704049
def Q4u:=dY 0x684e0132a102471004d1f0524c2d3
def Q4v:=dY 0x108f1f014280180080285 Q4u [aJ 44 CI [.t 40,.t 41,.t 43]]
def Qa3p:=dW 0x761108f1f0142801800807802261 [] [Q4v] [aJ 39 CI [.t 35,.t 36,.t 38]]
def Qa3q:=dZ 0x903000510125ed0a6f096f086f076f066f056f046f036f036f91c0801f31 Qa3p Q4t
def Q4o:=dZ 0x1909d300051076f025bd08012212 Qbbw Q4q Qa3q
def Qa3r:=dZ 0x19097300051046f025b1403f081400f00026f0445008512 s_l2Expr_2 HI Q4o
def Qbmw:=dZ 0x930004047100432f0611 Qa3r
abbrev EH:List RS:=[.cell 6 4 true]
theorem P8:mFn prog CI 3 47 Qbmw EH=true:=ZW
def HW:=dY 0xe80029f2f03a01580f0d3
def TS:=dY 0x118f081500f002f03a046f050b40f08f50b00f00058 HW [gT 7 5 (.lens (.t 6)),.e (some 12) (some (10,true)) (.call DT [.t 11])]
def Qawp:=dW 0x721108f200321 [] [TS] [aJ 4 DU [.t 3,kI 1]]
def Qa7s:=dZ 0x90102f00211 Qawp
theorem NN:mFn prog EQ 1 15 Qa7s Ac=true:=ZW
def T1:=dY 33057
def Qa5g:=dZ 0x874102f00411123
def Gm:=dZ 0x30030b80059f1f004400a30
def Qa5i:=dW 0x1909c3004108f1800560153700800c610142 [Qa5g,Gm] [T1] [aJ 17 To [.t 15,.t 16]]
def Qaz6:=dZ 0x90068093330040024405600006412 Qa5i
def Cc:=dZ 0x74103f00411
def Qa5k:=dZ 0x19095004300300f005112 Qaz6 [] Cc
def Qbin:=dZ 0x900202f00411 Qa5k
theorem K0:mFn prog GL 2 19 Qbin Ab=true:=ZW
def T5:=dY 0xb90039f06041b2
def T4:=dY 0x108f1a9f0604891914f695951734f144 T5 [aJ 26 GM [.t 25]]
def Qa4u:=dZ 0x2030c80049f1f004600b30
def Qa4v:=dW 0x90203108f139f010420153480080159f0103201534800803800dc0f0e0d070c0a060c0b0a09080504030201001210a0142 [Qa4u] [T4] [aJ 19 GM [.t 18]]
def Qazx:=dZ 0x900680a3502040024405702007412 Qa4v
def Qa4w:=dZ 0x7210c90029f3801c21
def Qa4x:=dZ 0x19095004020300f004112 Qazx [] Qa4w
def Qa4y:=dZ 0x92020680039f05400531 Qa4x
def Qbil:=dZ 0x90100f00211 Qa4y
theorem KK:mFn prog GM 1 29 Qbil Ac=true:=ZW
def Qbb5:=dW 0x9002008f0411 [KS] [] [fI 4 (.mv (.k (.c (.str []))))]
theorem Qbaz:mFn prog NU 2 12 Qbb5 Ab=true:=ZW
def Q2r:=dY 7864401
def Q2s:=dY 0x201e022887123
def Q2t:=dY 0x102122f011c5800f3 Q2s
def Qawg:=dZ 0x74100485e0122111f103575747105d1f014c38465801451
def Qawh:=dZ 0x90033104122f010220708001c700871 Qawg Q2t
def Qawi:=dW 0x900204108f500621 [Qawh] [Q2r] [aJ 7 Va [.t 6]]
def Qa4z:=dZ 0x90203057574710532f190321 Qawi
abbrev NI:List RS:=[.cell 4 5 true]
theorem Qa2t:mFn prog Sx 2 24 Qa4z NI=true:=ZW
def Qxh:=dY 0x284e013076f102471004d1f0724c0111f102471004d1f0b4
def Qxi:=dY 0x10125ed20814f0a2 Qxh
def Qaq6:=dZ 0x7211026f02d5d049f0f116f086f106f106f106f61c010020740059f200370b0a09080705010605040302000d0ca2 .skip Qxi
def Qazy:=dZ 0x9102047100432f0211 Qaq6
abbrev Ag:List RS:=[.cell 2 4 true]
theorem Qaya:mFn prog S3 1 14 Qazy Ag=true:=ZW
def Sa:=dY 6803546113
def Qxt:=dY 0x157574710532f051 Sa
def Qxu:=dY 0x108f0111f102471004d1f102 Qxt [aJ 17 Sx [.t 9,.t 16]]
def Qxv:=dY 0x49684e001
def Qxw:=dY 8978545
def Qxx:=dY 0xa885e001
def Qxy:=dY 0x1b0049f0725c013412066f103575747105d1f6842a64f5852964f305
def Qaq8:=dZ 0x741102522f015c8856780014c684658562970908070100060504030201000c0aa2 .skip Qxy
def Qaq9:=dZ 0x9000540201e04257026f01401042070800802191 Qaq8
def Qara:=dZ 0x9000405157574710532f089f012511026f103575747105d1f014c013046f102471004d1f0124c1f111f102471004d1f68460158121991 Qaq9 Qxx
def Qaml:=dZ 0x9004041022d4d1f0141800801541 Qara Qxw
def Qamm:=dZ 0x903004147100432f069f012026f102471004d1f0158121241 Qaml Qxv
def Qamn:=dZ 0x9300310125ed056f0f1f036f026f51c01002070800800971 Qamm Qxu
def Qaz2:=dZ 0x9002054f00411 Qamn
theorem Qayc:mFn prog TL 2 50 Qaz2 Ab=true:=ZW
def HF:=dY 0x3f3a0f021040f0b2
def Q41:=dY 0x484e0111f102471004d1f102
def s_l2Leaf_2:=dZ 0x874110125edff6f646f106f0f6f076f056f036f026f1f0fa1c0800d310c3 .skip Q41
def Q42:=dY 0x484e012026f102471004d1f142
def Gb:=dZ 0x741101292d1800801131 .skip Q42
def Qbb4:=dZ 0x1909720041036f025b1003f081000f000f024053005612 s_l2Leaf_2 HF Gb
def Qbmz:=dZ 0x92003047100432f0411 Qbb4
theorem P5:mFn prog FN 2 21 Qbmz Bm=true:=ZW
def Gf:=dY 5168955650
def Qbhz:=dZ 0x874102f00411113
def Qbh1:=dW 0x1909b3004118f08f700800c410142 [Qbhz,Gm] [Gf] [fI 14 (.idx (.t 12) (.t 13)),aJ 15 RW [.t 14]]
def Qbbe:=dW 0x90068093330040024408f600006412 [Qbh1] [] [fI 8 (.lens (.t 7))]
def Qbh2:=dW 0x7410490049f0f06408f0801241 [] [] [fI 19 (.lens (.t 18))]
def Qbh3:=dZ 0x19095004300300f005112 Qbbe [] Qbh2
def YU:=dZ 0x900202f00411 Qbh3
theorem IN:mFn prog DU 2 21 YU Ab=true:=ZW
def Ge:=dY 5767217
def Qbh5:=dZ 0x872103f00211113
def Qbh6:=dZ 0x2030b80049f1f004500a30
def Qbh7:=dZ 0x1909c0204001240800101134803800c610142 Qbh5 [] Qbh6
def Qbbf:=dZ 0x90068093402040024405301006412 Qbh7
def Qbh8:=dZ 0x72102f00211
def Qbh9:=dZ 0x19095004020300f004112 Qbbf [] Qbh8
def Qbia:=dW 0x9202108f0511 [Qbh9] [Ge] [aJ 5 SD []]
def Qbq0:=dZ 0x90102f00211 Qbia
theorem IT:mFn prog DT 1 18 Qbq0 Ac=true:=ZW
def EN:=dY 0x3f7a0331e40f41e1255f51e1115f164
def HE:=dY 0x108f01e10f2801e20f01e50f01e10f2821e20f0003f4a01280f0d9 EN [.e (some 21) (some (15,false)) (.call FM [.t 20])]
def s_l3Stmt_2:=dZ 0x874102f00411173
def Q44:=dY 0x3f7a2f034aa0f08f05110f2815120f04a00f04a80f584a00f000331f1f24a [] [gT 43 40 (.bin 0 .neq (.t 42) (.k (.c (.str []))))]
def Qbce:=dZ 0x874102f004112d3
def Q45:=dY 33713
def Qbcf:=dZ 0x874102f004113b3
def Qbcg:=dZ 0x301304b0069f1f0046803330
def Qbch:=dW 0x19093bf3014108f046014368001282235610142 [Qbcf,Qbcg] [Q45] [aJ 58 SO [.t 57]]
def Qa5f:=dZ 0x9006832332f301400344050128226802e512 Qbch
def Qa47:=dZ 0x874102f00411463
def Qa48:=dZ 0x874102f004115f3
def HP:=dY 0xbe0049f2f05a6b2
def T2:=dY 0x108f1f01cb40f18cb00f0cb10f284cb20f00656 HP [.e (some 106) (some (101,true)) (.call GL [.t 103,.t 105])]
def Qa49:=dW 0x741108f1f0141800128326051 [] [T2] [aJ 100 GL [.t 97,.t 99]]
def Qa5a:=dZ 0x19095ff013003f0da2f03a0a0f066f03b540f0b510f280b520f0a000f2f03a0a0f056f03ab40f0ab10f280ab20f0a000f0f06a040f0a050f0a010f283a020f002f03a056f039740f09710f2809720f000f064050128424719f12 Qa48 [] Qa49
def Qa5b:=dZ 0x190946f01302f06a0d6f037f40f07f10f007f20f0f047f30f07f10f2827f20f00086f0240128023cb12 Qa47 [] Qa5a
def Qa5c:=dZ 0x19095004301300f006112 Qa5f [] Qa5b
def Qa5d:=dW 0x19092df013108f01281258020412 [Qbce,Qa5c] [Q44] [aJ 35 EQ [.t 34]]
def Q43:=dZ 0x920130f90059f03f3a026f023640f03610f2803620f001f0240128021891 Qa5d
def Qa5e:=dZ 0x190917f0131086f1f03801203f01210f701220f001f04450076100f0b0a0e0d0c0b0a090807060504030201001311a22 s_l3Stmt_2 HE Q43
def Qbm8:=dZ 0x901202f0049f190221 Qa5e
theorem PZ:mFn prog To 2 108 Qbm8 Ab=true:=ZW
def Qa7n:=dZ 0x87410590049f5801521143
def Qa7o:=dZ 0x20130c80059f1f004500b30
def Qa7p:=dZ 0x1909e2014001241800100201335800128020d810142 Qa7n [] Qa7o
def Qa1e:=dZ 0x900680a3420140034405014020006512 Qa7p
def Cb:=dZ 0x74107f00411
def Qa7r:=dZ 0x19095004201300f005112 Qa1e [] Cb
def Qbjc:=dZ 0x901200f0049f190221 Qa7r
theorem Qbg9:mFn prog LN 2 22 Qbjc Ab=true:=ZW
def Qtr:=dY 0x2f06a0f062340f02350f02310f022320f02370f082300f000f024109
def Qts:=dY 1703969
def Qamh:=dZ 0x8721104292d01022070800100207080199a0af2183 .skip Qts
def Qami:=dW 0x7210da0029f08f1f004186f0a40103207080186f0a4010320708022dd0df2 [] [] [fI 45 (.slis (.k (.c (.str [97,98,99,100,101,103,104,105,106,107,108,109,110,112,113,114,115,116,117,118,119,120,121,122]))) (some (.t 38)) (some (.t 44)))]
def Qamj:=dZ 0x190918f021096f025bd01002070800b512 Qamh Qtr Qami
def Qamk:=dZ 0x9010201e032571f004010320730200391 Qamj
def Qawf:=dW 0x901008f0211 [Qamk] [] [fI 2 (.mv (.k (.c (.str []))))]
theorem Qau0:mFn prog Va 1 46 Qawf Ac=true:=ZW
def T6:=dY 0x490119f0f074142
def Qa3b:=dZ 0x87210046f00211153
def Qa3c:=dW 0x915f10b90159f03f2a18f083000f0008f08016717210036f00211113 [Qa3b] [] [fI 23 (.bin 0 .eql (.t 22) (.k (.c (.int .u8 32)))),gF 26 24 (.bin 0 .eql (.t 25) (.k (.c (.int .u8 10))))]
def Qa3d:=dW 0x911f02108f08012217210026f002110a3 [Qa3c] [T6] [eI 19 (.call Q9f [.k (.c (.str [40,41,123,125,59,44,43,45,42,47,37,60,61,38,33,64])),.t 18])]
def Qa3e:=dW 0x990200900a9f2f02a18f081b00f0008f0800b7172101f00211033 [Qa3d] [] [fI 12 (.bin 0 .geq (.t 11) (.k (.c (.int .u8 48)))),gT 15 13 (.bin 0 .leq (.t 14) (.k (.c (.int .u8 57))))]
def Qa3g:=dW 0x19092020980039f2f02a18f60d00f0008f3004710042 [Qa3e,Gl] [] [fI 5 (.bin 0 .geq (.t 4) (.k (.c (.int .u8 97)))),gT 8 6 (.bin 0 .leq (.t 7) (.k (.c (.int .u8 122))))]
def Qbh4:=dZ 0x90100f00211 Qa3g
theorem KL:mFn prog RW 1 28 Qbh4 Ac=true:=ZW
def Qao0:=dW 0x7010180009f08f0121 [] [] [fI 1 (.fH 1 [.k (.c (.str [102,110])),.k (.c (.str [108,101,116])),.k (.c (.str [115,97,121])),.k (.c (.str [112,117,116])),.k (.c (.str [105,102])),.k (.c (.str [101,108,115,101])),.k (.c (.str [108,111,111,112])),.k (.c (.str [98,97,99,107])),.k (.c (.str [100,111]))])]
def Qawq:=dZ 0x90014f00011 Qao0
abbrev TG:List RS:=[.tmp 0]
theorem Q7r:mFn prog SD 0 2 Qawq TG=true:=ZW
def Qbb7:=dZ 0x87210026f00211043
def Qbb8:=dZ 0x72101f00211
def Qbb9:=dZ 0x1909410046f0242003212 Qbb7 [] Qbb8
def Qbm0:=dZ 0x90100f00211 Qbb9
theorem Qbmb:mFn prog FM 1 5 Qbm0 Ac=true:=ZW
def HZ:=dY 0x980029f2f03a1e6f050b40f083
def V1:=dY 0x108f440b60f00053 HZ [.e (some 7) (some (5,true)) (.call RV [.t 6])]
def Qahq:=dW 0x721108f1460321 [] [V1] [aJ 4 Hr [.t 3,kI 6]]
def Qaru:=dZ 0x91102f0090121 Qahq
theorem Q2i:mFn prog SO 1 10 Qaru Ac=true:=ZW
def Db:=dZ 0x87410190049f5801121103
def Qa34:=dW 0x1909a30040012418008f700800c510142 [Db,Gm] [] [fI 14 (.idx (.t 12) (.t 13))]
def Qazs:=dW 0x90068093330040024408f600006412 [Qa34] [] [fI 8 (.lens (.t 7))]
def Qa36:=dZ 0x19095004300300f005112 Qazs [] Cb
def Qbie:=dZ 0x900200f00411 Qa36
theorem Qbg2:mFn prog Q9f 2 18 Qbie Ab=true:=ZW
def Q4y:=dY 0xe80d80059f41b30b0d9fc80095
def EO:=dY 0x3f7a02e80f1e2
def HH:=dY 0x10123802e03f682e00f582e00f02e50f02e10f2832e20f0003f4a02280f159 EO
def s_l2Form_3:=dZ 0x874102f004111f3
def HG:=dY 0x3fcba2f0378a0f0f038140f08110f2818120f07800f1f037840f07810f2807820f0003f4a06c80f3ac
def Q4z:=dY 0x1ff6f0f03806c03f06c10f2816c20f0003f7a2f035aa0f08f06110f2826120f05a00f05a80f785a00f000331f1f2ce HG [gT 51 48 (.bin 0 .neq (.t 50) (.k (.c (.str []))))]
def s_l2Form_6:=dZ 0x874102f00411453
def Q40:=dY 34129
def Qbbx:=dZ 0x874102f00411553
def Qbby:=dZ 0x50130cc0089f1f0048804b30
def Qa3s:=dW 0x190955f5014108f1f01418004601438800128324d810142 [Qbbx,Qbby] [Q40] [aJ 84 Hr [.t 81,.t 83]]
def Qazq:=dZ 0x900684a34af5014003440501283288046512 Qa3s
def Q4w:=dZ 0x19095004501300f008112 Qazq [] Cc
def Qa3u:=dW 0x190945f013108f01282278028412 [s_l2Form_6,Q4w] [Q4z] [aJ 43 EQ [.t 42]]
def Q4x:=dZ 0x9401307a0079f03f3a0d6f024640f04610f2804620f00026f0240128022091 Qa3u
def Qa3v:=dZ 0x19091ff01310d6f1f03802203f02210f2802220f001f0441800f612 s_l2Form_3 HH Q4x
def Qa3w:=dW 0x902014108f017020a31 [Qa3v] [Q4y] [aJ 12 Tq [.t 11]]
def Qbmx:=dZ 0x901202f0049f190221 Qa3w
theorem P7:mFn prog Hr 2 86 Qbmx Ab=true:=ZW
def ON:=dY 0x390039f0604132
def Qa3y:=dW 0x90113108f04601434800118323800c700142 [IB] [ON] [aJ 18 RV [.t 17]]
def Qazr:=dZ 0x90068093401140034405014320005512 Qa3y
def Qa3z:=dZ 0x7210490029f3801421
def Qa30:=dZ 0x19095004011300f004112 Qazr [] Qa3z
def Qa31:=dZ 0x911201f00311 Qa30
def Qbid:=dZ 0x91100f0090121 Qa31
theorem Qbg1:mFn prog RV 1 21 Qbid Ac=true:=ZW
def Qbbz:=dZ 0x420780059f026f22407208053
def Qbb0:=dZ 0x3420a80089f0c6f5240a208083
def Qbb1:=dZ 0x870220036f00f002210b3
def Gd:=dZ 0x9b10c800b9f0d6f7240c21702201f01f00221083 Qbb1
def Gc:=dZ 0x19093420980089f0b6f42409212702200f00f00221053 Qbb0 [] Gd
def Qbb2:=dZ 0x19090420680059f1f12406212004 Qbbz [] Gc
def Hs:=dZ 0x70220026f0026f00221
def Qbb3:=dZ 0x19094103004112 Qbb2 [] Hs
def Qbmy:=dZ 0x90100f00f00221 Qbb3
abbrev Dt:List RS:=[.tmp 2,.tmp 3]
theorem P6:mFn prog Tq 1 13 Qbmy Dt=true:=ZW
def Qa37:=dW 0x8010780009f08f500630053 [] [] [fI 7 (.sli 1 (.t 6) none (some (kI 2000)))]
def OM:=dY 0xa80021
def N5:=dZ 0x7211052f01010172d1f700831 .skip OM
def Qa38:=dZ 0x1909402007d09f064052003312 Qa37 [] N5
def Qbif:=dZ 0x90108f00211 Qa38
theorem Qbg3:mFn prog LT 1 11 Qbif Ac=true:=ZW
def E8:=dY 0x880049f0f074082
def Q5b:=dZ 0x7411012e8d40400531 .skip E8
def Qach:=dZ 0x900202f00411 Q5b
theorem Q9z:mFn prog VE 2 9 Qach Ab=true:=ZW
def Qa03:=dZ 0x8721014f00211043
def Q8w:=dY 7864353
def Qa04:=dZ 0x721101122f5001c0531 .skip Q8w
def Qa05:=dW 0x1909302008f2003212 [Qa03,Qa04] [] [eI 4 (.nilq (.t 3))]
def Kp:=dZ 0x901014f00211 Qa05
theorem Qba1:mFn prog NT 1 8 Kp Ac=true:=ZW
def Qav8:=dZ 0x7610e80069f2f03a0151540f281500f081500f00015470500791
def Qa3a:=dZ 0x9000302f00611 Qav8
theorem NO:mFn prog T8 3 15 Qa3a Ad=true:=ZW
def Qahl:=dZ 0x97013006004142f010113700801800b61 Db
def DY:=dZ 0x50040290089f1f88041220
def Qahn:=dZ 0x19090130050a80059f100a210142 Qahl [] DY
def Qacl:=dZ 0x90009b005005010440911 Qahn
def Qahp:=dZ 0x190950040500400f0055006312 Qacl [] Cb
def Mm:=dZ 0x900200f00411 Qahp
theorem Qapt:mFn prog Qvn 2 19 Mm Ab=true:=ZW
def TU:=dY 4718625
def Qavz:=dZ 0x7211ff6f0f0336d200321 .skip TU
def Qa28:=dZ 0x90102f00211 Qavz
theorem NP:mFn prog TA 1 5 Qa28 Ac=true:=ZW
end Go.AE.Y
namespace Go.AE
variable {P:Program}{H:Heap}{g:G}{w:World}{e:Env}
def Obj.used:Obj→Bool
 |.none=>false
 |_=>true
def Heap.frz (H:Heap)(S:Nat→Bool):Heap:=fun l=>if S l then .none else H l
def G.frz (g:G)(H:Heap)(S:Nat→Bool):G:=
 { g with
  per:=fun b=>g.per b || (match g.own b with
   |some (l,_)=>S l&&(H l).used
   |none=>false)
  own:=fun b=>match g.own b with
   |some (l,p)=>if S l&&(H l).used then none else some (l,p)
   |none=>none }
theorem Fk (H:Heap)(S:Nat→Bool)(g:G)(w:World):Le g w (g.frz H S) w:=
 ⟨fun b h=>⟨by simp[G.frz,h],rfl⟩,fun _ _ h=>h,Jae _,fun _ _ _ h=>h,rfl,rfl,rfl⟩
theorem Hp {S:Nat→Bool}{m:Nat}(hm:¬(S m=true∧(H m).used=true)):Cp g w (g.frz H S) w m:=by
 intro b q hb;refine⟨?_,rfl⟩;have:¬(S m&&(H m).used)=true:=by simpa using hm
 simp only[G.frz,hb];rw[if_neg this]
theorem C3 (hs:Sat H g w)(S:Nat→Bool):Stp H g w (H.frz S) (g.frz H S) w:=by
 have aE:=Fk H S g w;refine⟨aE,fun m hm hn=>?_,⟨fun b hb=>?_,hs.names,fun b x hb=>?_,fun b m p hb=>?_,fun m=>?_⟩⟩
 ·refine⟨by simp only[Heap.frz,hn];split <;> rfl,?_⟩;exact Hp (by rw[hn];simp[Obj.used])
 ·obtain⟨h1,h2⟩:=hs.fresh b hb;simp[G.frz,h1,h2]
 ·have br:(match g.own b with
   |some (l,p)=>if S l&&(H l).used then none else some (l,p)
   |none=>none)=some x:=hb
  show (g.per b || (match g.own b with
   |some (l,_)=>S l&&(H l).used
   |none=>false))=false
  cases ho:g.own b with
  |none=>rw[ho]at br;simp at br
  |some y=>
   obtain⟨l,p⟩:=y;rw[ho]at br;simp only at br⊢;have:=hs.excl b _ ho;by_cases hx:(S l&&(H l).used)=true
   ·rw[if_pos hx]at br;simp at br
   ·simp[this,hx]
 ·have br:(match g.own b with
   |some (l,p)=>if S l&&(H l).used then none else some (l,p)
   |none=>none)=some (m,p):=hb
  cases ho:g.own b with
  |none=>rw[ho]at br;simp at br
  |some y=>
   obtain⟨l,q⟩:=y;rw[ho]at br;simp only at br;by_cases hx:(S l&&(H l).used)=true
   ·rw[if_pos hx]at br;simp at br
   ·rw[if_neg hx]at br;simp at br;obtain⟨rfl,rfl⟩:=br;exact hs.named b _ _ ho
 ·by_cases hS:S m=true
  ·simp[Heap.frz,hS,SatObj]
  ·have dg:H.frz S m=H m:=by simp[Heap.frz,hS]
   have hk:Cp g w (g.frz H S) w m:=Hp (by simp[hS]);refine SatObj.keep (H':=H.frz S) hs aE hk dg fun m' v left cur hc v' es hv=>?_;by_cases lj:S m'=true
   ·simp[Heap.frz,lj]at hv
   ·have:H.frz S m'=H m':=(by simp[Heap.frz,lj]);rw[this]at hv;exact .inl ⟨hv,Hp (by simp[lj])⟩
inductive FrzC (H:Heap)(S:Nat→Bool):C→C→Prop
 |same (c:C) (h:c.ah=false):FrzC H S c c
 |sl (fl:Bool) (sz:Nat) (rows rows':List (List C)) (hl:rows'.length=rows.length) (hr:∀(i:Nat) (r r':List C),rows[i]? = some r→rows'[i]? = some r'→r'.length=r.length)
   (hc:∀(i:Nat) (r r':List C) (j:Nat) (c c':C),rows[i]? = some r→rows'[i]? = some r'→r[j]? = some c→r'[j]? = some c'→FrzC H S c c'):FrzC H S (.sl fl sz rows) (.sl false sz rows')
 |pp (cells cells':List C) (hl:cells'.length=cells.length) (hc:∀(j:Nat) (c c':C),cells[j]? = some c→cells'[j]? = some c'→FrzC H S c c'):FrzC H S (.pp cells) (.pp cells')
 |aw (l sz st n:Nat) (all rows rows':List (List C)) (hS:S l=true) (hH:H l=.vec sz all) (hb:st+n≤all.length) (bv:rows=(all.drop st).take n)
   (hl:rows'.length=rows.length) (hr:∀(i:Nat) (r r':List C),rows[i]? = some r→rows'[i]? = some r'→r'.length=r.length)
   (hc:∀(i:Nat) (r r':List C) (j:Nat) (c c':C),rows[i]? = some r→rows'[i]? = some r'→r[j]? = some c→r'[j]? = some c'→FrzC H S c c'):FrzC H S (.aw l sz st n) (.sl false sz rows')
 |ptr (l k:Nat) (all cells cells':List C) (hS:S l=true) (hH:H l=.st all) (jY:cells=all.drop k) (hl:cells'.length=cells.length)
   (hc:∀(j:Nat) (c c':C),cells[j]? = some c→cells'[j]? = some c'→FrzC H S c c'):FrzC H S (.ptr l k) (.pp cells')
 |ow (sz:Nat) (rows rows':List (List C)) (hl:rows'.length=rows.length) (hr:∀(i:Nat) (r r':List C),rows[i]? = some r→rows'[i]? = some r'→r'.length=r.length)
   (hc:∀(i:Nat) (r r':List C) (j:Nat) (c c':C),rows[i]? = some r→rows'[i]? = some r'→r[j]? = some c→r'[j]? = some c'→FrzC H S c c'):FrzC H S (.ow sz rows) (.sl false sz rows')
theorem AG {α:Type}{l l':List α}(h:l'.length=l.length){i:Nat}{x:α}(hx:l'[i]? = some x):∃y,l[i]? = some y:=by
 have:i<l'.length:=(Jx.1 hx).1;exact⟨l[i]'ZT,Jn ZT⟩
theorem Gw {S:Nat→Bool}{b l:Nat}{p:List Nat}(ho:g.own b=some (l,p))(hS:S l=true)(hu:(H l).used=true):(g.frz H S).per b=true:=by
 simp[G.frz,ho,hS,hu]
theorem Gv (hs:Sat H g w){S:Nat→Bool}{c c':C}(h:FrzC H S c c') :
  (∀v,RepC w g c v→RepC w (g.frz H S) c' v)∧∀l p v,S l=true→(H l).used=true→RepO w g l p c v→RepC w (g.frz H S) c' v:=by
 have aE:=Fk H S g w
 induction h with
 |same c h=>
  refine⟨fun v hv=>hv.mono aE,fun l p v _ _ hv=>?_⟩;exact (hv.plain_of fun sz rows hc=>by subst hc;simp[C.ah]at h).mono aE
 |sl fl sz rows rows' hl hr hc ih=>
  have key:∀v,RepC w g (.sl fl sz rows) v→RepC w (g.frz H S) (.sl false sz rows') v:=by
   intro v hv
   cases hv with
   |bn _ _ ad=>
    have:rows'=[]:=Ju.1 ZaG;subst this;exact .bn _ _ _
   |sl _ _ _ b off cap val h1 h2 h3 h4 h5 h6 h7=>
    rw[←hl]at h1 h2 h3⊢;refine .sl false sz rows' b off cap val h1 ZV h3 (aE.per b h4).1 (fun i r' bx=>?_) (fun i r' j c' bx bU=>?_) (fun i r' j c' bx bU=>?_)
    ·obtain⟨r,bG⟩:=AG hl bx;rw[hr i r r' bG bx];exact h5 i r bG
    ·obtain⟨r,bG⟩:=AG hl bx;obtain⟨c,cq⟩:=AG (hr i r r' bG bx) bU;exact h6 i r j c bG cq
    ·obtain⟨r,bG⟩:=AG hl bx;obtain⟨c,cq⟩:=AG (hr i r r' bG bx) bU;exact (ih i r r' j c c' bG bx cq bU).1 _ (h7 i r j c bG cq)
  exact⟨key,fun l p v _ _ hv=>key v (hv.plain_of fun _ _ hc=>Zam)⟩
 |pp cells cells' hl hc ih=>
  have key:∀v,RepC w g (.pp cells) v→RepC w (g.frz H S) (.pp cells') v:=by
   intro v hv
   cases hv with
   |pp _ b off val h1 h2 h3=>
    refine .pp cells' b off val (aE.per b h1).1 (fun j c' bU=>?_) (fun j c' bU=>?_)
    ·obtain⟨c,cq⟩:=AG hl bU;exact h2 j c cq
    ·obtain⟨c,cq⟩:=AG hl bU;exact (ih j c c' cq bU).1 _ (h3 j c cq)
  exact⟨key,fun l p v _ _ hv=>key v (hv.plain_of fun _ _ hc=>Zam)⟩
 |aw l sz st n all rows rows' hS hH hb bv hl hr hc ih=>
  have key:∀v,RepC w g (.aw l sz st n) v→RepC w (g.frz H S) (.sl false sz rows') v:=by
   intro v hv;have aM:rows.length=n:=by rw[bv];simp;omega
   cases hv with
   |bD _ _ _ ad=>
    have:rows'=[]:=Ju.1 ZT;subst this;exact .bn _ _ _
   |aw _ _ _ _ cap b base T m h1 h2 h3 h4=>
    have bC:=hs.objs l;rw[hH]at bC;obtain⟨b',base',T',cs,val,r1,r2,r3,r4,r5,r6,r7,r8⟩:=SatVec.of bC h1;rw[h1]at r1;simp only[Jf,Jaf,true_and]at r1;obtain⟨rfl,rfl⟩:=r1;have ci:=Gw (g:=g) (H:=H) r2 hS Zci;have bm:∀(i:Nat) (r:List C),rows[i]? = some r→all[st+i]? = some r:=by
     intro i r hi;rw[bv,List.getElem?_take]at hi;split at hi
     ·rw[Jap]at hi;exact hi
     ·simp at hi
    have hn:n=rows'.length:=ZT;rw[hn]at h2⊢;refine .sl false sz rows' b (base+st * sz) cap (fun i j=>val (st+i) j) ZT ZV h2 ci (fun i r' bx=>?_) (fun i r' j c' bx bU=>?_) (fun i r' j c' bx bU=>?_)
    ·obtain⟨r,bG⟩:=AG hl bx;rw[hr i r r' bG bx];exact r6 _ r (bm i r bG)
    ·obtain⟨r,bG⟩:=AG hl bx;obtain⟨c,cq⟩:=AG (hr i r r' bG bx) bU;rw[Dy r3,show base+st * sz+i * sz+j=base+(st+i) * sz+j by rw[Nat.add_mul];omega];exact r7 _ r j c (bm i r bG) cq
    ·obtain⟨r,bG⟩:=AG hl bx;obtain⟨c,cq⟩:=AG (hr i r r' bG bx) bU;exact (ih i r r' j c c' bG bx cq bU).2 l _ _ hS Zci (r8 _ r j c (bm i r bG) cq)
  exact⟨key,fun l p v _ _ hv=>key v (hv.plain_of fun _ _ hc=>Zam)⟩
 |ptr l k all cells cells' hS hH jY hl hc ih=>
  have key:∀v,RepC w g (.ptr l k) v→RepC w (g.frz H S) (.pp cells') v:=by
   intro v hv
   cases hv with
   |ptr _ _ b sz base h1=>
    have bC:=hs.objs l;rw[hH]at bC;obtain⟨b',sz',T,cs,r1,r2,r3,r4,r5⟩:=bC;rw[h1]at r1;simp only[Jf,Jaf]at r1;obtain⟨rfl,rfl,rfl⟩:=r1;have ci:=Gw (g:=g) (H:=H) r2 hS Zci;have bm:∀(j:Nat) (c:C),cells[j]? = some c→all[k+j]? = some c:=by
     intro j c hj;rw[jY,Jap]at hj;exact hj
    have i5:∀(j:Nat) (c:C),all[j]? = some c→cs[j]? = some (cs.getD j undef):=by
     intro j c hj;have af:j<cs.size:=(by rw[r4];exact (Jx.1 hj).1);rw[Jq af,Ji,Jq af];rfl
    refine .pp cells' b (0+k) (fun j=>cs.getD (k+j) undef) ci (fun j c' bU=>?_) (fun j c' bU=>?_)
    ·obtain⟨c,cq⟩:=AG hl bU;rw[Dy r3,show 0+k+j=k+j by omega];exact i5 _ c (bm j c cq)
    ·obtain⟨c,cq⟩:=AG hl bU;exact (ih j c c' cq bU).2 l _ _ hS Zci (r5 _ c _ (bm j c cq) (i5 _ c (bm j c cq)))
  exact⟨key,fun l p v _ _ hv=>key v (hv.plain_of fun _ _ hc=>Zam)⟩
 |ow sz rows rows' hl hr hc ih=>
  refine⟨fun v hv=>(by cases hv),fun l p v hS hu hv=>?_⟩
  cases hv with
  |plain _ _ _ h=>cases h
  |ownil _ _ ad=>
   have:rows'=[]:=Ju.1 ZaG;subst this;exact .bn _ _ _
  |ow _ _ _ b off cap T cs val h1 h2 h3 h4 h5 h6 h7 h8=>
   have ci:=Gw (g:=g) (H:=H) h3 hS hu;rw[←hl]at h1 h2⊢;refine .sl false sz rows' b off cap val h1 ZV h2 ci (fun i r' bx=>?_) (fun i r' j c' bx bU=>?_) (fun i r' j c' bx bU=>?_)
   ·obtain⟨r,bG⟩:=AG hl bx;rw[hr i r r' bG bx];exact h6 i r bG
   ·obtain⟨r,bG⟩:=AG hl bx;obtain⟨c,cq⟩:=AG (hr i r r' bG bx) bU;rw[Dy h4];exact h7 i r j c bG cq
   ·obtain⟨r,bG⟩:=AG hl bx;obtain⟨c,cq⟩:=AG (hr i r r' bG bx) bU;exact (ih i r r' j c c' bG bx cq bU).2 l _ _ hS hu (h8 i r j c bG cq)
inductive FrzV (H:Heap)(S:Nat→Bool):V→V→Prop
 |c (a b:C) (h:FrzC H S a b):FrzV H S (.c a) (.c b)
 |ag (cs cs':List C) (hl:cs'.length=cs.length) (h:∀(j:Nat) (c c':C),cs[j]? = some c→cs'[j]? = some c'→FrzC H S c c'):FrzV H S (.ag cs) (.ag cs')
 |tup (xs xs':List V) (hl:xs'.length=xs.length) (h:∀(j:Nat) (x x':V),xs[j]? = some x→xs'[j]? = some x'→FrzV H S x x'):FrzV H S (.tup xs) (.tup xs')
 |unk (x:V):FrzV H S x .unk
theorem EI (hs:Sat H g w){S:Nat→Bool}{x x':V}(h:FrzV H S x x'):∀v,RepV w g x v→RepV w (g.frz H S) x' v:=by
 induction h with
 |c a b h=>
  intro v hv;exact .c _ _ ((Gv hs h).1 v hv.aF)
 |ag cs cs' hl h=>
  intro v hv
  cases hv with
  |ag _ vs h1 h2=>
   refine .ag cs' vs ZT fun j c' u bU hu=>?_;obtain⟨c,hc⟩:=AG hl bU;exact (Gv hs (h j c c' hc bU)).1 u (h2 j c u hc hu)
 |tup xs xs' hl h ih=>
  intro v hv
  cases hv with
  |tup _ vs h1 h2=>
   refine .tup xs' vs ZT fun j x' u fg hu=>?_;obtain⟨x,hx⟩:=AG hl fg;exact ih j x x' hx fg u (h2 j x u hx hu)
 |unk x=>exact fun v _=>.unk v
abbrev frzK (K:V→Heap→Prop):V→Heap→Prop
 |.pn v,H'=>∃S,K (.pn v) (H'.frz S)
 |x,H'=>∃S x',FrzV H' S x x'∧K x' (H'.frz S)
theorem Qbk1 {K:V→Heap→Prop}{x:V}{v:Value}(h:frzK K x H)(hr:RepV w g x v):∃S x',FrzV H S x x'∧K x' (H.frz S):=by
 cases hr <;> exact h
theorem FT {f:Nat}{args:List V}{K:V→Heap→Prop}(h:Qm P f args H (frzK K)):Qm P f args H K:=by
 refine⟨h.1,fun g w vs hs hl hv=>?_⟩;refine Calls.mono (h.2 g w vs hs hl hv) ?_;rintro e w' (⟨v,x,H',g',he,hx,aC,hr⟩|⟨v,H',g',he,hx,aC⟩)
 ·obtain⟨S,x',hf,hk⟩:=Qbk1 hx hr;exact .inl ⟨v,x',H'.frz S,g'.frz H' S,he,hk,aC.trans (C3 aC.sat S),EI aC.sat hf v hr⟩
 ·obtain⟨S,hk⟩:∃S,K (.pn v) (H'.frz S):=hx;exact .inr ⟨v,H'.frz S,g'.frz H' S,he,hk,aC.trans (C3 aC.sat S)⟩
theorem Q86 {f:Nat}{args:List V}{K K':V→Heap→Prop}(h:Qm P f args H K)(hk:∀x H',K x H'→K' x H'):Qm P f args H K':=by
 refine⟨h.1,fun g w vs hs hl hv=>?_⟩;refine Calls.mono (h.2 g w vs hs hl hv) ?_;rintro e w' (⟨v,x,H',g',he,hx,aC,hr⟩|⟨v,H',g',he,hx,aC⟩)
 ·exact .inl ⟨v,x,H',g',he,hk x H' hx,aC,hr⟩
 ·exact .inr ⟨v,H',g',he,hk _ H' hx,aC⟩
theorem Qbfv {e e':Env}(S:Nat→Bool)(h:∀t,FrzV H S (lk t e) (lk t e')):DC e H e' (H.frz S):=by
 intro g w tmps hs hr;exact⟨g.frz H S,C3 hs S,fun t=>EI hs (h t) _ (hr t)⟩
def FrzK (H:Heap)(S:Nat→Bool)(c c':C):Prop:=c'=c∨(c.ah=false∧FrzC H S c c')
inductive FrzO (H:Heap)(S:Nat→Bool):Obj→Obj→Prop
 |same (o:Obj):FrzO H S o o
 |st (cells cells':List C) (hl:cells'.length=cells.length) (h:∀(j:Nat) (c c':C),cells[j]? = some c→cells'[j]? = some c'→FrzK H S c c'):FrzO H S (.st cells) (.st cells')
 |vec (sz:Nat) (rows rows':List (List C)) (hl:rows'.length=rows.length) (hr:∀(i:Nat) (r r':List C),rows[i]? = some r→rows'[i]? = some r'→r'.length=r.length)
   (h:∀(i:Nat) (r r':List C) (j:Nat) (c c':C),rows[i]? = some r→rows'[i]? = some r'→r[j]? = some c→r'[j]? = some c'→FrzK H S c c'):FrzO H S (.vec sz rows) (.vec sz rows')
def FrzH (H:Heap)(S:Nat→Bool)(H':Heap):Prop:=∀m,(S m=true∧H' m=.none)∨(S m=false∧FrzO H S (H m) (H' m))
theorem E7 (H:Heap)(S:Nat→Bool):FrzH H S (H.frz S):=fun m=>by
 cases h:S m with
 |true=>exact .inl ⟨rfl,by simp[Heap.frz,h]⟩
 |false=>exact .inr ⟨rfl,by simp[Heap.frz,h];exact .same _⟩
theorem FrzH.set {S:Nat→Bool}{H':Heap}(h:FrzH H S H'){l:Nat}{o:Obj}(hl:S l=false)(ho:FrzO H S (H l) o):FrzH H S (H'.set l o):=fun m=>by
 by_cases hm:m=l
 ·subst hm;rw[Heap.aK];exact .inr ⟨hl,ho⟩
 ·rw[Heap.aj _ _ hm];exact h m
theorem Fs (hs:Sat H g w){S:Nat→Bool}{H':Heap}(h:FrzH H S H'):Stp H g w H' (g.frz H S) w:=by
 have h0:=C3 hs S;have aE:=h0.le;have fv:∀m,S m=false→Cp g w (g.frz H S) w m:=fun m hm=>Hp (by simp[hm]);have tf:∀(l:Nat) (p:List Nat) (c c':C) (v:Value),S l=false→FrzK H S c c'→RepO w g l p c v→RepO w (g.frz H S) l p c' v:=by
  intro l p c c' v hl hk hr;rcases hk with rfl|⟨h1,h2⟩
  ·exact hr.move aE fun q b hb=>⟨(fv l hl b _ hb).1,rfl⟩
  ·exact .plain _ _ _ _ ((Gv hs h2).1 v (hr.plain_of fun sz rows hc=>by subst hc;simp[C.ah]at h1))
 refine⟨aE,fun m hm hn=>?_,⟨h0.sat.fresh,h0.sat.names,h0.sat.excl,h0.sat.named,fun m=>?_⟩⟩
 ·refine⟨?_,Hp (by rw[hn];simp[Obj.used])⟩;rcases h m with ⟨_,h1⟩|⟨_,h1⟩
  ·exact h1
  ·rw[hn]at h1;generalize H' m=o at h1;cases h1;rfl
 ·rcases h m with ⟨_,h1⟩|⟨hS,h1⟩
  ·rw[h1];exact trivial
  ·have ho:=hs.objs m;generalize hA:H m=A at h1 ho;generalize hB:H' m=B at h1
   cases h1 with
   |same=>
    have:=SatObj.keep (H':=H') hs aE (fv m hS) (hB.trans hA.symm) fun m' v left cur hc v' es hv=>?_
    ·rw[hB]at this;exact this
    ·rcases h m' with ⟨_,h2⟩|⟨lj,h2⟩
     ·rw[h2]at hv;simp at hv
     ·rw[hv]at h2;generalize hA':H m'=A' at h2;cases h2;exact .inl ⟨rfl,fv m' lj⟩
   |st cells cells' hl hc=>
    obtain⟨b,sz,T,cs,r1,r2,r3,r4,r5⟩:=ho;refine⟨b,sz,T,cs,r1,(fv m hS b _ r2).1,r3,by rw[hl];exact r4,fun k c' v bU hv=>?_⟩;obtain⟨c,cq⟩:=AG hl bU;exact tf _ _ c c' v hS (hc k c c' cq bU) (r5 k c v cq hv)
   |vec sz rows rows' hl hr hc=>
    rcases ho with ⟨r1,r2⟩|⟨b,base,T,cs,val,r1,r2,r3,r4,r5,r6,r7,r8⟩
    ·refine .inl ⟨?_,r2⟩;subst r1;exact Ju.1 hl
    ·refine .inr ⟨b,base,T,cs,val,r1,(fv m hS b _ r2).1,r3,by rw[hl];exact r4,by rw[hl];exact r5,fun i r' bx=>?_,fun i r' j c' bx bU=>?_,fun i r' j c' bx bU=>?_⟩
     ·obtain⟨r,bG⟩:=AG hl bx;rw[hr i r r' bG bx];exact r6 i r bG
     ·obtain⟨r,bG⟩:=AG hl bx;obtain⟨c,cq⟩:=AG (hr i r r' bG bx) bU;exact r7 i r j c bG cq
     ·obtain⟨r,bG⟩:=AG hl bx;obtain⟨c,cq⟩:=AG (hr i r r' bG bx) bU;exact tf _ _ c c' _ hS (hc i r r' j c c' bG bx cq bU) (r8 i r j c bG cq)
abbrev finK (K:V→Heap→Prop):V→Heap→Prop
 |.pn v,H'=>K (.pn v) H'
 |x,H'=>∃S x' H2,FrzV H' S x x'∧FrzH H' S H2∧K x' H2
theorem YN {K:V→Heap→Prop}{x:C}:finK K (.c x) H=∃S x' H2,FrzV H S (.c x) x'∧FrzH H S H2∧K x' H2:=rfl
theorem Qbpr {K:V→Heap→Prop}{x:List C}:finK K (.ag x) H=∃S x' H2,FrzV H S (.ag x) x'∧FrzH H S H2∧K x' H2:=rfl
theorem Qbkt {K:V→Heap→Prop}{x:List V}:finK K (.tup x) H=∃S x' H2,FrzV H S (.tup x) x'∧FrzH H S H2∧K x' H2:=rfl
theorem Qbps {K:V→Heap→Prop}{v:Value}:finK K (.pn v) H=K (.pn v) H:=rfl
attribute [go_sem] YN Qbpr Qbkt Qbps
theorem Qbku {K:V→Heap→Prop}{x:V}{v:Value}(h:finK K x H)(hr:RepV w g x v):∃S x' H2,FrzV H S x x'∧FrzH H S H2∧K x' H2:=by
 cases hr <;> exact h
theorem FU {f:Nat}{args:List V}{K:V→Heap→Prop}(h:Qm P f args H (finK K)):Qm P f args H K:=by
 refine⟨h.1,fun g w vs hs hl hv=>?_⟩;refine Calls.mono (h.2 g w vs hs hl hv) ?_;rintro e w' (⟨v,x,H',g',he,hx,aC,hr⟩|⟨v,H',g',he,hx,aC⟩)
 ·obtain⟨S,x',H2,hf,hh,hk⟩:=Qbku hx hr;exact .inl ⟨v,x',H2,g'.frz H' S,he,hk,aC.trans (Fs aC.sat hh),EI aC.sat hf v hr⟩
 ·exact .inr ⟨v,H',g',he,hx,aC⟩
theorem Hz {e e':Env}(S:Nat→Bool){H2:Heap}(h:∀t,FrzV H S (lk t e) (lk t e'))(hh:FrzH H S H2):DC e H e' H2:=by
 intro g w tmps hs hr;exact⟨g.frz H S,Fs hs hh,fun t=>EI hs (h t) _ (hr t)⟩
def un (H:Heap)(m:Nat):Bool:=!(H m).used
theorem Gj {m:Nat}(h:H m≠.none):un H m=false:=by
 unfold un;cases hm:H m <;> first|rfl|exact absurd hm h
theorem BP {m:Nat}(h:H m=.none):un H m=true:=by simp[un,h,Obj.used]
theorem Fj {H':Heap}{m:Nat}(h:H m≠.none):H'.frz (un H) m=H' m:=by simp[Heap.frz,Gj h]
def C.plain:C→Bool
 |.int _ _|.bool _|.str _|.sl _ _ _|.pp _|.pnil|.mnil|.slb _|.stb _|.cm _ _ _|.fnil|.unk=>true
 |_=>false
theorem Qe {S:Nat→Bool}{c:C}(h:c.plain=true):FrzC H S c c:=.same c (by cases c <;> simp_all[C.plain,C.ah])
theorem F7 {S:Nat→Bool}{l sz n:Nat}{rows:List (List C)}(hS:S l=true)(hH:H l=.vec sz rows)(hn:n=rows.length)(hr:∀r∈rows,∀c∈r,c.ah=false):FrzC H S (.aw l sz 0 n) (.sl false sz rows):=by
 subst hn;refine .aw l sz 0 rows.length rows rows rows hS hH ZT ZV rfl (fun i r r' h1 h2=>by rw[h1]at h2;simp at h2;rw[h2]) (fun i r r' j c c' h1 h2 h3 h4=>?_);rw[h1]at h2;simp at h2;subst h2;rw[h3]at h4;simp at h4;subst h4;exact .same _ (hr r (Ja h1) c (Ja h3))
theorem IV {S:Nat→Bool}{fl:Bool}{sz:Nat}{rows:List (List C)}(hr:∀r∈rows,∀c∈r,c.ah=false):FrzC H S (.sl fl sz rows) (.sl false sz rows):=by
 refine .sl fl sz rows rows rfl (fun i r r' h1 h2=>by rw[h1]at h2;simp at h2;rw[h2]) (fun i r r' j c c' h1 h2 h3 h4=>?_);rw[h1]at h2;simp at h2;subst h2;rw[h3]at h4;simp at h4;subst h4;exact .same _ (hr r (Ja h1) c (Ja h3))
inductive FrzL (H:Heap)(S:Nat→Bool):List C→List C→Prop
 |nil:FrzL H S [] []
 |cons {c c':C} {l l':List C} (h:FrzC H S c c') (t:FrzL H S l l'):FrzL H S (c::l) (c'::l')
theorem FrzL.spec {S:Nat→Bool}{l l':List C}(h:FrzL H S l l'):l'.length=l.length∧∀(j:Nat) (c c':C),l[j]? = some c→l'[j]? = some c'→FrzC H S c c':=by
 induction h with
 |nil=>exact⟨rfl,fun j c c' h=>Zaa⟩
 |cons h t ih=>
  refine⟨Zcj,fun j c c' h1 h2=>?_⟩
  cases j with
  |zero=>simp at h1 h2;subst h1;subst h2;exact h
  |succ j=>simp at h1 h2;exact ih.2 j c c' h1 h2
theorem FrzL.ag {S:Nat→Bool}{l l':List C}(h:FrzL H S l l'):FrzV H S (.ag l) (.ag l'):=.ag _ _ h.spec.1 h.spec.2
inductive FrzKL (H:Heap)(S:Nat→Bool):List C→List C→Prop
 |nil:FrzKL H S [] []
 |same {c:C} {l l':List C} (t:FrzKL H S l l'):FrzKL H S (c::l) (c::l')
 |cons {c c':C} {l l':List C} (h:c.ah=false) (h':FrzC H S c c') (t:FrzKL H S l l'):FrzKL H S (c::l) (c'::l')
theorem FrzKL.st {S:Nat→Bool}{l l':List C}(h:FrzKL H S l l'):FrzO H S (.st l) (.st l'):=by
 have:l'.length=l.length∧∀(j:Nat) (c c':C),l[j]? = some c→l'[j]? = some c'→FrzK H S c c':=by
  induction h with
  |nil=>exact⟨rfl,fun j c c' h=>Zaa⟩
  |same t ih=>
   refine⟨Zcj,fun j c c' h1 h2=>?_⟩
   cases j with
   |zero=>simp at h1 h2;subst h1;subst h2;exact .inl rfl
   |succ j=>simp at h1 h2;exact ih.2 j c c' h1 h2
  |cons h h' t ih=>
   refine⟨Zcj,fun j c c' h1 h2=>?_⟩
   cases j with
   |zero=>simp at h1 h2;subst h1;subst h2;exact .inr ⟨h,h'⟩
   |succ j=>simp at h1 h2;exact ih.2 j c c' h1 h2
 exact .st _ _ this.1 this.2
end Go.AE
namespace Go.AE
variable {P:Program}{H0 H H':Heap}{E L:List (Nat×Obj)}
structure Kn (H0 H:Heap)(E L:List (Nat×Obj)):Prop where
 get:∀p∈E++L,H p.1=p.2∧p.2≠.none
 ext:∀p∈E,H0 p.1≠.none
 loc:∀p∈L,H0 p.1=.none
 dE:(E.map Prod.fst).Nodup
 dL:(L.map Prod.fst).Nodup
 chg:∀m,H0 m≠.none→m∉E.map Prod.fst→H m=H0 m
def Upd (H H':Heap)(U:List (Nat×Obj)):Prop:=(∀p∈U,H' p.1=p.2)∧∀m,H m≠.none→m∉U.map Prod.fst→H' m=H m
theorem Kn.ao (H:Heap):Kn H H [] []:=⟨ZV,ZV,ZV,ZV,ZV,fun _ _ _=>rfl⟩
theorem Kn.start1 {l:Nat}{o:Obj}(h:H l=o)(ho:o≠.none):Kn H H [(l,o)] []:=
 ⟨by simp[h,ho],by simp[h,ho],ZV,ZV,ZV,fun _ _ _=>rfl⟩
theorem Kn.start2 {l m:Nat}{o q:Obj}(h:H l=o)(ho:o≠.none)(h2:H m=q)(hq:q≠.none)(hn:l≠m):Kn H H [(l,o),(m,q)] []:=
 ⟨by simp[h,ho,h2,hq],by simp[h,ho,h2,hq],ZV,Zce,ZV,fun _ _ _=>rfl⟩
theorem Kn.e (hk:Kn H0 H E L)(i:Nat){l:Nat}{o:Obj}(h:E[i]? = some (l,o)):H l=o:=
 (hk.get (l,o) (Jc _ (Ja h))).1
theorem Kn.l (hk:Kn H0 H E L)(i:Nat){l:Nat}{o:Obj}(h:L[i]? = some (l,o)):H l=o:=
 (hk.get (l,o) (Jd _ (Ja h))).1
theorem Kn.free (hk:Kn H0 H E L)(i:Nat){l:Nat}{o:Obj}(h:L[i]? = some (l,o)):H0 l=.none:=hk.loc (l,o) (Ja h)
theorem Kn.un (hk:Kn H0 H E L)(i:Nat){l:Nat}{o:Obj}(h:L[i]? = some (l,o)):un H0 l=true:=BP (hk.free i h)
theorem Kn.usedE (hk:Kn H0 H E L)(i:Nat){l:Nat}{o:Obj}(h:E[i]? = some (l,o)):H0 l≠.none:=hk.ext (l,o) (Ja h)
theorem Kn.ne (hk:Kn H0 H E L)(i j:Nat){l m:Nat}{o q:Obj}(h:E[i]? = some (l,o))(h2:L[j]? = some (m,q)):l≠m:=fun hh=>by
 subst hh;exact hk.usedE i h (hk.free j h2)
theorem AR {L:List (Nat×Obj)}{p:Nat×Obj}(h:p∈L):p.1∈L.map Prod.fst:=List.mem_map_of_mem h
theorem CG {L:List (Nat×Obj)}(hd:(L.map Prod.fst).Nodup){i j:Nat}{p q:Nat×Obj}(hi:L[i]? = some p)(hj:L[j]? = some q)(h:p.1=q.1):i=j:=by
 have h1:(L.map Prod.fst)[i]? = some p.1:=by simp[hi]
 have h2:(L.map Prod.fst)[j]? = some q.1:=by simp[hj]
 have af:i<(L.map Prod.fst).length:=(Jx.1 h1).1;exact (List.getElem?_inj af hd).1 (by rw[h1,h2,h])
theorem Kn.neL (hk:Kn H0 H E L)(i j:Nat){l m:Nat}{o q:Obj}(h:L[i]? = some (l,o))(h2:L[j]? = some (m,q))(kZ:i≠j):l≠m:=fun hh=>
 kZ (CG hk.dL h h2 hh)
theorem Kn.newFree (hk:Kn H0 H E L){x:Nat}(hx:H x=.none):H0 x=.none∧x∉E.map Prod.fst∧x∉L.map Prod.fst:=by
 have bO:∀p∈E++L,p.1≠x:=fun p hp hh=>by
  obtain⟨h1,h2⟩:=hk.get p hp;rw[hh,hx]at h1;exact h2 h1.symm
 have hE:x∉E.map Prod.fst:=fun h=>by
  obtain⟨p,hp,hh⟩:=Jj.1 h;exact bO p (Jc _ hp) hh
 refine⟨?_,hE,fun h=>?_⟩
 ·cases h0:H0 x with
  |none=>rfl
  |_=>have:=hk.chg x (by rw[h0];simp) hE;rw[hx,h0]at this;simp at this
 ·obtain⟨p,hp,hh⟩:=Jj.1 h;exact bO p (Jd _ hp) hh
theorem Kn.alloc (hk:Kn H0 H E L){x:Nat}{o:Obj}(hx:H x=.none)(ho:o≠.none):Kn H0 (H.set x o) E (L++[(x,o)]):=by
 obtain⟨h1,h2,h3⟩:=hk.newFree hx;refine⟨fun p hp=>?_,hk.ext,fun p hp=>?_,hk.dE,?_,fun m hm hn=>?_⟩
 ·rw[←Jm]at hp;rcases Jb.1 hp with hp|hp
  ·have:p.1≠x:=fun hh=>by
    rcases Jb.1 hp with hp|hp
    ·exact h2 (hh▸AR hp)
    ·exact h3 (hh▸AR hp)
   rw[Heap.aj _ _ this];exact hk.get p hp
  ·simp at hp;subst hp;exact⟨Heap.aK _ _ _,ho⟩
 ·rcases Jb.1 hp with hp|hp
  ·exact hk.loc p hp
  ·simp at hp;subst hp;exact h1
 ·rw[Jv];refine Jo.2 ⟨hk.dL,ZV,fun a ha b hb=>?_⟩;simp at hb;subst hb;exact fun hh=>h3 (hh▸ha)
 ·have:m≠x:=fun hh=>by subst hh;exact hm h1
  rw[Heap.aj _ _ this];exact hk.chg m hm hn
theorem D1 {L:List (Nat×Obj)}{i:Nat}{x:Nat}{o o':Obj}(h:L[i]? = some (x,o)):(L.set i (x,o')).map Prod.fst=L.map Prod.fst:=by
 rw[Jaz];refine List.ext_getElem? fun j=>?_;rw[J3];split
 ·rename_i kZ
  subst kZ;have af:=(Jx.1 h).1;rw[if_pos (by simpa using af)];simp[h]
 ·rfl
theorem C9 {α:Type}{L:List α}{i:Nat}{x p:α}(h:p∈L.set i x):p=x∨∃j,j≠i∧L[j]? = some p:=by
 obtain⟨j,hj⟩:=List.getElem?_of_mem h;rw[J3]at hj;split at hj
 ·split at hj
  ·simp at hj;exact .inl hj.symm
  ·simp at hj
 ·rename_i hn;exact .inr ⟨j,fun h=>hn h.symm,hj⟩
theorem Kn.setL (hk:Kn H0 H E L)(i:Nat){x:Nat}{o o':Obj}(h:L[i]? = some (x,o))(ho:o'≠.none):Kn H0 (H.set x o') E (L.set i (x,o')):=by
 have hf:=hk.free i h;refine⟨fun p hp=>?_,hk.ext,fun p hp=>?_,hk.dE,by rw[D1 h];exact hk.dL,fun m hm hn=>?_⟩
 ·rcases Jb.1 hp with hp|hp
  ·have:p.1≠x:=fun hh=>hk.ext p hp (hh▸hf);rw[Heap.aj _ _ this];exact hk.get p (Jc _ hp)
  ·rcases C9 hp with rfl|⟨j,hj,hp⟩
   ·exact⟨Heap.aK _ _ _,ho⟩
   ·have:p.1≠x:=fun hh=>hj (CG hk.dL hp h hh);rw[Heap.aj _ _ this];exact hk.get p (Jd _ (Ja hp))
 ·rcases C9 hp with rfl|⟨j,hj,hp⟩
  ·exact hf
  ·exact hk.loc p (Ja hp)
 ·have:m≠x:=fun hh=>by subst hh;exact hm hf
  rw[Heap.aj _ _ this];exact hk.chg m hm hn
theorem Kn.setE (hk:Kn H0 H E L)(i:Nat){x:Nat}{o o':Obj}(h:E[i]? = some (x,o))(ho:o'≠.none):Kn H0 (H.set x o') (E.set i (x,o')) L:=by
 have hf:=hk.usedE i h;refine⟨fun p hp=>?_,fun p hp=>?_,hk.loc,by rw[D1 h];exact hk.dE,hk.dL,fun m hm hn=>?_⟩
 ·rcases Jb.1 hp with hp|hp
  ·rcases C9 hp with rfl|⟨j,hj,hp⟩
   ·exact⟨Heap.aK _ _ _,ho⟩
   ·have:p.1≠x:=fun hh=>hj (CG hk.dE hp h hh);rw[Heap.aj _ _ this];exact hk.get p (Jc _ (Ja hp))
  ·have:p.1≠x:=fun hh=>hf (hh▸hk.loc p hp);rw[Heap.aj _ _ this];exact hk.get p (Jd _ hp)
 ·rcases C9 hp with rfl|⟨j,hj,hp⟩
  ·exact hf
  ·exact hk.ext p (Ja hp)
 ·rw[D1 h]at hn;have:m≠x:=fun hh=>by subst hh;exact hn (AR (p:=(m,o)) (Ja h))
  rw[Heap.aj _ _ this];exact hk.chg m hm hn
theorem Kn.app (hk:Kn H0 H E L)(i:Nat){y y':Nat}{o o':Obj}(h:L[i]? = some (y,o))(hy:(H.set y .none) y'=.none)(ho:o'≠.none) :
  Kn H0 ((H.set y .none).set y' o') E (L.set i (y',o')):=by
 have hf:=hk.free i h;have lS:H0 y'=.none∧y'∉E.map Prod.fst∧∀(j:Nat) (p:Nat×Obj),j≠i→L[j]? = some p→p.1≠y':=by
  by_cases sH:y'=y
  ·subst sH;refine⟨hf,fun hh=>?_,fun j p hj hp hh=>hj (CG hk.dL hp h hh)⟩;obtain⟨p,hp,hh⟩:=Jj.1 hh;exact hk.ext p hp (hh▸hf)
  ·rw[Heap.aj _ _ sH]at hy;obtain⟨h1,h2,h3⟩:=hk.newFree hy;exact⟨h1,h2,fun j p hj hp hh=>h3 (hh▸AR (Ja hp))⟩
 obtain⟨h1,h2,h3⟩:=lS;refine⟨fun p hp=>?_,hk.ext,fun p hp=>?_,hk.dE,?_,fun m hm hn=>?_⟩
 ·rcases Jb.1 hp with hp|hp
  ·have a1:p.1≠y:=fun hh=>hk.ext p hp (hh▸hf);have a2:p.1≠y':=fun hh=>hk.ext p hp (hh▸h1);rw[Heap.aj _ _ a2,Heap.aj _ _ a1];exact hk.get p (Jc _ hp)
  ·rcases C9 hp with rfl|⟨j,hj,hp⟩
   ·exact⟨Heap.aK _ _ _,ho⟩
   ·have a1:p.1≠y:=fun hh=>hj (CG hk.dL hp h hh);rw[Heap.aj _ _ (h3 j p hj hp),Heap.aj _ _ a1];exact hk.get p (Jd _ (Ja hp))
 ·rcases C9 hp with rfl|⟨j,hj,hp⟩
  ·exact h1
  ·exact hk.loc p (Ja hp)
 ·rw[Jaz];refine Jab.2 fun a b ha hb cK=>?_;rw[List.length_set,Jak]at ha hb;have gl:∀(j:Nat) (hj:j<L.length),j≠i→L[j].1≠y':=fun j hj tz=>h3 j L[j] tz (Jn hj);have hd:=Jab.1 hk.dL a b (by simpa using ha) Zas cK;simp only[List.getElem_set,List.getElem_map]at hd⊢;by_cases e1:i=a
  ·subst e1;rw[if_pos rfl,if_neg ZT];exact fun hh=>gl b hb ZT hh.symm
  ·rw[if_neg e1];by_cases e2:i=b
   ·subst e2;rw[if_pos rfl];exact gl a ha ZT
   ·rw[if_neg e2];exact hd
 ·have a1:m≠y:=fun hh=>by subst hh;exact hm hf
  have a2:m≠y':=fun hh=>by subst hh;exact hm h1
  rw[Heap.aj _ _ a2,Heap.aj _ _ a1];exact hk.chg m hm hn
theorem Kn.callg (hk:Kn H0 H E L){U E2 L2:List (Nat×Obj)}(hu:Upd H H' U)(hE:E2.map Prod.fst=E.map Prod.fst)(hL:L2.map Prod.fst=L.map Prod.fst)
  (h:∀p∈E2++L2,p.2≠.none∧(p∈U∨(p∈E++L∧p.1∉U.map Prod.fst))) (hU:∀u∈U,u.1∈E.map Prod.fst∨u.1∈L.map Prod.fst):Kn H0 H' E2 L2:=by
 have gM:∀{A B:List (Nat×Obj)} {p:Nat×Obj},B.map Prod.fst=A.map Prod.fst→p∈B→∃q∈A,q.1=p.1:=fun nv hp=>by
  have:=AR hp;rw[nv]at this;obtain⟨q,h1,h2⟩:=Jj.1 this;exact⟨q,h1,h2⟩
 refine⟨fun p hp=>?_,fun p hp=>?_,fun p hp=>?_,by rw[hE];exact hk.dE,by rw[hL];exact hk.dL,fun m hm hn=>?_⟩
 ·obtain⟨h1,h2⟩:=h p hp;refine⟨?_,h1⟩;rcases h2 with h2|⟨h2,h3⟩
  ·exact hu.1 p h2
  ·obtain⟨a1,a2⟩:=hk.get p h2;rw[hu.2 p.1 (by rw[a1];exact a2) h3,a1]
 ·obtain⟨q,hq,hh⟩:=gM hE hp;rw[←hh];exact hk.ext q hq
 ·obtain⟨q,hq,hh⟩:=gM hL hp;rw[←hh];exact hk.loc q hq
 ·rw[hE]at hn;have h0:=hk.chg m hm hn;rw[hu.2 m (by rw[h0];exact hm) (fun hh=>?_),h0];obtain⟨u,pO,cg⟩:=Jj.1 hh;rcases hU u pO with a|a
  ·exact hn (cg▸a)
  ·obtain⟨q,hq,hh⟩:=Jj.1 a;exact hm (by rw[←cg,←hh];exact hk.loc q hq)
theorem Kn.ay (hk:Kn H0 H E L)(hu:Upd H H' []):Kn H0 H' E L:=hk.callg hu rfl rfl (fun p hp=>⟨(hk.get p hp).2,.inr ⟨hp,ZV⟩⟩) ZV
theorem Kn.ak (hk:Kn H0 H E L)(i:Nat){l:Nat}{o o':Obj}(h:E[i]? = some (l,o))(hu:Upd H H' [(l,o')])(ho:o'≠.none):Kn H0 H' (E.set i (l,o')) L:=by
 refine hk.callg hu (D1 h) rfl (fun p hp=>?_) (fun u hu=>by simp at hu;subst hu;exact .inl (AR (p:=(l,o)) (Ja h)));rcases Jb.1 hp with hp|hp
 ·rcases C9 hp with rfl|⟨j,hj,hp⟩
  ·exact⟨ho,.inl ZV⟩
  ·have hm:=Jc L (Ja hp);exact⟨(hk.get p hm).2,.inr ⟨hm,by simp;exact fun hh=>hj (CG hk.dE hp h hh)⟩⟩
 ·have hm:=Jd E hp;exact⟨(hk.get p hm).2,.inr ⟨hm,by simp;exact fun hh=>hk.usedE i h (hh▸hk.loc p hp)⟩⟩
theorem Kn.callL (hk:Kn H0 H E L)(i:Nat){l:Nat}{o o':Obj}(h:L[i]? = some (l,o))(hu:Upd H H' [(l,o')])(ho:o'≠.none):Kn H0 H' E (L.set i (l,o')):=by
 refine hk.callg hu rfl (D1 h) (fun p hp=>?_) (fun u hu=>by simp at hu;subst hu;exact .inr (AR (p:=(l,o)) (Ja h)));rcases Jb.1 hp with hp|hp
 ·have hm:=Jc L hp;exact⟨(hk.get p hm).2,.inr ⟨hm,by simp;exact fun hh=>hk.ext p hp (hh▸hk.free i h)⟩⟩
 ·rcases C9 hp with rfl|⟨j,hj,hp⟩
  ·exact⟨ho,.inl ZV⟩
  ·have hm:=Jd E (Ja hp);exact⟨(hk.get p hm).2,.inr ⟨hm,by simp;exact fun hh=>hj (CG hk.dL hp h hh)⟩⟩
theorem Kn.callEE (hk:Kn H0 H E L)(i j:Nat){l m:Nat}{o o' q q':Obj}(h:E[i]? = some (l,o))(h2:E[j]? = some (m,q))(kZ:i≠j)(hu:Upd H H' [(l,o'),(m,q')])(ho:o'≠.none)(hq:q'≠.none) :
  Kn H0 H' ((E.set i (l,o')).set j (m,q')) L:=by
 have nw:(E.set i (l,o'))[j]? = some (m,q):=by rw[J3];rw[if_neg kZ];exact h2
 refine hk.callg hu ((D1 nw).trans (D1 h)) rfl (fun p hp=>?_) (fun u hu=>?_)
 ·rcases Jb.1 hp with hp|hp
  ·rcases C9 hp with rfl|⟨b,hb,hp⟩
   ·exact⟨hq,.inl ZV⟩
   ·rcases C9 (Ja hp)with rfl|⟨c,hc,nA⟩
    ·exact⟨ho,.inl ZV⟩
    ·have hm:=Jc L (Ja nA);rw[J3]at hp;split at hp
     ·rename_i t9
      split at hp
      ·simp at hp;subst hp;exact⟨ho,.inl ZV⟩
      ·simp at hp
     ·rename_i t9
      refine⟨(hk.get p hm).2,.inr ⟨hm,?_⟩⟩;simp only[Jr,Jaa,Jk,J7,or_false,not_or];exact⟨fun hh=>t9 (CG hk.dE hp h hh).symm,fun hh=>hb (CG hk.dE hp h2 hh)⟩
  ·have hm:=Jd E hp;refine⟨(hk.get p hm).2,.inr ⟨hm,?_⟩⟩;simp only[Jr,Jaa,Jk,J7,or_false,not_or];exact⟨fun hh=>hk.usedE i h (hh▸hk.loc p hp),fun hh=>hk.usedE j h2 (hh▸hk.loc p hp)⟩
 ·simp at hu;rcases hu with rfl|rfl
  ·exact .inl (AR (p:=(l,o)) (Ja h))
  ·exact .inl (AR (p:=(m,q)) (Ja h2))
theorem Kn.fin (hk:Kn H0 H E L):Upd H0 (H.frz (Go.AE.un H0)) E:=by
 refine⟨fun p hp=>?_,fun m hm hn=>?_⟩
 ·rw[Fj (hk.ext p hp)];exact (hk.get p (Jc _ hp)).1
 ·rw[Fj hm];exact hk.chg m hm hn
abbrev unK (H:Heap)(K:V→Heap→Prop):V→Heap→Prop
 |.pn v,H'=>K (.pn v) (H'.frz (un H))
 |x,H'=>∃x',FrzV H' (un H) x x'∧K x' (H'.frz (un H))
theorem Xb {K:V→Heap→Prop}{H0:Heap}{x:C}:unK H0 K (.c x) H=∃x',FrzV H (un H0) (.c x) x'∧K x' (H.frz (un H0)):=rfl
theorem X5 {K:V→Heap→Prop}{H0:Heap}{x:List C}:unK H0 K (.ag x) H=∃x',FrzV H (un H0) (.ag x) x'∧K x' (H.frz (un H0)):=rfl
theorem YH {K:V→Heap→Prop}{H0:Heap}{x:List V}:unK H0 K (.tup x) H=∃x',FrzV H (un H0) (.tup x) x'∧K x' (H.frz (un H0)):=rfl
theorem YG {K:V→Heap→Prop}{H0:Heap}:unK H0 K .unk H=∃x',FrzV H (un H0) .unk x'∧K x' (H.frz (un H0)):=rfl
theorem X4 {K:V→Heap→Prop}{H0:Heap}{v:Value}:unK H0 K (.pn v) H=K (.pn v) (H.frz (un H0)):=rfl
attribute [go_sem] Xb X5 YH YG X4
theorem Q1 {f:Nat}{args:List V}{K:V→Heap→Prop}(h:Qm P f args H (unK H K)):Qm P f args H K:=
 FT (Q86 h fun x H' hx=>by
  cases x with
  |pn v=>exact⟨un H,hx⟩
  |_=>
   obtain⟨x',h1,h2⟩:=hx;exact⟨un H,x',h1,h2⟩)
theorem Kn.al (hk:Kn H0 H E L){x:Nat}{o:Obj}(hx:H x=.none)(h1:H'=H.set x o)(ho:o≠.none:=by nofun):Kn H0 H' E (L++[(x,o)]):=h1▸hk.alloc hx ho
theorem Kn.ax (hk:Kn H0 H E L)(i:Nat){x:Nat}{o o':Obj}(h:L[i]? = some (x,o))(h1:H'=H.set x o')(ho:o'≠.none:=by nofun):Kn H0 H' E (L.set i (x,o')):=h1▸hk.setL i h ho
theorem Kn.stE (hk:Kn H0 H E L)(i:Nat){x:Nat}{o o':Obj}(h:E[i]? = some (x,o))(h1:H'=H.set x o')(ho:o'≠.none:=by nofun):Kn H0 H' (E.set i (x,o')) L:=h1▸hk.setE i h ho
theorem Kn.ap (hk:Kn H0 H E L)(i:Nat){y y':Nat}{o o':Obj}(h:L[i]? = some (y,o))(hy:(H.set y .none) y'=.none)(h1:H'=(H.set y .none).set y' o')(ho:o'≠.none:=by nofun):Kn H0 H' E (L.set i (y',o')):=h1▸hk.app i h hy ho
end Go.AE
namespace Go.AE.Y
theorem Qv {x:Int}(h1:-(2^63)≤x:=by omega)(h2:x<2^63:=by omega):inR .i64 x:=by
 unfold inR;have a1:IntKind.min .i64=-(2^63):=Zab
 have a2:IntKind.max .i64=2^63-1:=Zab
 rw[a1,a2];omega
theorem Rf (b:UInt8):inR .i64 (b.toNat:Int):=Qv ZT (by have:=b.toNat_lt;omega)
def Bi (bs:List UInt8):List (List C):=bs.map fun b=>[.int .u8 b.toNat]
theorem CK (bs:List UInt8):(Bi bs).length=bs.length:=by simp[Bi]
theorem Pe (bs:List UInt8)(i:Nat)(h:i<bs.length):(Bi bs).getD i []=[.int .u8 (bs.getD i 0).toNat]:=by
 simp[Bi,Jh,h]
theorem YA {a b:Int}(ha:0≤a)(hb:0≤b)(ha':a<2^62)(br:b<2^62):0≤C4 .xor .i64 a b:=by
 obtain⟨m,rfl⟩:=Jy ha;obtain⟨n,rfl⟩:=Jy hb;have hm:m<2^62:=ZT
 have hn:n<2^62:=ZT
 have hx:m ^^^ n<2^62:=Nat.xor_lt_two_pow hm hn;have h1:(BitVec.ofInt (IntKind.bits .i64) (m:Int) ^^^ BitVec.ofInt (IntKind.bits .i64) (n:Int)).toNat=m ^^^ n:=by
  have hb:IntKind.bits .i64=64:=rfl;rw[hb,BitVec.toNat_xor];have e1:(BitVec.ofInt 64 (m:Int)).toNat=m:=Zac
  have e2:(BitVec.ofInt 64 (n:Int)).toNat=n:=Zac
  rw[e1,e2]
 simp only[C4];rw[h1];simp only[IntKind.wrap];have hb:IntKind.bits .i64=64:=rfl;have hm:((m ^^^ n:Nat):Int) % 2 ^ 64=(m ^^^ n:Nat):=Int.emod_eq_of_lt ZT ZT;rw[hb,hm];rw[if_neg]
 ·omega
 ·simp only[Jg,decide_eq_true_eq,not_and];intro _;omega
structure Rdr where
 l:Nat
 fl:Bool
 bs:List UInt8
def Rdr.o (R:Rdr)(k:Nat):Obj:=.st [.sl R.fl 1 (Bi R.bs),.int .i64 k]
theorem Rdr.am (R:Rdr)(k:Nat):R.o k≠.none:=by simp[Rdr.o]
def Ar (ns:List Int):List (List C):=ns.map fun n=>[.int .i64 n]
theorem CA (ns:List Int):(Ar ns).length=ns.length:=by simp[Ar]
theorem Q25 (ns:List Int)(i:Nat)(h:i<ns.length):(Ar ns).getD i []=[.int .i64 (ns.getD i 0)]:=by
 simp[Ar,Jh,h]
theorem D2 (ns:List Int):∀r∈Ar ns,ai r=true:=by
 intro r hr;simp[Ar]at hr;obtain⟨n,_,rfl⟩:=hr;rfl
def Q5 (ss:List (List UInt8)):List (List C):=ss.map fun s=>[.str s]
theorem Qt (ss:List (List UInt8)):(Q5 ss).length=ss.length:=by simp[Q5]
theorem BT (ss:List (List UInt8))(i:Nat)(h:i<ss.length):(Q5 ss).getD i []=[.str (ss.getD i [])]:=by
 simp[Q5,Jh,h]
theorem Qbec:Q5 []=[]:=rfl
theorem Q6t (a:List (List UInt8))(n:List UInt8):Q5 a++[[.str n]]=Q5 (a++[n]):=by simp[Q5]
theorem CJ (ns:List (List UInt8)):∀r∈Q5 ns,ai r=true:=by
 intro r hr;simp[Q5]at hr;obtain⟨n,_,rfl⟩:=hr;rfl
theorem RF {rows:List (List C)}(h:∀r∈rows,ai r=true):∀r∈rows,∀c∈r,c.ah=false:=fun r hr c hc=>by
 have:=h r hr;simp only[ai,Js]at this;simpa using this c hc
theorem noOw_app {a b:List (List C)}(ha:∀r∈a,ai r=true)(hb:∀r∈b,ai r=true):∀r∈a++b,ai r=true:=fun r hr=>by
 rcases Jb.1 hr with h|h
 ·exact ha r h
 ·exact hb r h
inductive Ex where
 |mk (op n:Int) (name:List UInt8) (kids:List Ex)
def Ex.op:Ex→Int|.mk op _ _ _=>op
def Ex.n:Ex→Int|.mk _ n _ _=>n
def Ex.name:Ex→List UInt8|.mk _ _ s _=>s
def Ex.kids:Ex→List Ex|.mk _ _ _ k=>k
mutual
def Ex.cells:Ex→List C
 |.mk op n name kids=>[.int .i64 op,.int .i64 n,.str name,.sl false 4 (Ql kids)]
def Ql:List Ex→List (List C)
 |[]=>[]
 |x::r=>x.cells::Ql r
end
theorem Ex.aa (x:Ex):x.cells=[.int .i64 x.op,.int .i64 x.n,.str x.name,.sl false 4 (Ql x.kids)]:=by
 cases x;simp[Ex.cells,Ex.op,Ex.n,Ex.name,Ex.kids]
theorem EK (l:List Ex):Ql l=l.map Ex.cells:=by
 induction l with
 |nil=>simp[Ql]
 |cons x r ih=>simp[Ql,ih]
theorem Qh (l:List Ex):(Ql l).length=l.length:=by simp[EK]
theorem Qs (l:List Ex)(i:Nat)(h:i<l.length):(Ql l).getD i []=(l[i]'h).cells:=by
 simp[EK,Jh,h]
theorem Dm (a:List Ex)(x:Ex):Ql a++[x.cells]=Ql (a++[x]):=by simp[EK]
theorem Ex.ai (x:Ex):Go.AE.ai x.cells=true:=Zb1
theorem Bb (l:List Ex):∀r∈Ql l,Go.AE.ai r=true:=by
 intro r hr;rw[EK]at hr;obtain⟨x,_,rfl⟩:=Jj.1 hr;exact x.ai
theorem Ex.ae (x:Ex):x.cells.length=4:=Zb1
mutual
def Ex.size:Ex→Nat
 |.mk _ _ _ kids=>1+Qw kids
def Qw:List Ex→Nat
 |[]=>0
 |x::r=>x.size+Qw r
end
mutual
def Ex.ok:Ex→Prop
 |.mk op _ _ kids=>(op=10→kids.length=2)∧A5 kids
def A5:List Ex→Prop
 |[]=>True
 |x::r=>x.ok∧A5 r
end
theorem Qbfd {a b:List Ex}(ha:A5 a)(hb:A5 b):A5 (a++b):=by
 induction a with
 |nil=>exact hb
 |cons x r ih=>simp only[A5]at ha;exact⟨ha.1,ih ha.2⟩
theorem HJ (a b:List Ex):Qw (a++b)=Qw a+Qw b:=by
 induction a with
 |nil=>simp[Qw]
 |cons x r ih=>simp[Qw,ih];omega
theorem Ex.size_pos (x:Ex):1≤x.size:=by cases x;simp[Ex.size]
theorem Bn {l:List Ex}{x:Ex}(h:x∈l):x.size≤Qw l:=by
 induction l with
 |nil=>simp at h
 |cons y r ih=>
  simp only[Qw];rcases Jk.1 h with rfl|h
  ·omega
  ·have:=ih h;omega
theorem Ex.size_kids (x:Ex):x.size=1+Qw x.kids:=by cases x;simp[Ex.size,Ex.kids]
theorem Ex.ok_kids {x:Ex}(h:x.ok):A5 x.kids:=by cases x;simp only[Ex.ok]at h;exact h.2
theorem Ex.ok_and {x:Ex}(h:x.ok)(h1:x.op=10):x.kids.length=2:=by cases x;simp only[Ex.ok]at h;exact h.1 h1
theorem Ex.frz {H:Heap}{S:Nat→Bool}{fl:Bool}(x:Ex):FrzV H S (.ag [.int .i64 x.op,.int .i64 x.n,.str x.name,.sl fl 4 (Ql x.kids)]) (.ag x.cells):=by
 rw[x.aa];exact (FrzL.cons (Qe rfl) (FrzL.cons (Qe rfl) (FrzL.cons (Qe rfl) (FrzL.cons (IV (RF (Bb _))) FrzL.nil)))).ag
end Go.AE.Y
attribute [go_sem_proc] reduceIte reduceEqDiff reduceAdd reduceLeDiff reduceLT reduceCtorEq
namespace Go.AE.Y
open Go.Proofs.Tryz
theorem Aa:prog.follows .mixedOrders=true:=ZW
theorem YV (l : Nat) (fl : Bool) (bs : List UInt8) (k : Nat) (n : Int) (H : Heap) (K : V → Heap → Prop)
   (hH : H l = .st [.sl fl 1 (Bi bs), .int .i64 k]) (nA : k ≤ 2^40)
   (hK : ∀ v : Int, (if n < 1 then v = 0 else 0 ≤ v ∧ v < n) → K (.c (.int .i64 v)) (H.set l (.st [.sl fl 1 (Bi bs), .int .i64 ((k + 1 : Nat) : Int)]))) :
   Qm prog TM [.c (.ptr l 0), .c (.int .i64 n)] H K := by
  refine Qc Aa Qax8 ?_;refine Qa ?_;simp only [go_sem, Nat.reduceEqDiff, Nat.reduceAdd];refine Qa ?_;simp only [go_sem, Nat.reduceEqDiff, Nat.reduceAdd, Nat.reduceLT, hH];refine ⟨Qv, fun H2 pC => ?_⟩;have pD : H2 l = .st [C.sl fl 1 (Bi bs), C.int IntKind.i64 (k + 1)] := by rw [pC]; exact Heap.aK _ _ _
  have pB : ∀ v : Int, (if n < 1 then v = 0 else 0 ≤ v ∧ v < n) → K (.c (.int .i64 v)) H2 := by
    intro v hv; rw [pC]; exact hK v hv
  clear hK;refine Qz (Qa ?_);simp only [go_sem, CK, Nat.reduceEqDiff, Nat.reduceAdd, Nat.reduceLeDiff, pD];intro _;refine Qf (Qb rfl ?_ ?_)
  · intro hc;refine Qa ?_;simp only [go_sem, Nat.reduceEqDiff];refine Qi ?_;simp only [go_sem, Qq, Q0, Ab, Je, forall_eq, RS.op];refine pB 0 ?_;split <;> omega
  · intro hc;refine Qd ?_;simp only [go_sem];have hn : 1 ≤ n ∧ bs.length ≠ 0 := by
      simp only [cond_eq_ite] at hc;split at hc
      · simp at hc
      · simp at hc; simp_all
    refine Qa ?_;simp only [go_sem, Nat.reduceEqDiff, Nat.reduceAdd, pD];refine ⟨Qv, ?_⟩;refine Qz (Qa ?_);simp only [go_sem, CK, Nat.reduceEqDiff, Nat.reduceAdd, Nat.reduceLeDiff, pD];intro hl;refine Qf (Qb rfl ?_ ?_)
    · intro au;have hk : k < bs.length := ZZ;refine Qa ?_;simp only [go_sem, CK, Rf, Nat.reduceEqDiff, Nat.reduceAdd, Nat.reduceLeDiff, pD, hk, Pe];refine ⟨ZT, ?_⟩;refine Qi ?_;simp only [go_sem, Qq, Q0, Ab, Je, forall_eq, RS.op];refine pB _ ?_;rw [if_neg ZT];exact ⟨Jat _ ZT, Jao _ ZT⟩
    · intro au;refine Qd ?_;simp only [go_sem];refine An ?_;have e1 : ((k : Int).tmod (bs.length : Int)) = ((k % bs.length : Nat) : Int) := rfl;have e2 : (((k : Int) * 7 + 3).tmod (bs.length : Int)) = (((k * 7 + 3) % bs.length : Nat) : Int) := rfl;have h1 : k % bs.length < bs.length := Nat.mod_lt _ ZT;have h2 : (k * 7 + 3) % bs.length < bs.length := Nat.mod_lt _ ZT;simp only [go_sem, CK, Rf, Nat.reduceEqDiff, Nat.reduceAdd, Nat.reduceLeDiff, pD, e1, e2, h1, h2, Pe];have e3 : (k : Int).tdiv (bs.length : Int) = ((k / bs.length : Nat) : Int) := rfl;have h3 : k / bs.length ≤ k := Nat.div_le_self _ _;rw [e3];have h4 := (bs.getD (k % bs.length) 0).toNat_lt;have h5 := (bs.getD ((k * 7 + 3) % bs.length) 0).toNat_lt;generalize (bs.getD (k % bs.length) 0).toNat = b1 at *;generalize (bs.getD ((k * 7 + 3) % bs.length) 0).toNat = b2 at *;generalize k / bs.length = d at *;clear e1 e2 h1 h2 e3;refine ⟨ZT, Qv, Qv, Qv, by omega, Qv, Qv,
        Qv, Qv, ⟨ZT, Qv⟩, Qv, Qv, ?_⟩
      have hx : 0 ≤ (b1 : Int) * 131 + b2 * 1117 + k * 29 + d * 53 := ZT;have fg : (b1 : Int) * 131 + b2 * 1117 + k * 29 + d * 53 < 2 ^ 62 := ZT;generalize (b1 : Int) * 131 + b2 * 1117 + k * 29 + d * 53 = x at *;refine Qa ?_;simp only [go_sem, Nat.reduceEqDiff];have hq : 0 ≤ x.tdiv 64 := Int.tdiv_nonneg hx ZT;have pR : x.tdiv 64 ≤ x := (by have := Int.tdiv_le_self (a := x) 64 hx; exact this);refine ⟨⟨ZT, Qv⟩, ?_⟩;have hy := YA hx hq fg ZT;generalize C4 .xor .i64 x (x.tdiv 64) = y at *;refine Qa ?_;simp only [go_sem, Nat.reduceEqDiff];refine ⟨ZT, ?_⟩;refine Qi ?_;simp only [go_sem, Qq, Q0, Ab, Je, forall_eq, RS.op];refine pB _ ?_;rw [if_neg ZT];exact ⟨Jat _ ZT, Jao _ ZT⟩
theorem A0 {R:Rdr}{k:Nat}{n:Int}{H:Heap}{K:V→Heap→Prop}(hH:H R.l=R.o k)(hk:k≤2^40)
  (hK:∀(v:Int) (H':Heap),(if n<1 then v=0 else 0≤v∧v<n)→Upd H H' [(R.l,R.o (k+1))]→K (.c (.int .i64 v)) H') :
  Qm prog TM [.c (.ptr R.l 0),.c (.int .i64 n)] H K:=
 YV R.l R.fl R.bs k n H K hH hk fun v hv=>hK v _ hv ⟨by simp[Heap.aK,Rdr.o],fun m _ hm=>Heap.aj _ _ (by simpa using hm)⟩
theorem Bj {R:Rdr}{k:Nat}{fl:Bool}{ns:List Int}{H:Heap}{K:V→Heap→Prop}(hH:H R.l=R.o k)(hk:k≤2^40)(oC:0<ns.length)
  (hK:∀(v:Int) (H':Heap),v∈ns→Upd H H' [(R.l,R.o (k+1))]→K (.c (.int .i64 v)) H') :
  Qm prog Pn [.c (.ptr R.l 0),.c (.sl fl 1 (Ar ns))] H K:=by
 refine Qc Aa Qa2s ?_;refine Za ?_;refine Qa ?_;simp only[go_sem,CA];intro hl;refine A0 hH hk fun v H' hv hu=>?_;rw[if_neg ZT]at hv;obtain⟨i,rfl⟩:=Jy hv.1;have hi:i<ns.length:=ZT
 simp only[go_sem,Q2q,CA,Q25,hi];refine ZH ?_;refine hK _ H' ?_ hu;rw[Jh,Jn hi];exact J6 hi
theorem of_c {R:Rdr}{k:Nat}{fl:Bool}{ss:List (List UInt8)}{H:Heap}{K:V→Heap→Prop}(hH:H R.l=R.o k)(hk:k≤2^40)(oC:0<ss.length)
  (hK:∀(v:List UInt8) (H':Heap),v∈ss→Upd H H' [(R.l,R.o (k+1))]→K (.c (.str v)) H') :
  Qm prog NU [.c (.ptr R.l 0),.c (.sl fl 1 (Q5 ss))] H K:=by
 refine Qc Aa Qbaz ?_;refine Za ?_;refine Qa ?_;simp only[go_sem,Qt];intro hl;refine A0 hH hk fun v H' hv hu=>?_;rw[if_neg ZT]at hv;obtain⟨i,rfl⟩:=Jy hv.1;have hi:i<ss.length:=ZT
 simp only[go_sem,Q2q,Qt,BT,hi];refine ZH ?_;refine hK _ H' ?_ hu;rw[Jh,Jn hi];exact J6 hi
theorem PH {R:Rdr}{k:Nat}{fl:Bool}{ss:List (List UInt8)}{H:Heap}{K:V→Heap→Prop}(hH:H R.l=R.o k)(hk:k+2≤2^40)
  (hK:∀(x:Ex) (H':Heap) (k':Nat),k<k'→k'≤k+2→Upd H H' [(R.l,R.o k')]→x.ok→x.size=1→K (.ag x.cells) H') :
  Qm prog FN [.c (.ptr R.l 0),.c (.sl fl 1 (Q5 ss))] H K:=by
 refine Q1 ?_;refine Qc Aa P5 ?_;refine Za ?_;intro x hx H1 h1;have kn:=(Kn.start1 hH (R.am k)).al hx h1;refine Qz (Qa ?_);simp only[go_sem,Qt];intro hl;have rest:∀(b:Bool) (H2:Heap) (k2:Nat),k≤k2→k2≤k+1→Kn H H2 [(R.l,R.o k2)] [(x,.st [.int .i64 0,.int .i64 0,.str [],.sl true 4 []])]→(b=false→0<ss.length)→
   Q6 prog (s_l2Leaf_2.seq Gb) (Qq Bm (unK H K)) [(0,V.c (C.ptr R.l 0)),(1,V.c (C.sl fl 1 (Q5 ss))),(4,V.c (C.ptr x 0)),(12,V.c (.bool b))] H2:=by
  intro b H2 k2 eN fw kn hb;refine Qf (Qb rfl ?_ ?_)
  ·intro br;refine Za ?_;refine Bj (ns:=[0,1,2,3,5,7,15,16,100,255]) (kn.e 0 rfl) ZT ZV fun v H3 hv hu=>?_;have kn:=kn.ak 0 rfl hu (R.am _);have bQ:=kn.l 0 rfl;simp only[go_sem,Q41,bQ];intro H4 h4;have kn:=kn.ax 0 rfl h4;have bW:=kn.l 0 rfl;refine ZL bW ?_;refine⟨_,(Ex.mk 1 v [] []).frz,hK _ _ (k2+1) ZT ZT kn.fin ?_ ?_⟩
   ·simp[Ex.ok,A5]
   ·simp[Ex.size,Qw]
  ·intro br;refine Ze ?_;refine Za ?_;refine of_c (kn.e 0 rfl) ZT (hb br) fun v H3 hv hu=>?_;have kn:=kn.ak 0 rfl hu (R.am _);have bQ:=kn.l 0 rfl;simp only[go_sem,Q42,bQ];intro H4 h4;have kn:=kn.ax 0 rfl h4;have bW:=kn.l 0 rfl;refine ZL bW ?_;refine⟨_,(Ex.mk 2 0 v []).frz,hK _ _ (k2+1) ZT ZT kn.fin ?_ ?_⟩
   ·simp[Ex.ok,A5]
   ·simp[Ex.size,Qw]
 refine⟨fun hb=>?_,fun hb=>?_⟩
 ·refine A0 (kn.e 0 rfl) ZT fun v H2 hv hu=>?_;have kn:=kn.ak 0 rfl hu (R.am _);simp only[go_sem,HF];refine rest _ H2 (k+1) ZT ZT kn ?_;intro h;have:¬ss.length=0:=Zas
  omega
 ·have bM:decide ((ss.length:Int)=0)=true:=Zas
  simp only[go_sem,HF,bM];exact rest true H1 k ZT ZT kn (fun h=>Zaa)
variable {H:Heap}{K:V→Heap→Prop}
theorem Qbgh {fl:Bool}{bs:List UInt8}(hK:∀(R:Rdr) (H':Heap),H R.l=.none→H'=H.set R.l (R.o 0)→K (.c (.ptr R.l 0)) H'):Qm prog LT [.c (.sl fl 1 (Bi bs))] H K:=by
 refine Qc Aa Qbg3 ?_;refine Za ?_;refine Qz (Qa ?_);simp only[go_sem,CK];intro _;have tail:∀(fl:Bool) (bs:List UInt8) (E1:Env),lk 0 E1=.c (.sl fl 1 (Bi bs))→Q6 prog N5 (Qq Ac K) E1 H:=by
  intro fl bs E1 l0;refine Zd l0 ?_;intro l hl H' h';simp only[go_sem,OM];refine ZH ?_;exact hK ⟨l,fl,bs⟩ H' hl h'
 refine Qf (Qb rfl ?_ ?_)
 ·intro hc;have h2:(2000:Int)<bs.length:=ZU
  refine Qr ?_;simp only[go_sem,CK];refine⟨⟨ZT,ZT,ZT⟩,?_⟩;have ht:List.take 2000 (Bi bs)=Bi (bs.take 2000):=by simp[Bi,List.map_take]
  rw[ht];exact tail _ (bs.take 2000) _ Zb2
 ·intro hc;refine Qd ?_;exact tail fl bs _ ZX
end Go.AE.Y
namespace Go.AE.Y
variable {H:Heap}{S:Nat→Bool}
inductive FrzR (H:Heap)(S:Nat→Bool):List (List C)→List (List C)→Prop
 |nil:FrzR H S [] []
 |cons {r r':List C} {l l':List (List C)} (h:FrzL H S r r') (t:FrzR H S l l'):FrzR H S (r::l) (r'::l')
theorem FrzR.spec {l l':List (List C)}(h:FrzR H S l l'):l'.length=l.length∧∀(i:Nat) (r r':List C),l[i]? = some r→l'[i]? = some r'→FrzL H S r r':=by
 induction h with
 |nil=>exact⟨rfl,fun j c c' h=>Zaa⟩
 |cons h t ih=>
  refine⟨Zcj,fun j c c' h1 h2=>?_⟩
  cases j with
  |zero=>simp at h1 h2;subst h1;subst h2;exact h
  |succ j=>simp at h1 h2;exact ih.2 j c c' h1 h2
theorem FrzR.sl {fl:Bool}{sz:Nat}{l l':List (List C)}(h:FrzR H S l l'):FrzC H S (.sl fl sz l) (.sl false sz l'):=
 .sl fl sz l l' h.spec.1 (fun i r r' h1 h2=>(h.spec.2 i r r' h1 h2).spec.1) fun i r r' j c c' h1 h2 h3 h4=>(h.spec.2 i r r' h1 h2).spec.2 j c c' h3 h4
theorem FrzR.aw {l sz n:Nat}{rows rows':List (List C)}(hS:S l=true)(hH:H l=.vec sz rows)(hn:n=rows.length)(h:FrzR H S rows rows'):FrzC H S (.aw l sz 0 n) (.sl false sz rows'):=by
 subst hn;exact .aw l sz 0 rows.length rows rows rows' hS hH ZT ZV h.spec.1 (fun i r r' h1 h2=>(h.spec.2 i r r' h1 h2).spec.1) fun i r r' j c c' h1 h2 h3 h4=>(h.spec.2 i r r' h1 h2).spec.2 j c c' h3 h4
end Go.AE.Y
namespace Go.AE
open Go.AE.Y
variable {H:Heap}{S:Nat→Bool}
theorem FrzL.same {l:List C}(h:ai l=true):FrzL H S l l:=by
 induction l with
 |nil=>exact .nil
 |cons c r ih=>
  simp only[ai,Jt,Jg,Jac]at h ih;exact .cons (.same _ h.1) (ih (by simpa using h.2))
end Go.AE
namespace Go.AE.Y
variable {H:Heap}{S:Nat→Bool}
theorem FrzR.same {l:List (List C)}(h:∀r∈l,ai r=true):FrzR H S l l:=by
 induction l with
 |nil=>exact .nil
 |cons c r ih=>exact .cons (.same (h _ Jaq)) (ih fun x hx=>h x (Jal _ hx))
theorem FrzR.app {a a' b b':List (List C)}(h:FrzR H S a a')(k:FrzR H S b b'):FrzR H S (a++b) (a'++b'):=by
 induction h with
 |nil=>exact k
 |cons h t ih=>exact .cons h ih
end Go.AE.Y
namespace Go.AE
open Go.AE.Y
variable {H:Heap}{S:Nat→Bool}
theorem Upd.set2 {H H':Heap}{a b:Nat}{oa ob o:Obj}(h:Upd H H' [(a,oa),(b,ob)])(hn:a≠b):Upd H (H'.set b o) [(a,oa),(b,o)]:=by
 refine⟨fun p hp=>?_,fun m hm hx=>?_⟩
 ·simp at hp;rcases hp with rfl|rfl
  ·show (H'.set b o) a=oa;rw[Heap.aj _ _ hn];exact h.1 (a,oa) ZV
  ·exact Heap.aK _ _ _
 ·have:m≠b:=by simp at hx;exact hx.2
  rw[Heap.aj _ _ this];exact h.2 m hm (by simpa using hx)
end Go.AE
namespace Go.AE.Y
variable {H:Heap}{S:Nat→Bool}
inductive St where
 |mk (op:Int) (name:List UInt8) (args:List Ex) (body els:List St)
def St.op:St→Int|.mk op _ _ _ _=>op
def St.name:St→List UInt8|.mk _ s _ _ _=>s
def St.args:St→List Ex|.mk _ _ a _ _=>a
def St.body:St→List St|.mk _ _ _ b _=>b
def St.els:St→List St|.mk _ _ _ _ e=>e
mutual
def St.cells:St→List C
 |.mk op name args body els=>[.int .i64 op,.str name,.sl false 4 (Ql args),.sl false 5 (Qk body),.sl false 5 (Qk els)]
def Qk:List St→List (List C)
 |[]=>[]
 |x::r=>x.cells::Qk r
end
theorem St.aa (x:St):x.cells=[.int .i64 x.op,.str x.name,.sl false 4 (Ql x.args),.sl false 5 (Qk x.body),.sl false 5 (Qk x.els)]:=by
 cases x;simp[St.cells,St.op,St.name,St.args,St.body,St.els]
theorem Dj (l:List St):Qk l=l.map St.cells:=by
 induction l with
 |nil=>simp[Qk]
 |cons x r ih=>simp[Qk,ih]
theorem Qp (l:List St):(Qk l).length=l.length:=by simp[Dj]
theorem Q9 (l:List St)(i:Nat)(h:i<l.length):(Qk l).getD i []=(l[i]'h).cells:=by
 simp[Dj,Jh,h]
theorem BR (a b:List St):Qk a++Qk b=Qk (a++b):=by simp[Dj]
theorem EC (a:List St)(x:St):Qk a++[x.cells]=Qk (a++[x]):=by simp[Dj]
theorem St.ai (x:St):Go.AE.ai x.cells=true:=Zb1
theorem AQ (l:List St):∀r∈Qk l,Go.AE.ai r=true:=by
 intro r hr;rw[Dj]at hr;obtain⟨x,_,rfl⟩:=Jj.1 hr;exact x.ai
theorem St.ae (x:St):x.cells.length=5:=Zb1
mutual
def St.size:St→Nat
 |.mk _ _ args body els=>1+Qw args+Qj body+Qj els
def Qj:List St→Nat
 |[]=>0
 |x::r=>x.size+Qj r
end
mutual
def St.ok:St→Prop
 |.mk _ _ args body els=>0<args.length∧A5 args∧A2 body∧A2 els
def A2:List St→Prop
 |[]=>True
 |x::r=>x.ok∧A2 r
end
theorem Rv {l:List St}(h:A2 l):∀x∈l,x.ok:=by
 induction l with
 |nil=>simp
 |cons y r ih=>
  simp only[A2]at h;intro x hx;rcases Jk.1 hx with rfl|hx
  ·exact h.1
  ·exact ih h.2 x hx
theorem FF {a b:List St}(ha:A2 a)(hb:A2 b):A2 (a++b):=by
 induction a with
 |nil=>exact hb
 |cons x r ih=>simp only[A2]at ha;exact⟨ha.1,ih ha.2⟩
theorem Cf (a b:List St):Qj (a++b)=Qj a+Qj b:=by
 induction a with
 |nil=>simp[Qj]
 |cons x r ih=>simp[Qj,ih];omega
theorem St.size_eq (x:St):x.size=1+Qw x.args+Qj x.body+Qj x.els:=by cases x;simp[St.size,St.args,St.body,St.els]
theorem St.ok_eq (x:St):x.ok=(0<x.args.length∧A5 x.args∧A2 x.body∧A2 x.els):=by cases x;simp[St.ok,St.args,St.body,St.els]
theorem Bw {l:List St}{x:St}(h:x∈l):x.size≤Qj l:=by
 induction l with
 |nil=>simp at h
 |cons y r ih=>
  simp only[Qj];rcases Jk.1 h with rfl|h
  ·omega
  ·have:=ih h;omega
structure Fn where
 name:List UInt8
 params:List (List UInt8)
 body:List St
def Fn.cells (f:Fn):List C:=[.str f.name,.sl false 1 (Q5 f.params),.sl false 5 (Qk f.body)]
def Qo (l:List Fn):List (List C):=l.map Fn.cells
theorem Qu (l:List Fn):(Qo l).length=l.length:=by simp[Qo]
theorem AB (l:List Fn)(i:Nat)(h:i<l.length):(Qo l).getD i []=(l[i]'h).cells:=by
 simp[Qo,Jh,h]
theorem RU (a:List Fn)(x:Fn):Qo a++[x.cells]=Qo (a++[x]):=by simp[Qo]
theorem Fn.ai (x:Fn):Go.AE.ai x.cells=true:=rfl
theorem Fn.ae (x:Fn):x.cells.length=3:=rfl
theorem CB (l:List Fn):∀r∈Qo l,Go.AE.ai r=true:=by
 intro r hr;obtain⟨x,_,rfl⟩:=Jj.1 hr;exact x.ai
structure GS where
 fns:List Fn
 ffl:C×List (Nat×Obj)
 vars:List (List UInt8)
 vfl:Bool
 next:Int
 left:Int
def GS.o (s:GS)(R:Rdr):Obj:=.st [.ptr R.l 0,s.ffl.1,.sl s.vfl 1 (Q5 s.vars),.int .i64 s.next,.int .i64 s.left]
theorem GS.am (s:GS)(R:Rdr):s.o R≠.none:=by simp[GS.o]
structure GS.ok (s:GS)(k:Nat):Prop where
 n0:-1≤s.next
 n1:s.next≤k+10
 l0:-(4 * (k:Int)+10)≤s.left
 l1:s.left≤100
 v:s.vars.length≤k+10
 f:∀f∈s.fns,f.params.length≤3
 fn:s.fns.length≤3
theorem GS.ok.mono {s:GS}{k k':Nat}(h:s.ok k)(hk:k≤k'):s.ok k':=
 ⟨h.n0,by have:=h.n1;omega,by have:=h.l0;omega,h.l1,by have:=h.v;omega,h.f,h.fn⟩
end Go.AE.Y
namespace Go.AE
variable {H0 H H':Heap}{E L B:List (Nat×Obj)}
theorem Upd.drop2 {H H':Heap}{a b:Nat}{oa ob:Obj}(h:Upd H H' [(a,oa),(b,ob)])(hb:H b=ob):Upd H H' [(a,oa)]:=by
 refine⟨fun p hp=>h.1 p (by simp at hp;subst hp;simp),fun m hm hx=>?_⟩;by_cases nE:m=b
 ·subst nE;rw[hb];exact h.1 (m,ob) ZV
 ·exact h.2 m hm (by simp at hx⊢;exact⟨hx,nE⟩)
theorem Kn.perm {L':List (Nat×Obj)}(h:Kn H0 H E L)(hp:L.Perm L'):Kn H0 H E L':=
 ⟨fun p nA=>h.get p (by
   rcases Jb.1 nA with a|a
   ·exact Jc _ a
   ·exact Jd _ (hp.mem_iff.2 a)),h.ext,fun p nA=>h.loc p (hp.mem_iff.2 nA),h.dE,(hp.map Prod.fst).nodup_iff.1 h.dL,h.chg⟩
def Gr (Lg:List (Nat×Obj))(sz:Nat)(rows:List (List C))(c:C):Prop:=
 (c=.sl true sz []∧rows=[]∧Lg=[])∨∃y,c=.aw y sz 0 rows.length∧Lg=[(y,.vec sz rows)]
theorem Gr.nil (sz:Nat):Gr [] sz [] (.sl true sz []):=.inl ⟨rfl,rfl,rfl⟩
theorem Gr.mk (y sz:Nat)(rows:List (List C)){n:Nat}(hn:n=rows.length):Gr [(y,.vec sz rows)] sz rows (.aw y sz 0 n):=.inr ⟨y,by rw[hn],rfl⟩
variable {sz:Nat}{rows:List (List C)}{c:C}{Lg:List (Nat×Obj)}
theorem Gr.ah (h:Gr Lg sz rows c):c.ah=false:=by rcases h with ⟨rfl,_⟩|⟨y,rfl,_⟩ <;> rfl
theorem Gr.aN (h:Gr Lg sz rows c):c.aN=sz:=by rcases h with ⟨rfl,_⟩|⟨y,rfl,_⟩ <;> rfl
theorem Gr.a9 (h:Gr Lg sz rows c):a9 c=rows.length:=by
 rcases h with ⟨rfl,rfl,_⟩|⟨y,rfl,_⟩ <;> rfl
theorem Gr.get (h:Gr Lg sz rows c)(kn:Kn H0 H E (B++Lg)):aT H c∧rowsOf H c=rows:=by
 rcases h with ⟨rfl,rfl,_⟩|⟨y,rfl,rfl⟩
 ·exact⟨trivial,rfl⟩
 ·have hy:H y=.vec sz rows:=(kn.get (y,.vec sz rows) ZV).1;refine⟨?_,?_⟩
  ·simp[aT,hy]
  ·simp[rowsOf,hy]
theorem Gr.aT (h:Gr Lg sz rows c)(kn:Kn H0 H E (B++Lg)):Go.AE.aT H c:=(h.get kn).1
theorem Gr.rowsOf (h:Gr Lg sz rows c)(kn:Kn H0 H E (B++Lg)):Go.AE.rowsOf H c=rows:=(h.get kn).2
theorem Gr.frz (h:Gr Lg sz rows c)(kn:Kn H0 H E (B++Lg))(hr:∀r∈rows,ai r=true):FrzC H (un H0) c (.sl false sz rows):=by
 rcases h with ⟨rfl,rfl,_⟩|⟨y,rfl,rfl⟩
 ·exact Y.FrzR.nil.sl
 ·exact (Y.FrzR.same hr).aw (BP (kn.loc (y,.vec sz rows) ZV)) (kn.get (y,.vec sz rows) ZV).1 rfl
theorem Gr.frzR {rows':List (List C)}(h:Gr Lg sz rows c)(kn:Kn H0 H E (B++Lg))(hr:Y.FrzR H (un H0) rows rows'):FrzC H (un H0) c (.sl false sz rows'):=by
 rcases h with ⟨rfl,rfl,_⟩|⟨y,rfl,rfl⟩
 ·cases hr;exact Y.FrzR.nil.sl
 ·exact hr.aw (BP (kn.loc (y,.vec sz rows) ZV)) (kn.get (y,.vec sz rows) ZV).1 rfl
structure Slc (H:Heap)(sz:Nat)(rws:List (List C))(b:C):Prop where
 ok:aT H b
 sz:b.aN=sz
 rows:rowsOf H b=rws
 len:Go.AE.a9 b=rws.length
theorem Slc.mk' (H:Heap)(fl:Bool)(sz:Nat)(rows:List (List C)):Slc H sz rows (.sl fl sz rows):=⟨trivial,rfl,rfl,rfl⟩
theorem Kn.grow {K:V→Heap→Prop}{new:List (List C)}{b:C}(kn:Kn H0 H E (B++Lg))(hc:Gr Lg sz rows c)(hb:Slc H sz new b)
  (h1:∀r∈new,ai r=true) (h2:rows.length+new.length≤LIM)
  (h:∀y' H',Kn H0 H' E (B++[(y',.vec sz (rows++new))])→K (.c (.aw y' sz 0 (rows.length+new.length))) H'):appQ H sz c b K:=by
 refine⟨hb.ok,hb.sz,?_⟩;rcases hc with ⟨rfl,rfl,rfl⟩|⟨y,rfl,rfl⟩
 ·simp only[hb.rows,hb.len,Jau,J8,Ja1];refine⟨trivial,.inl trivial,h1,Zbf,fun l hl H' dg=>?_⟩;rw[J1]at kn;have:=h l H' (by simpa using kn.al hl dg);simpa using this
 ·have hy:H y=.vec sz rows:=(kn.get (y,.vec sz rows) ZV).1;simp only[hy,hb.rows,hb.len,Jav,List.take_length];refine⟨trivial,trivial,ZT,h1,h2,fun l' dd H' dg=>?_⟩;refine h l' H' ?_;have:=kn.ap B.length (y:=y) (o:=.vec sz rows) ZV dd dg;simpa using this
end Go.AE
namespace Go.AE.Y
variable {H H':Heap}{R:Rdr}{gl:Nat}{s s':GS}{L:List (Nat×Obj)}{o q:Obj}
def FnsOk (H:Heap)(R:Rdr)(gl:Nat)(s:GS):Prop:=Gr s.ffl.2 3 (Qo s.fns) s.ffl.1∧∀p∈s.ffl.2,H p.1=p.2∧p.1≠R.l∧p.1≠gl
theorem FnsOk.keep (h:FnsOk H R gl s)(kn:Kn H H' [(R.l,o),(gl,q)] L)(h1:s'.fns=s.fns)(h2:s'.ffl=s.ffl):FnsOk H' R gl s':=by
 refine⟨by rw[h1,h2];exact h.1,fun p hp=>?_⟩;rw[h2]at hp;obtain⟨a1,a2,a3⟩:=h.2 p hp;refine⟨?_,a2,a3⟩;have hn:p.2≠.none:=by
  rcases h.1 with ⟨_,_,hx⟩|⟨y,_,hx⟩
  ·rw[hx]at hp;simp at hp
  ·rw[hx]at hp;simp at hp;subst hp;simp
 rw[kn.chg p.1 (by rw[a1];exact hn) (by simp[a2,a3]),a1]
theorem FnsOk.rd (h:FnsOk H R gl s):aT H s.ffl.1=True∧rowsOf H s.ffl.1=Qo s.fns:=by
 rcases h.1 with ⟨h1,h2,h3⟩|⟨y,h1,h3⟩
 ·rw[h1,h2];exact⟨rfl,rfl⟩
 ·have hy:H y=.vec 3 (Qo s.fns):=(h.2 (y,.vec 3 (Qo s.fns)) (by rw[h3];simp)).1;rw[h1];exact⟨by simp[aT,hy],by simp[rowsOf,hy]⟩
theorem FnsOk.ok (h:FnsOk H R gl s)(kn:Kn H H' [(R.l,o),(gl,q)] L):aT H' s.ffl.1=True:=(h.keep kn rfl rfl).rd.1
theorem FnsOk.rows (h:FnsOk H R gl s)(kn:Kn H H' [(R.l,o),(gl,q)] L):rowsOf H' s.ffl.1=Qo s.fns:=(h.keep kn rfl rfl).rd.2
theorem FnsOk.len (h:FnsOk H R gl s):a9 s.ffl.1=s.fns.length:=by rw[h.1.a9,Qu]
theorem FnsOk.esz (h:FnsOk H R gl s):s.ffl.1.aN=3:=h.1.aN
theorem FnsOk.ow (h:FnsOk H R gl s):s.ffl.1.ah=false:=h.1.ah
end Go.AE.Y
namespace Go.AE
variable {H0 H H':Heap}{E L B E0 L0 Lg:List (Nat×Obj)}
def New (H H':Heap)(N:List (Nat×Obj)):Prop:=∀p∈N,H p.1=.none∧H' p.1=p.2
theorem Kn.add1 (kn0:Kn H0 H E0 L0)(kn:Kn H0 H' E L)(hE:E.map Prod.fst=E0.map Prod.fst)(hL:L.map Prod.fst=L0.map Prod.fst){x:Nat}{o:Obj}(hx:H x=.none)(fg:H' x=o)(ho:o≠.none):Kn H0 H' E (L++[(x,o)]):=by
 obtain⟨h1,h2,h3⟩:=kn0.newFree hx;refine⟨fun p hp=>?_,kn.ext,fun p hp=>?_,kn.dE,?_,kn.chg⟩
 ·rw[←Jm]at hp;rcases Jb.1 hp with hp|hp
  ·exact kn.get p hp
  ·simp at hp;subst hp;exact⟨fg,ho⟩
 ·rcases Jb.1 hp with hp|hp
  ·exact kn.loc p hp
  ·simp at hp;subst hp;exact h1
 ·rw[Jv];refine Jo.2 ⟨kn.dL,ZV,fun a ha b hb=>?_⟩;simp at hb;subst hb;rw[hL]at ha;exact fun hh=>h3 (hh▸ha)
theorem Kn.addGr {sz:Nat}{rows:List (List C)}{c:C}(kn0:Kn H0 H E0 L0)(kn:Kn H0 H' E L)(hE:E.map Prod.fst=E0.map Prod.fst)(hL:L.map Prod.fst=L0.map Prod.fst)(hg:Gr Lg sz rows c)(hn:New H H' Lg):Kn H0 H' E (L++Lg):=by
 rcases hg with ⟨_,_,rfl⟩|⟨y,_,rfl⟩
 ·simpa using kn
 ·obtain⟨h1,h2⟩:=hn (y,.vec sz rows) ZV;exact kn0.add1 kn hE hL h1 h2 ZV
def unx (H:Heap)(Lg:List (Nat×Obj))(m:Nat):Bool:=un H m&&!(Lg.map Prod.fst).contains m
theorem Ps {m:Nat}(h:H m≠.none):unx H Lg m=false:=by simp[unx,Gj h]
theorem YF {p:Nat×Obj}(h:p∈Lg):unx H Lg p.1=false:=by
 have:p.1∈Lg.map Prod.fst:=AR h;simp only[unx,Bool.and_eq_false_iff,Bool.not_eq_false'];exact .inr (J5.2 this)
theorem Kn.finx (hk:Kn H0 H E (B++Lg)):Upd H0 (H.frz (Go.AE.unx H0 Lg)) E∧New H0 (H.frz (Go.AE.unx H0 Lg)) Lg:=by
 refine⟨⟨fun p hp=>?_,fun m hm hn=>?_⟩,fun p hp=>⟨hk.loc p (Jd _ hp),?_⟩⟩
 ·have:H.frz (Go.AE.unx H0 Lg) p.1=H p.1:=by simp[Heap.frz,Ps (hk.ext p hp)]
  rw[this];exact (hk.get p (Jc _ hp)).1
 ·have:H.frz (Go.AE.unx H0 Lg) m=H m:=by simp[Heap.frz,Ps hm]
  rw[this];exact hk.chg m hm hn
 ·have:H.frz (Go.AE.unx H0 Lg) p.1=H p.1:=by simp only[Heap.frz];rw[YF hp];rfl
  rw[this];exact (hk.get p (Jd _ (Jd _ hp))).1
end Go.AE
namespace Go.AE.Y
theorem Be {b:Bool}(h:(!b)=false):b=true:=Zaz
theorem BD {b:Bool}(h:(!b)=true):b=false:=Zaz
theorem Ex.ne_nil (x:Ex):(x.cells=[])=False:=by rw[x.aa];simp
theorem Ex.bA (x:Ex):x.cells.take 4=x.cells:=Jw (by rw[x.ae];omega)
theorem Ex.aU (x:Ex):(x.cells.all fun c=>!c.ah)=true:=x.ai
theorem St.take5 (x:St):x.cells.take 5=x.cells:=Jw (by rw[x.ae];omega)
theorem St.aU (x:St):(x.cells.all fun c=>!c.ah)=true:=x.ai
theorem Fn.take3 (x:Fn):x.cells.take 3=x.cells:=Jw (by rw[x.ae];omega)
theorem Fn.aU (x:Fn):(x.cells.all fun c=>!c.ah)=true:=x.ai
end Go.AE.Y
namespace Go.AE
variable {H0 H H':Heap}{E L B A:List (Nat×Obj)}{P:Program}
theorem c_gh {b:SC}{Q:X→Env→Heap→Prop}{e e':Env}(h:DC e H e' H')(hb:Q6 P b Q e' H'):Q6 P (.seq .gh b) Q e H:=⟨e',H',h,hb⟩
theorem Kn.drop (kn:Kn H0 H E (A++B)):Kn H0 H E A:=
 ⟨fun p hp=>kn.get p (by
   rcases Jb.1 hp with h|h
   ·exact Jc _ h
   ·exact Jd _ (Jc _ h)),kn.ext,fun p hp=>kn.loc p (Jc _ hp),kn.dE,by
   have:=kn.dL;rw[Jv]at this;exact (Jo.1 this).1,kn.chg⟩
theorem Kn.freeze {z gl:Nat}{o og og':Obj}(kn:Kn H0 H E (B++[(z,o)]))(i:Nat)(hB:B[i]? = some (gl,og))(hO:FrzO H (fun m=>m == z) og og')(hn:og'≠.none) :
  FrzH H (fun m=>m == z) ((H.frz fun m=>m == z).set gl og')∧Kn H0 ((H.frz fun m=>m == z).set gl og') E (B.set i (gl,og')):=by
 have dM:H0 z=.none:=kn.loc (z,o) ZV;have du:=kn.dL;rw[Jv]at du;have aP:∀p∈B,p.1≠z:=fun p hp hh=>(Jo.1 du).2.2 _ (AR hp) z ZV hh;have mN:∀p∈E,p.1≠z:=fun p hp hh=>kn.ext p hp (hh▸dM);have iN:=aP _ (Ja hB);have hH:H gl=og:=(kn.get (gl,og) (Jd _ (Jc _ (Ja hB)))).1;refine⟨(E7 _ _).set (by simpa using iN) (by rw[hH];exact hO),?_⟩;have kn1:Kn H0 (H.frz fun m=>m == z) E B:=by
  refine⟨fun p hp=>?_,kn.ext,fun p hp=>kn.loc p (Jc _ hp),kn.dE,(Jo.1 du).1,fun m hm hx=>?_⟩
  ·have:p.1≠z:=by
    rcases Jb.1 hp with h|h
    ·exact mN p h
    ·exact aP p h
   have h2:(H.frz fun m=>m == z) p.1=H p.1:=by simp[Heap.frz,this]
   rw[h2];refine kn.get p ?_;rcases Jb.1 hp with h|h
   ·exact Jc _ h
   ·exact Jd _ (Jc _ h)
  ·have:m≠z:=fun h=>hm (h▸dM);have h2:(H.frz fun m=>m == z) m=H m:=by simp[Heap.frz,this]
   rw[h2];exact kn.chg m hm hx
 exact kn1.setL i hB hn
theorem Kn.callEL (hk:Kn H0 H E L)(i j:Nat){l m:Nat}{o o' q q':Obj}(h:E[i]? = some (l,o))(h2:L[j]? = some (m,q))(hu:Upd H H' [(l,o'),(m,q')])(ho:o'≠.none)(hq:q'≠.none) :
  Kn H0 H' (E.set i (l,o')) (L.set j (m,q')):=by
 refine hk.callg hu (D1 h) (D1 h2) (fun p hp=>?_) (fun u hu=>?_)
 ·rcases Jb.1 hp with hp|hp
  ·rcases C9 hp with rfl|⟨b,hb,hp⟩
   ·exact⟨ho,.inl ZV⟩
   ·have hm:=Jc L (Ja hp);refine⟨(hk.get p hm).2,.inr ⟨hm,?_⟩⟩;simp only[Jr,Jaa,Jk,J7,or_false,not_or];exact⟨fun hh=>hb (CG hk.dE hp h hh),fun hh=>hk.ext p (Ja hp) (hh▸hk.free j h2)⟩
  ·rcases C9 hp with rfl|⟨b,hb,hp⟩
   ·exact⟨hq,.inl ZV⟩
   ·have hm:=Jd E (Ja hp);refine⟨(hk.get p hm).2,.inr ⟨hm,?_⟩⟩;simp only[Jr,Jaa,Jk,J7,or_false,not_or];exact⟨fun hh=>hk.usedE i h (hh▸hk.loc p (Ja hp)),fun hh=>hb (CG hk.dL hp h2 hh)⟩
 ·simp at hu;rcases hu with rfl|rfl
  ·exact .inl (AR (p:=(l,o)) (Ja h))
  ·exact .inr (AR (p:=(m,q)) (Ja h2))
end Go.AE
namespace Go.AE
variable {H0 F H:Heap}{E E0 E' L L1 L2 M:List (Nat×Obj)}
theorem Kn.startE (h:∀p∈E,H p.1=p.2∧p.2≠.none)(hd:(E.map Prod.fst).Nodup):Kn H H E []:=
 ⟨Zaz,fun p hp=>by rw[(h p hp).1];exact (h p hp).2,ZV,hd,ZV,fun _ _ _=>rfl⟩
theorem Kn.comp (k1:Kn H0 F E0 (L1++L2))(k2:Kn F H E' M)(hE:E'.map Prod.fst=L1.map Prod.fst):Kn H0 H E0 ((E'++L2)++M):=by
 have hd:=k1.dL;rw[Jv]at hd;obtain⟨d1,d2,d3⟩:=Jo.1 hd;have tS:∀p∈E0,F p.1=p.2∧p.2≠.none:=fun p hp=>k1.get p (Jc _ hp);have qd:∀p∈L2,F p.1=p.2∧p.2≠.none:=fun p hp=>k1.get p (Jd _ (Jd _ hp));have inL1:∀p∈E',∃q∈L1,q.1=p.1:=fun p hp=>by
  have:=AR hp;rw[hE]at this;obtain⟨q,h1,h2⟩:=Jj.1 this;exact⟨q,h1,h2⟩
 have keep:∀m,F m≠.none→m∉L1.map Prod.fst→H m=F m:=fun m h1 h2=>k2.chg m h1 (by rw[hE];exact h2);have sA:∀p∈E0,∀q∈L1,p.1≠q.1:=fun p hp q hq hh=>k1.ext p hp (hh▸k1.loc q (Jc _ hq));refine⟨fun p hp=>?_,k1.ext,fun p hp=>?_,k1.dE,?_,fun m hm hn=>?_⟩
 ·rcases Jb.1 hp with hp|hp
  ·obtain⟨h1,h2⟩:=tS p hp;refine⟨?_,h2⟩;rw[keep p.1 Zbb (fun hh=>?_),h1];obtain⟨q,hq,hqq⟩:=Jj.1 hh;exact sA p hp q hq hqq.symm
  ·rcases Jb.1 hp with hp|hp
   ·rcases Jb.1 hp with hp|hp
    ·exact k2.get p (Jc _ hp)
    ·obtain⟨h1,h2⟩:=qd p hp;refine⟨?_,h2⟩;rw[keep p.1 Zbb (fun hh=>?_),h1];exact d3 _ hh _ (AR hp) rfl
   ·exact k2.get p (Jd _ hp)
 ·rcases Jb.1 hp with hp|hp
  ·rcases Jb.1 hp with hp|hp
   ·obtain⟨q,hq,hh⟩:=inL1 p hp;rw[←hh];exact k1.loc q (Jc _ hq)
   ·exact k1.loc p (Jd _ hp)
  ·have h1:=k2.loc p hp
   cases h0:H0 p.1 with
   |none=>rfl
   |_=>
    by_cases hx:p.1∈E0.map Prod.fst
    ·obtain⟨q,hq,hh⟩:=Jj.1 hx;obtain⟨a1,a2⟩:=tS q hq;rw[hh,h1]at a1;exact absurd a1.symm a2
    ·have:=k1.chg p.1 (by rw[h0];simp) hx;rw[h1,h0]at this;simp at this
 ·rw[Jv,Jv];refine Jo.2 ⟨Jo.2 ⟨k2.dE,d2,fun a ha b hb=>?_⟩,k2.dL,fun a ha b hb cK=>?_⟩
  ·rw[hE]at ha;exact d3 a ha b hb
  ·obtain⟨q,hq,rfl⟩:=Jj.1 hb;have hf:=k2.loc q hq;rcases Jb.1 ha with ha|ha
   ·obtain⟨r,hr,rfl⟩:=Jj.1 ha;exact k2.ext r hr (cK▸hf)
   ·obtain⟨r,hr,rfl⟩:=Jj.1 ha;obtain⟨a1,a2⟩:=qd r hr;rw[cK,hf]at a1;exact a2 a1.symm
 ·rw[keep m (by rw[k1.chg m hm hn];exact hm) (fun hh=>?_),k1.chg m hm hn];obtain⟨q,hq,rfl⟩:=Jj.1 hh;exact hm (k1.loc q (Jc _ hq))
theorem Kn.upd (k:Kn H0 H E L):Upd H0 H E:=⟨fun p hp=>(k.get p (Jc _ hp)).1,fun m hm hn=>k.chg m hm hn⟩
theorem Y.FrzL.ptr {S:Nat→Bool}{l:Nat}{cells cells':List C}(hS:S l=true)(hH:H l=.st cells)(h:FrzL H S cells cells'):FrzC H S (.ptr l 0) (.pp cells'):=by
 obtain⟨h1,h2⟩:=h.spec;exact .ptr l 0 cells cells cells' hS hH rfl h1 h2
theorem Kn.aQ {B Lg:List (Nat×Obj)}{K:V→Heap→Prop}{sz:Nat}{rows new:List (List C)}{b c:C}(kn:Kn H0 H E (B++Lg))(hc:Gr Lg sz rows c)(hb:Slc H sz new b)
  (h1:∀r∈new,ai r=true) (h2:rows.length+new.length≤LIM)
  (h:∀t Lg' H',Gr Lg' sz (rows++new) t→t.ah=false→Kn H0 H' E (B++Lg')→K (.c t) H'):appQ H sz c b K:=
 kn.grow hc hb h1 h2 fun y' H' k=>h _ _ H' (.mk y' sz _ ZV) rfl k
theorem Kn.comp0 {H':Heap}{N:List (Nat×Obj)}(kn:Kn H0 H E L)(k2:Kn H H' [] N):Kn H0 H' E (L++N):=by
 have aP:∀p∈E++L,H p.1≠.none:=fun p hp=>by obtain⟨a,b⟩:=kn.get p hp;rw[a];exact b
 refine⟨fun p hp=>?_,kn.ext,fun p hp=>?_,kn.dE,?_,fun m hm hx=>?_⟩
 ·rw[←Jm]at hp;rcases Jb.1 hp with hp|hp
  ·obtain⟨a,b⟩:=kn.get p hp;exact⟨by rw[k2.chg p.1 (aP p hp) ZV,a],b⟩
  ·exact k2.get p Zat
 ·rcases Jb.1 hp with hp|hp
  ·exact kn.loc p hp
  ·exact (kn.newFree (k2.loc p hp)).1
 ·rw[Jv];refine Jo.2 ⟨kn.dL,k2.dL,fun a ha b hb cK=>?_⟩;obtain⟨p,hp,rfl⟩:=Jj.1 ha;obtain⟨q,hq,rfl⟩:=Jj.1 hb;exact aP p (Jd _ hp) (by rw[cK];exact k2.loc q hq)
 ·have:=kn.chg m hm hx;rw[k2.chg m (by rw[this];exact hm) ZV,this]
theorem Kn.sub {L':List (Nat×Obj)}(kn:Kn H0 H E L)(hs:L'.Sublist L):Kn H0 H E L':=
 ⟨fun p hp=>kn.get p (by
   rcases Jb.1 hp with h|h
   ·exact Jc _ h
   ·exact Jd _ (hs.subset h)),kn.ext,fun p hp=>kn.loc p (hs.subset hp),kn.dE,kn.dL.sublist (hs.map _),kn.chg⟩
end Go.AE
namespace Go.AE
variable {P:Program}{H:Heap}{g:G}{w:World}
def C.free:C→Bool
 |.int _ _|.bool _|.str _|.pnil|.aw _ _ _ _=>true
 |.sl true _ []=>true
 |_=>false
def V.free1:V→Bool
 |.c x=>x.free
 |.ag cs=>cs.all C.free
 |_=>false
def V.free:V→Bool
 |.c x=>x.free
 |.ag cs=>cs.all C.free
 |.tup vs=>vs.all V.free1
 |_=>false
theorem RL {w:World}{g g':G}(bI:∀l x,g.io l=some x→g'.io l=some x){c:C}{v:Value}(hc:c.free=true)(h:RepC w g c v):RepC w g' c v:=by
 cases h with
 |int k n=>exact .int _ _
 |bool b=>exact .bool _
 |str _ h=>exact .str _ h
 |pnil=>exact .pnil
 |bD l sz st a=>exact .bD _ _ _ _
 |aw l sz st n cap b base T m h hn hs hm=>exact .aw l sz st n cap b base T m (bI _ _ h) hn hs hm
 |bn fl sz a=>exact .bn _ _ _
 |sl fl sz rows b off cap val hl hf cR hp hr bU hv=>
  cases fl with
  |false=>cases rows <;> simp[C.free]at hc
  |true=>
   cases rows with
   |cons r rs=>simp[C.free]at hc
   |nil=>
    have:=hf rfl;subst this;exact .bn _ _ _
 |_=>simp[C.free]at hc
theorem Qbfo {w:World}{g g':G}(bI:∀l x,g.io l=some x→g'.io l=some x){c:V}{v:Value}(hc:c.free1=true)(h:RepV w g c v):RepV w g' c v:=by
 cases h with
 |c x v h=>exact .c _ _ (RL bI hc h)
 |ag cs vs hl h=>exact .ag _ _ hl fun j c u h1 h2=>RL bI (Js.1 hc c (Ja h1)) (h j c u h1 h2)
 |_=>simp[V.free1]at hc
theorem Qbfp {w:World}{g g':G}(bI:∀l x,g.io l=some x→g'.io l=some x){c:V}{v:Value}(hc:c.free=true)(h:RepV w g c v):RepV w g' c v:=by
 cases h with
 |c x v h=>exact .c _ _ (RL bI hc h)
 |ag cs vs hl h=>exact .ag _ _ hl fun j c u h1 h2=>RL bI (Js.1 hc c (Ja h1)) (h j c u h1 h2)
 |tup xs vs hl h=>exact .tup _ _ hl fun j x u h1 h2=>Qbfo bI (Js.1 hc x (Ja h1)) (h j x u h1 h2)
 |_=>simp[V.free]at hc
def Ap (H:Heap):Heap:=fun l=>match H l with
 |.gl b c=>.gl b c
 |_=>.none
def Co (H H':Heap):Heap:=fun l=>match H l with
 |.none=>H' l
 |o=>o
def NewL (H H':Heap):Prop:=∀m,H' m=H m∨(H m=.none∧∃sz rows,H' m=.vec sz rows∧∀r∈rows,∀c∈r,c.free=true)
def Bx (g:G)(H:Heap)(S:Nat→Bool)(b:Nat):Bool:=match g.own b with
 |some (l,_)=>S l&&(H l).used
 |none=>false
theorem Mk {f:Nat}{args args':List V}{K:V→Heap→Prop}(S:Nat→Bool)(jo:args'.length=args.length)
  (ha:∀(j:Nat) (x y:V),args[j]? = some x→args'[j]? = some y→FrzV H S x y)
  (h:Qm P f args' (Ap H) fun x H'=>x.free=true∧NewL (Ap H) H'∧((∀l,H l≠.none→H' l=Ap H l)→K x (Co H H'))):Qm P f args H K:=by
 refine⟨h.1,fun g w vs hs hl hv=>?_⟩;have oR:=Fk H S g w;have gV:=C3 hs S;have hio0:(g.frz H S).io=g.io:=rfl;have tj:∀b,Bx g H S b=true→(g.frz H S).per b=true:=fun b hb=>by
  simp only[G.frz,Bool.or_eq_true];exact .inr hb
 have bO:∀b,Bx g H S b=false→(g.frz H S).own b=g.own b:=fun b hb=>by
  simp only[Bx]at hb;simp only[G.frz]
  cases ho:g.own b with
  |none=>rfl
  |some x=>
   obtain⟨l,p⟩:=x;rw[ho]at hb;simp only at hb⊢;rw[if_neg Zas]
 have iN:∀(w2:World) (g2:G) (H2:Heap),Le g w g2 w2→∀l b c,H l=.gl b c→SatObj H2 g2 w2 l (.gl b c):=by
  intro w2 g2 H2 aE l b c hh;have:=hs.objs l;rw[hh]at this;obtain⟨sz,val,k1,k2,k3,k4⟩:=this;exact⟨sz,val,aE.io _ _ k1,(aE.per b k2).1,fun j c hj=>by rw[SJ (w:=w) (aE.per b k2).2];exact k3 j c hj,fun j c hj=>(k4 j c hj).mono aE⟩
 have hsF:Sat (Ap H) (g.frz H S) w:=by
  refine⟨gV.sat.fresh,gV.sat.names,gV.sat.excl,gV.sat.named,fun l=>?_⟩
  cases hh:H l with
  |gl b c=>
   have:Ap H l=.gl b c:=Zba
   rw[this];exact iN w _ _ oR l b c hh
  |_=>
   have:Ap H l=.none:=Zba
   rw[this];exact trivial
 have lw:∀(j:Nat) (x:V) (u:Value),args'[j]? = some x→vs[j]? = some u→RepV w (g.frz H S) x u:=fun j y u h1 h2=>by
  obtain⟨x,hx⟩:=AG jo h1;exact EI hs (ha j x y hx h1) u (hv j x u hx h2)
 refine Calls.mono (h.2 (g.frz H S) w vs hsF (by rw[jo];exact hl) lw) ?_;rintro e w' (⟨v,x,H',g',he,⟨hfree,cx,hk⟩,aC,hr⟩|⟨v,H',g',he,⟨hfree,_⟩,_⟩)
 rotate_left
 ·simp[V.free]at hfree
 let gB:G:=⟨fun b=>g'.per b&&!Bx g H S b,fun b=>if Bx g H S b=true then g.own b else g'.own b,g'.io⟩;have tp:∀b,Bx g H S b=true→g'.per b=true∧w'.heap[b]? = w.heap[b]?:=fun b hb=>aC.le.per b (tj b hb);have ft:∀b,g.per b=true→Bx g H S b=false:=fun b hb=>by
  cases hx:Bx g H S b with
  |false=>rfl
  |true=>
   simp only[Bx]at hx
   cases ho:g.own b with
   |none=>rw[ho]at hx;simp at hx
   |some y=>rw[hs.excl b y ho]at hb;simp at hb
 have rl:∀b y,g'.own b=some y→Bx g H S b=false:=fun b y hb=>by
  cases hx:Bx g H S b with
  |false=>rfl
  |true=>
   have:=(tp b hx).1;rw[aC.sat.excl b y hb]at this;simp at this
 have aE:Le g w gB w':=⟨fun b hb=>by
   obtain⟨k1,k2⟩:=aC.le.per b (oR.per b hb).1;exact⟨by simp only[gB,k1,ft b hb];rfl,k2⟩,fun l y hy=>aC.le.io l y hy,aC.le.size,aC.le.shp,aC.le.tape,aC.le.os,aC.le.output⟩
 have lE:∀l,H l≠.none→(∀b c,H l≠.gl b c)→Cp g w gB w' l:=by
  intro l h1 h2 b q hb
  cases hx:Bx g H S b with
  |true=>exact⟨by simp only[gB,hx,if_true];exact hb,(tp b hx).2⟩
  |false=>
   have e1:Ap H l=.none:=by simp only[Ap]
   obtain⟨_,k2⟩:=aC.fr l (hs.io_some h1) e1;obtain⟨k3,k4⟩:=k2 b q (by rw[bO b hx];exact hb);exact⟨by simp only[gB,hx];exact k3,k4⟩
 have kb:∀l,H l=.none→Co H H' l=H' l:=fun l hl=>by simp only[Co,hl]
 have gE:∀l,H l≠.none→Co H H' l=H l:=fun l hl=>by
  simp only[Co]
 have hkh:∀l,H l≠.none→H' l=Ap H l:=fun l hl=>by
  cases hh:H l with
  |gl b c=>
   have e1:Ap H l=.gl b c:=Zba
   rcases cx l with h1|⟨h1,_⟩
   ·exact h1
   ·rw[e1]at h1;simp at h1
  |none=>exact absurd hh hl
  |_=>
   have e1:Ap H l=.none:=Zba
   rw[e1];exact (aC.fr l (hs.io_some hl) e1).1
 refine .inl ⟨v,x,Co H H',gB,he,hk hkh,⟨aE,?_,⟨?_,?_,?_,?_,?_⟩⟩,Qbfp (g:=g') (g':=gB) (fun _ _ h=>h) hfree hr⟩
 ·intro l hl hn;have e1:Ap H l=.none:=by simp only[Ap,hn]
  obtain⟨k1,k2⟩:=aC.fr l hl e1;refine⟨by rw[kb l hn];exact k1,fun b p hb=>?_⟩;have hx:Bx g H S b=false:=by simp only[Bx,hb,hn,Obj.used,Jam]
  obtain⟨k3,k4⟩:=k2 b p (by rw[bO b hx];exact hb);exact⟨by simp only[gB,hx];exact k3,k4⟩
 ·intro b hb;obtain⟨k1,k2⟩:=aC.sat.fresh b hb;have hx:Bx g H S b=false:=by
   have:=(hs.fresh b (Ja0 aC.le.size hb)).2;simp only[Bx,this]
  exact⟨by simp only[gB,k1,Jan],by simp only[gB,hx];exact k2⟩
 ·exact aC.sat.names
 ·intro b y hb
  cases hx:Bx g H S b with
  |true=>simp only[gB,hx,Jaw,Jam]
  |false=>
   simp only[gB,hx,J9,if_false]at hb;simp only[gB,aC.sat.excl b y hb,Jan]
 ·intro b l p hb
  cases hx:Bx g H S b with
  |true=>
   simp only[gB,hx,if_true]at hb;have h1:=hs.named b l p hb
   cases h2:g.io l with
   |none=>exact absurd h2 h1
   |some y=>
    have:=aC.le.io l y h2;show g'.io l≠none;rw[this];simp
  |false=>
   simp only[gB,hx,J9,if_false]at hb;exact aC.sat.named b l p hb
 ·intro l
  cases hh:H l with
  |none=>
   rw[kb l hh];have e1:Ap H l=.none:=Zba
   rcases cx l with h1|⟨_,sz,rows,h1,h2⟩
   ·rw[h1,e1];exact trivial
   ·have ho:=aC.sat.objs l;rw[h1]at ho⊢;rcases ho with ho|⟨b,base,T,cs,val,r1,r2,r3,r4,r5,r6,r7,r8⟩
    ·exact .inl ho
    ·refine .inr ⟨b,base,T,cs,val,r1,by simp only[gB,rl b _ r2];exact r2,r3,r4,r5,r6,r7,fun i row j c hi hj=>?_⟩;have hf:=h2 row (Ja hi) c (Ja hj);exact .plain _ _ _ _ (RL (g:=g') (g':=gB) (fun _ _ h=>h) hf ((r8 i row j c hi hj).plain_of fun sz rows hc=>by subst hc;simp[C.free]at hf))
  |gl b c=>
   rw[gE l ZbK,hh];exact iN w' gB _ aE l b c hh
  |_=>
   refine SatObj.keep (H':=Co H H') hs aE (lE l ZbK ZbK) (gE l ZbK) fun m' v left cur hc v' es hv=>?_;have rz:g.io m'≠none:=by
    have:=hs.objs l;rw[hc]at this;obtain⟨b,mb,s,se,_,_,_,h4,_⟩:=this;rw[h4];simp
   cases hm:H m' with
   |none=>
    rw[kb m' hm]at hv;have e1:Ap H m'=.none:=(by simp only[Ap,hm]);rw[(aC.fr m' rz e1).1]at hv;simp at hv
   |map v0 es0=>
    rw[gE m' ZbL,hm]at hv;exact .inl ⟨hv,lE m' ZbL ZbL⟩
   |_=>rw[gE m' ZbL,hm]at hv;simp at hv
end Go.AE
namespace Go.AE
variable {P:Program}{H0 H H':Heap}{E L M N A B Lg:List (Nat×Obj)}{S:Nat→Bool}{K:V→Heap→Prop}
def C.atom:C→Bool
 |.int _ _|.bool _|.str _=>true
 |_=>false
inductive OwL:List (Nat×Obj)→List C→List C→Prop
 |nil:OwL [] [] []
 |atom {L c cs cs'} (h:C.atom c=true) (t:OwL L cs cs'):OwL L (c::cs) (c::cs')
 |sln {L sz cs cs'} (t:OwL L cs cs'):OwL L (.sl true sz []::cs) (.sl false sz []::cs')
 |vec {L M y sz rows rows' n cs cs'} (hn:n=rows.length) (hl:rows'.length=rows.length) (hr:∀r∈rows,r.length=sz) (bx:∀r∈rows',r.length=sz)
   (h:OwL M rows.flatten rows'.flatten) (t:OwL L cs cs'):OwL (((y,.vec sz rows)::M)++L) (.aw y sz 0 n::cs) (.sl false sz rows'::cs')
theorem OwL.len {cs cs':List C}(h:OwL L cs cs'):cs'.length=cs.length:=by
 induction h with
 |nil=>rfl
 |atom _ _ ih=>simp[ih]
 |sln _ ih=>simp[ih]
 |vec _ _ _ _ _ _ _ ih=>simp[ih]
theorem OwL.app {a a' b b':List C}(h:OwL L a a')(k:OwL M b b'):OwL (L++M) (a++b) (a'++b'):=by
 induction h with
 |nil=>exact k
 |atom h _ ih=>exact .atom h ih
 |sln _ ih=>exact .sln ih
 |vec hn hl hr bx h _ _ ih=>rw[Jm];exact .vec hn hl hr bx h ih
theorem OwL.split {b:List C}:∀{a:List C} {L:List (Nat×Obj)} {cs':List C},OwL L (a++b) cs'→∃L1 L2 a' b',L=L1++L2∧cs'=a'++b'∧OwL L1 a a'∧OwL L2 b b'
 |[],L,cs',h=>⟨[],L,[],cs',rfl,rfl,.nil,h⟩
 |c::a,L,cs',h=>by
  rw[Jag]at h
  cases h with
  |atom h t=>
   obtain⟨L1,L2,a',b',rfl,rfl,h1,h2⟩:=OwL.split t;exact⟨L1,L2,_::a',b',rfl,rfl,.atom h h1,h2⟩
  |sln t=>
   obtain⟨L1,L2,a',b',rfl,rfl,h1,h2⟩:=OwL.split t;exact⟨L1,L2,_::a',b',rfl,rfl,.sln h1,h2⟩
  |vec hn hl hr bx h t=>
   obtain⟨L1,L2,a',b',rfl,rfl,h1,h2⟩:=OwL.split t;exact⟨_++L1,L2,_::a',b',(Jm _ _ _).symm,rfl,.vec hn hl hr bx h h1,h2⟩
theorem OwL.ai {cs cs':List C}(h:OwL L cs cs'):ai cs=true:=by
 induction h with
 |nil=>rfl
 |@atom _ c _ _ h _ ih=>
  simp only[Go.AE.ai,Jt,Jg]at ih⊢;exact⟨by cases c <;> first|rfl|simp[C.atom]at h,ih⟩
 |sln _ ih=>simp only[Go.AE.ai,Jt,Jg]at ih⊢;exact⟨rfl,ih⟩
 |vec _ _ _ _ _ _ _ ih=>simp only[Go.AE.ai,Jt,Jg]at ih⊢;exact⟨rfl,ih⟩
theorem OwL.free {cs cs':List C}(h:OwL L cs cs'):cs.all C.free=true:=by
 induction h with
 |nil=>rfl
 |@atom _ c _ _ h _ ih=>
  simp only[Jt,Jg]at ih⊢;exact⟨by cases c <;> first|rfl|simp[C.atom]at h,ih⟩
 |sln _ ih=>simp only[Jt,Jg]at ih⊢;exact⟨rfl,ih⟩
 |vec _ _ _ _ _ _ _ ih=>simp only[Jt,Jg]at ih⊢;exact⟨rfl,ih⟩
theorem OwL.vecs {cs cs':List C}(h:OwL L cs cs'):∀p∈L,∃sz rows,p.2=.vec sz rows∧∀r∈rows,∀c∈r,c.free=true:=by
 induction h with
 |nil=>simp
 |atom _ _ ih=>exact ih
 |sln _ ih=>exact ih
 |vec _ _ _ _ h _ ih1 ih2=>
  intro p hp;rcases Jb.1 hp with hp|hp
  ·rcases Jk.1 hp with rfl|hp
   ·exact⟨_,_,rfl,fun r hr c hc=>Js.1 h.free c (List.mem_flatten.2 ⟨r,hr,hc⟩)⟩
   ·exact ih1 p hp
  ·exact ih2 p hp
theorem LJ {b:List C}:∀{a:List C} {cs':List C},FrzL H S (a++b) cs'→∃a' b',cs'=a'++b'∧FrzL H S a a'∧FrzL H S b b'
 |[],cs',h=>⟨[],cs',rfl,.nil,h⟩
 |c::a,cs',h=>by
  rw[Jag]at h
  cases h with
  |cons h t=>
   obtain⟨a',b',rfl,h1,h2⟩:=LJ t;exact⟨_::a',b',rfl,.cons h h1,h2⟩
theorem IW {sz:Nat}:∀{rows rows':List (List C)},rows'.length=rows.length→(∀r∈rows,r.length=sz)→(∀r∈rows',r.length=sz)→FrzL H S rows.flatten rows'.flatten→Y.FrzR H S rows rows'
 |[],[],_,_,_,_=>.nil
 |r::rows,r'::rows',hl,h1,h2,h=>by
  rw[List.flatten_cons,List.flatten_cons]at h;obtain⟨a',b',h3,h4,h5⟩:=LJ h;have jo:a'.length=r'.length:=by rw[h4.spec.1,h1 r ZV,h2 r' ZV]
  obtain⟨rfl,rfl⟩:=List.append_inj h3.symm jo;exact .cons h4 (IW ZaG (fun x hx=>h1 x Zbw) (fun x hx=>h2 x Zbw) h5)
 |[],_::_,hl,_,_,_=>Zch
 |_::_,[],hl,_,_,_=>Zch
theorem OwL.frz {cs cs':List C}(h:OwL L cs cs')(hm:∀p∈L,H p.1=p.2∧S p.1=true):FrzL H S cs cs':=by
 induction h with
 |nil=>exact .nil
 |@atom _ c _ _ h _ ih=>exact .cons (.same _ (by cases c <;> first|rfl|simp[C.atom]at h)) (ih hm)
 |sln _ ih=>exact .cons Y.FrzR.nil.sl (ih hm)
 |vec hn hl hr bx h _ ih1 ih2=>
  refine .cons ?_ (ih2 fun p hp=>hm p (Jd _ hp));obtain⟨h1,h2⟩:=hm _ (Jc _ Jaq);exact (IW hl hr bx (ih1 fun p hp=>hm p (Jc _ (Jal _ hp)))).aw h2 h1 hn
def OwS (L:List (Nat×Obj))(sz:Nat)(rows':List (List C))(t:C):Prop:=
 (t=.sl true sz []∧rows'=[]∧L=[])∨∃y M rows,t=.aw y sz 0 rows.length∧L=(y,.vec sz rows)::M∧rows'.length=rows.length∧(∀r∈rows,r.length=sz)∧(∀r∈rows',r.length=sz)∧OwL M rows.flatten rows'.flatten
theorem OwS.cons {sz:Nat}{rows':List (List C)}{t:C}{cs cs':List C}(h:OwS L sz rows' t)(k:OwL M cs cs'):OwL (L++M) (t::cs) (.sl false sz rows'::cs'):=by
 rcases h with ⟨rfl,rfl,rfl⟩|⟨y,N,rows,rfl,rfl,h1,h2,h3,h4⟩
 ·exact .sln k
 ·exact .vec rfl h1 h2 h3 h4 k
theorem OwS.one {sz:Nat}{rows':List (List C)}{t:C}(h:OwS L sz rows' t):OwL L [t] [.sl false sz rows']:=by
 have:=h.cons .nil
 rwa [J1]at this
theorem OwS.ah {sz:Nat}{rows':List (List C)}{t:C}(h:OwS L sz rows' t):t.ah=false:=by rcases h with ⟨rfl,_⟩|⟨y,N,rows,rfl,_⟩ <;> rfl
theorem OwS.aN {sz:Nat}{rows':List (List C)}{t:C}(h:OwS L sz rows' t):t.aN=sz:=by rcases h with ⟨rfl,_⟩|⟨y,N,rows,rfl,_⟩ <;> rfl
theorem OwS.a9 {sz:Nat}{rows':List (List C)}{t:C}(h:OwS L sz rows' t):a9 t=rows'.length:=by
 rcases h with ⟨rfl,rfl,_⟩|⟨y,N,rows,rfl,_,h,_⟩
 ·rfl
 ·exact h.symm
theorem OwL.inv_atom {cs cs':List C}{c':C}(hc:c'.atom=true)(h:OwL L cs (c'::cs')):∃cs0,cs=c'::cs0∧OwL L cs0 cs':=by
 cases h with
 |atom h t=>exact⟨_,rfl,t⟩
 |sln t=>simp[C.atom]at hc
 |vec=>simp[C.atom]at hc
theorem OwL.inv_sl {cs cs':List C}{sz:Nat}{rows':List (List C)}{fl:Bool}(h:OwL L cs (.sl fl sz rows'::cs')):∃t cs0 L1 L2,cs=t::cs0∧L=L1++L2∧OwS L1 sz rows' t∧OwL L2 cs0 cs':=by
 cases h with
 |atom h t=>simp[C.atom]at h
 |sln t=>exact⟨_,_,[],L,rfl,rfl,.inl ⟨rfl,rfl,rfl⟩,t⟩
 |vec hn hl hr bx h t=>exact⟨_,_,_,_,rfl,rfl,.inr ⟨_,_,_,by rw[hn],rfl,hl,hr,bx,h⟩,t⟩
theorem OwL.inv_nil {cs:List C}(h:OwL L cs []):cs=[]∧L=[]:=by cases h;exact⟨rfl,rfl⟩
theorem OwL.inv_one {cs:List C}{sz:Nat}{rows':List (List C)}{fl:Bool}(h:OwL L cs [.sl fl sz rows']):∃t,cs=[t]∧OwS L sz rows' t:=by
 obtain⟨t,cs0,L1,L2,rfl,rfl,h1,h2⟩:=h.inv_sl;obtain⟨rfl,rfl⟩:=h2.inv_nil;exact⟨t,rfl,by rwa [J1]⟩
theorem Gr.ows {sz:Nat}{rows rows':List (List C)}{t:C}(h:Gr Lg sz rows t)(hl:rows'.length=rows.length)(hr:∀r∈rows,r.length=sz)(bx:∀r∈rows',r.length=sz)(k:OwL M rows.flatten rows'.flatten):OwS (Lg++M) sz rows' t:=by
 rcases h with ⟨rfl,rfl,rfl⟩|⟨y,rfl,rfl⟩
 ·have:rows'=[]:=Ju.1 ZaG;subst this;cases k;exact .inl ⟨rfl,rfl,rfl⟩
 ·exact .inr ⟨y,M,rows,rfl,rfl,hl,hr,bx,k⟩
theorem OwS.gr {sz:Nat}{rows':List (List C)}{t:C}(h:OwS L sz rows' t):∃Lg M rows,L=Lg++M∧Gr Lg sz rows t∧rows'.length=rows.length∧(∀r∈rows,r.length=sz)∧(∀r∈rows',r.length=sz)∧OwL M rows.flatten rows'.flatten:=by
 rcases h with ⟨rfl,rfl,rfl⟩|⟨y,N,rows,rfl,rfl,h1,h2,h3,h4⟩
 ·exact⟨[],[],[],rfl,.nil sz,rfl,ZV,ZV,.nil⟩
 ·exact⟨[_],N,rows,rfl,.mk y sz rows rfl,h1,h2,h3,h4⟩
def lntL (L:List (Nat×Obj))(m:Nat):Bool:=(L.map Prod.fst).contains m
theorem DI {p:Nat×Obj}(h:p∈L):lntL L p.1=true:=J5.2 (AR h)
theorem C.free_ow {c:C}(h:c.free=true):c.ah=false:=by cases c <;> first|rfl|simp[C.free]at h
theorem Q9h {x:V}(h:x.free1=true):FrzV H S x x:=by
 cases x with
 |c x=>exact .c _ _ (.same _ (C.free_ow h))
 |ag cs=>
  refine .ag _ _ rfl fun j c c' h1 h2=>?_;rw[h1,Jf]at h2;subst h2;exact .same _ (C.free_ow (Js.1 h c (Ja h1)))
 |_=>simp[V.free1]at h
theorem KC {x:V}(h:x.free=true):FrzV H S x x:=by
 cases x with
 |c x=>exact Q9h (x:=.c x) h
 |ag cs=>exact Q9h (x:=.ag cs) h
 |tup vs=>
  refine .tup _ _ rfl fun j c c' h1 h2=>?_;rw[h1,Jf]at h2;subst h2;exact Q9h (Js.1 h c (Ja h1))
 |_=>simp[V.free]at h
theorem Qbfw (H:Heap):Co H (Ap H)=H:=by
 funext l
 simp only[Co,Ap];cases H l <;> rfl
theorem RZ {f:Nat}{args args':List V}{v:V}(S:Nat→Bool)(jo:args'.length=args.length)
  (ha:∀(j:Nat) (x y:V),args[j]? = some x→args'[j]? = some y→FrzV H S x y) (hv:v.free=true)
  (h:∀K':V→Heap→Prop,(∀H',Upd (Ap H) H' []→K' v H')→Qm P f args' (Ap H) K') (hK:K v H):Qm P f args H K:=by
 refine Mk S jo ha (FT (Q86 (h (fun x H'=>x=v∧Upd (Ap H) H' []) fun H' hu=>⟨rfl,hu⟩) ?_));rintro x H' ⟨rfl,hu⟩;have e:H'.frz (un (Ap H))=Ap H:=by
  funext m
  cases hm:Ap H m with
  |none=>simp only[Heap.frz,BP hm];rfl
  |_=>
   have hn:Ap H m≠.none:=ZbL
   rw[Fj hn,hu.2 m hn ZV,hm]
 have key:∃S x',FrzV H' S x x'∧x'.free=true∧NewL (Ap H) (H'.frz S)∧((∀l,H l≠.none→(H'.frz S) l=Ap H l)→K x' (Co H (H'.frz S))):=
  ⟨un (Ap H),x,KC hv,hv,by rw[e];exact fun m=>.inl rfl,fun _=>by rw[e,Qbfw];exact hK⟩
 cases x <;> first|exact key|simp[V.free]at hv
def OwV (L:List (Nat×Obj)):V→V→Prop
 |.c c,.c c'=>OwL L [c] [c']
 |.ag cs,.ag cs'=>OwL L cs cs'
 |.tup [.ag cs,.c d],.tup [.ag cs',.c d']=>OwL L (d::cs) (d'::cs')
 |_,_=>False
theorem OwV.free {x x':V}(h:OwV L x x'):x.free=true:=by
 unfold OwV at h;split at h
 ·simpa[V.free]using h.free
 ·exact h.free
 ·have:=h.free;simp only[Jt,Jg]at this;simp only[V.free,Jt,Jay,V.free1,this.1,this.2];rfl
 ·exact h.elim
theorem OwV.vecs {x x':V}(h:OwV L x x'):∀p∈L,∃sz rows,p.2=.vec sz rows∧∀r∈rows,∀c∈r,c.free=true:=by
 unfold OwV at h;split at h
 ·exact h.vecs
 ·exact h.vecs
 ·exact h.vecs
 ·exact h.elim
theorem Kn.back (kn:Kn (Ap H) H' [] L)(hk:∀l,H l≠.none→H' l=Ap H l):Kn H (Co H H') [] L:=by
 have hf:∀p∈L,H p.1=.none:=fun p hp=>by
  have h1:=kn.loc p hp;obtain⟨h2,h3⟩:=kn.get p Zat
  cases hh:H p.1 with
  |none=>rfl
  |_=>
   have:=hk p.1 ZbK;rw[h1,h2]at this;exact absurd this h3
 refine⟨fun p hp=>?_,ZV,hf,ZV,kn.dL,fun m hm _=>?_⟩
 ·obtain⟨h2,h3⟩:=kn.get p hp;have h0:=hf p Zat;exact⟨by simp only[Co,h0];exact h2,h3⟩
 ·simp only[Co]
theorem Q2w {f:Nat}{args args':List V}{x':V}(S:Nat→Bool)(jo:args'.length=args.length)
  (ha:∀(j:Nat) (x y:V),args[j]? = some x→args'[j]? = some y→FrzV H S x y)
  (h:∀K':V→Heap→Prop,(∀H' L x,Kn (Ap H) H' [] L→OwV L x x'→K' x H')→Qm P f args' (Ap H) K') (hK:∀H' L x,Kn H H' [] L→OwV L x x'→K x H'):Qm P f args H K:=by
 refine Mk S jo ha (FT (Q86 (h (fun x H'=>∃L,Kn (Ap H) H' [] L∧OwV L x x') fun H' L x hk hx=>⟨L,hk,hx⟩) ?_));rintro x H' ⟨L,kn,hx⟩;have hv:=hx.free;have k2:Kn (Ap H) (H'.frz (unx (Ap H) L)) [] L:=by
  have h1:Kn (Ap H) H' [] ([]++L):=kn;obtain⟨h2,h3⟩:=h1.finx;exact⟨fun p hp=>⟨(h3 p Zat).2,(kn.get p hp).2⟩,ZV,kn.loc,ZV,kn.dL,fun m hm hx=>h2.2 m hm hx⟩
 have key:∃S x2,FrzV H' S x x2∧x2.free=true∧NewL (Ap H) (H'.frz S)∧((∀l,H l≠.none→(H'.frz S) l=Ap H l)→K x2 (Co H (H'.frz S))):=by
  refine⟨unx (Ap H) L,x,KC hv,hv,fun m=>?_,fun hk=>hK _ L x (k2.back hk) hx⟩;by_cases hm:Ap H m=.none
  ·by_cases ti:m∈L.map Prod.fst
   ·obtain⟨p,hp,rfl⟩:=Jj.1 ti;obtain⟨sz,rows,h1,h2⟩:=hx.vecs p hp;exact .inr ⟨hm,sz,rows,by rw[(k2.get p Zat).1,h1],h2⟩
   ·left;have:unx (Ap H) L m=true:=by
     simp only[unx,BP hm,Jax,Jac,Bool.eq_false_iff];exact fun hh=>ti (J5.1 hh)
    rw[hm];simp only[Heap.frz,this];rfl
  ·exact .inl (k2.chg m hm ZV)
 cases x <;> first|exact key|simp[V.free]at hv
theorem OwL.frzA {cs cs':List C}(h:OwL L cs cs')(hm:∀p∈L,H p.1=p.2):FrzV H (lntL L) (.ag cs) (.ag cs'):=(h.frz fun p hp=>⟨hm p hp,DI hp⟩).ag
end Go.AE
namespace Go.AE
variable {P:Program}{H0 H H':Heap}{E L L' M:List (Nat×Obj)}
theorem OwV.tup1 {x:V}{sz:Nat}{rows:List (List C)}{b fl:Bool}(h:OwV L x (.tup [.ag [.sl fl sz rows],.c (.bool b)])):∃t,x=.tup [.ag [t],.c (.bool b)]∧OwS L sz rows t:=by
 unfold OwV at h;split at h
 ·simp at *
 ·simp at *
 ·rename_i cs d cs' d' he
  simp only[V.tup.injEq,Jaj,V.ag.injEq,V.c.injEq,and_true]at he;obtain⟨rfl,rfl⟩:=he;obtain⟨c0,e0,h0⟩:=h.inv_atom rfl;obtain⟨t,e1,h1⟩:=h0.inv_one;simp only[Jaj]at e0;obtain⟨rfl,rfl⟩:=e0;exact⟨t,by rw[e1],h1⟩
 ·exact h.elim
theorem Kn.swap {A B:List (Nat×Obj)}(kn:Kn H0 H E ((A++M)++B)):Kn H0 H E ((A++B)++M):=kn.perm (by
 simp only[Jm];exact J4 A Jp)
theorem OwS.lend {sz:Nat}{rows:List (List C)}{t:C}(h:OwS L sz rows t)(hm:∀p∈L,H p.1=p.2):FrzV H (lntL L) (.ag [t]) (.ag [.sl false sz rows]):=h.one.frzA hm
theorem Cu {S:Nat→Bool}{x x':V}(h:FrzV H S x x'):∀(j:Nat) (a b:V),[x][j]? = some a→[x'][j]? = some b→FrzV H S a b:=fun j a b h1 h2=>by
 match j with
 |0=>cases h1;cases h2;exact h
 |j+1=>simp at h1
theorem Ii {S:Nat→Bool}{x x' y y':V}(h:FrzV H S x x')(k:FrzV H S y y'):∀(j:Nat) (a b:V),[x,y][j]? = some a→[x',y'][j]? = some b→FrzV H S a b:=fun j a b h1 h2=>by
 match j with
 |0=>cases h1;cases h2;exact h
 |1=>cases h1;cases h2;exact k
 |j+2=>simp at h1
theorem OwS.lendC {sz:Nat}{rows:List (List C)}{t:C}(h:OwS L sz rows t)(hm:∀p∈L,H p.1=p.2):FrzV H (lntL L) (.c t) (.c (.sl false sz rows)):=by
 have:=h.one.frz (H:=H) (S:=lntL L) fun p hp=>⟨hm p hp,DI hp⟩
 cases this with
 |cons h _=>exact .c _ _ h
theorem OwV.c1 {x:V}{sz:Nat}{rows:List (List C)}{fl:Bool}(h:OwV L x (.c (.sl fl sz rows))):∃t,x=.c t∧OwS L sz rows t:=by
 unfold OwV at h;split at h
 ·rename_i c c' he
  cases he;obtain⟨t,e1,h1⟩:=h.inv_one;simp only[Jaj,and_true]at e1;exact⟨t,by rw[e1],h1⟩
 ·rename_i he;cases he
 ·rename_i he;cases he
 ·exact h.elim
end Go.AE
namespace Go.AE.Y
open Go.Proofs.Tryz
def Qj7:=dY 32977
def Q3k:=dZ 0x872101f002110d3
def Qj8:=dY 589873
def Qj9:=dY 0x89583e690042
def Qka:=dY 5440537106
def Q3l:=dZ 0x800c11160026f0297d3802320223
def S7:=dY 5898337
def Q3m:=dZ 0x80027f00910111b0026f0297d3803720363
def Q3n:=dZ 0x9c0027f00910111c0a803611 Q3m
def Qmc:=dW 0x27f00b0111a007f88001002076803960 [] [] [.e none none (.upd 1 (.t 60) (.t 61) (kI 0))]
def Qz8:=dW 0x19090027f007110111c05b04b0099f71b60b349f3b02d9f08f88001002076802eb12 [Q3n,Qmc] [] [fI 51 (.lup2 1 (.c (.int .i64 0)) (.t 49) (.t 50))]
def Qj3:=dZ 0x27f00b0111a0eb0299f1f9a043e20
def Qz9:=dZ 0x19090027f00910111b0ca0089f0113132b310342 Qz8 [] Qj3
def Qwb:=dZ 0x9022ab00027f00b0111b010442a11 Qz9
def Qj4:=dZ 0xe1150013398d6800158223803f50
def Q0a:=dZ 0x190950240027f00b0111a00f00501581226412 Qwb [] Qj4
def Qj5:=dZ 0x900b0111718f183d2511 Q0a S7
def Qj6:=dZ 0x1909d00c1117102296d01580218161d412 Q3l Qka Qj5
def Q0b:=dZ 0x900c001170201e012174803801951 Qj6
def Q0c:=dZ 0xe11504c0149f1f49044420
def Q0d:=dZ 0x190900c00117157171332f059f03624331016410142 Q0b Qj9 Q0c
def Qwc:=dZ 0x90015b000e116010441511 Q0d
def Q0e:=dZ 0x72108c0029f01022073804551
def Q0f:=dZ 0x1909500400e11500f00501180211412 Qwc [] Q0e
def Q0g:=dZ 0x91121052f010100373d1f18160e31 Q0f Qj8
def Q0h:=dZ 0x1909b1210195d18160b212 Q3k Qj7 Q0g
def Qaag:=dZ 0x91100f0090121 Q0h
theorem Q9m:mFn prog Qm5 1 73 Qaag Ac=true:=ZW
def Qp7:=dY 0xb80a80980039f42b31b20b099f880067
def Qafh:=dZ 0x7210c80029f600c21
def Qafi:=dW 0x951108f5460721 [Qafh] [Qp7] [aJ 8 SG [.t 7,kI 6]]
def Qapu:=dZ 0x91102f0090121 Qafi
theorem Qapl:mFn prog SM 1 13 Qapu Ac=true:=ZW
def OP:=dY 8912961
def Qa22:=dZ 0x7411012ddd31dee1f012020541 .skip OP
def Qbhw:=dZ 0x902200f019190231 Qa22
theorem Qbgw:mFn prog Mq 2 9 Qbhw Ab=true:=ZW
def Qapv:=dZ 0x7310780039f012441011020451
def Qayy:=dZ 0x901202f0190221 Qapv
abbrev Ei:List RS:=[.tmp 3]
theorem Qaxy:mFn prog S5 2 8 Qayy Ei=true:=ZW
def SB:=dY 0x90029f2f04a01780f0f3
def SA:=dY 0x118f081700f08f002f03a0f040d40f096 SB [gT 12 11 (.aslg 9 B1 B1),.e (some 14) (some (11,true)) (.call VU [.t 12,.t 13])]
def TY:=dY 0x108f60d00f00063 SA [.e (some 8) (some (6,true)) (.call VM [.t 7,.k (.c (.fn GW []))])]
def Qavi:=dW 0x7211046f1f0336d08f200331 [] [TY] [fI 4 (.lens (.t 3))]
def Qa23:=dZ 0x90102f00211 Qavi
theorem Qa2p:mFn prog Pb 1 17 Qa23 Ac=true:=ZW
def Qafn:=dW 0x7210880029f03f2a18f50a00f0008f200371 [] [] [fI 4 (.bin 0 .lss (.t 3) (.k (.c (.int .i32 97)))),gF 7 5 (.bin 0 .gtr (.t 6) (.k (.c (.int .i32 122))))]
def Qapx:=dZ 0x90102f00211 Qafn
theorem Qapn:mFn prog GW 1 9 Qapx Ac=true:=ZW
def Qkd:=dY 32945
def Q3q:=dZ 0x872102f002110b3
def S6:=dY 0x29483e001
def ID:=dY 0x3f4a04480f262
def IA:=dY 0x11f02db4403f04410f4824420f0003f3a215 ID
def SZ:=dY 0x108f03a10f4813a20f0003f4a036f062e40f02e50f02e10f4812e20f000816b IA [.e (some 32) (some (29,false)) (.call Xa [.t 31,.k (.c (.fn VW []))])]
def Qmg:=dZ 0x872102f00211273
def Q3r:=dZ 0x927f00b15101d8d0148021331 Qmg SZ
def Qmh:=dZ 0xb1408a00f9f1ff8042820
def Q3s:=dZ 0x1909008215157171332f049f036133311310142 Q3r S6 Qmh
def Qwi:=dZ 0x90010b000b15010441011 Q3s
def Qiq:=dY 0xda0ca0059f31b20b2c9fba0295
def Q0i:=dZ 0x7210fa0029f286f0545802e31
def Qkc:=dZ 0x951101dcd18162a21 Q0i Qiq
def Q0j:=dZ 0x1909500400b1400f0050118020c412 Qwi [] Qkc
def Q0k:=dZ 0x19099121046f1f0336d050150207412 Q3q Qkd Q0j
def Qaak:=dZ 0x91102f0090121 Q0k
theorem Q9n:mFn prog Qm6 1 48 Qaak Ac=true:=ZW
def SK:=dY 0x580029f08052
def Qua:=dZ 0x721101d8d200321 .skip SK
def Q0l:=dZ 0x90102f00211 Qua
theorem Qz3:mFn prog VW 1 6 Q0l Ac=true:=ZW
def ES:=dY 0xe90049f2f05a1e2
def Qaj8:=dW 0x741108f03110f3833120f03110f2833120f002f05a0222340f02310f3822320f02310f2822320f002f05a0221540f01510f3811520f01510f2811520f00022401302012020519f1 [] [ES] [.e (some 29) (some (24,true)) (.call Ta [.t 26,.t 28,.k (.c (.fn SI []))])]
def Qavl:=dZ 0x902202f019190231 Qaj8
theorem Qaut:mFn prog SI 2 31 Qavl Ab=true:=ZW
def GO:=dY 9961537
def Q3t:=dW 0x741108f01302012020551 [] [GO] [eI 9 (.call VD [.t 6,.t 8,.k (.c (.fn VV []))])]
def Qaam:=dZ 0x902202f019190231 Q3t
theorem Q9o:mFn prog Qm7 2 10 Qaam Ab=true:=ZW
def Td:=dY 0x790049f2f05a172
def Tc:=dY 0x108f02310f3822320f02310f2822320f002f05a107 Td [.e (some 22) (some (17,true)) (.call IM [.t 19,.t 21,.k (.c (.fn HU []))])]
def Qub:=dZ 0x74110223b1503f01510f3811520f01510f2811520f000224013020120205b1 .skip Tc
def Q0m:=dZ 0x902202f019190231 Qub
theorem Qz4:mFn prog VV 2 24 Q0m Ab=true:=ZW
def Qaj9:=dZ 0x620980079f026f22409208073
def Qaka:=dZ 0x3620d800a9f086f6240d2080a3
def Qakb:=dZ 0x93620c800a9f076f5240c2180a3 Qaka
def Qakc:=dZ 0x870002402f03f02f01f00241123
def Qakd:=dZ 0x912f10390129f066f6824132170002403f03f02f01f00241103 Qakc
def Qake:=dZ 0x99620190109f056f6824112170002402f02f02f0026f002410e3 Qakd
def Qwk:=dZ 0x97620f800e9f046f68240f2170002402f02f02f01f002410a3 Qake
def Qwl:=dZ 0x19093620b800a9f036f4240b21270002402f02f03f01f00241073 Qakb [] Qwk
def Qakf:=dZ 0x19090620880079f1f12408212004 Qaj9 [] Qwl
def Vk:=dZ 0x70002402f02f02f07f00241
def Qafq:=dZ 0x19096105006112 Qakf [] Vk
def Qavm:=dZ 0x90102f02f02f00f00241 Qafq
abbrev HS:List RS:=[.tmp 2,.tmp 3,.tmp 4,.tmp 5]
theorem Qauu:mFn prog Vc 1 20 Qavm HS=true:=ZW
def Qwm:=dY 0x880049f08082
def Qapy:=dW 0x741118f08f400531 [] [Qwm] [fI 6 (.mkf Qsz [.t 3]),aJ 7 VZ [.t 5,.t 6]]
def Qay6:=dZ 0x920202f0190321 Qapy
theorem Qaxz:mFn prog Q63 2 9 Qay6 Ab=true:=ZW
def Qn2:=dY 0x780039f08072
def Qaan:=dW 0x731108f311560431 [] [Qn2] [aJ 6 T9 [.t 4,.t 5]]
def Qakj:=dZ 0x901202f0190221 Qaan
theorem Qai8:mFn prog Qsz 2 8 Qakj Ei=true:=ZW
def Qix:=dY 0x39785e001
def Qiy:=dY 0xa9984e001
def Q0r:=dZ 0x4006410900123dfd28098460801b40
def Q0s:=dZ 0x400641090f90179f1f7041f20
def Q0t:=dZ 0x19090040041410a147100432f099f046134319310342 Q0r Qiy Q0s
def Qww:=dZ 0x90218b0004006410a010441811 Q0t
def Q0u:=dZ 0x800641060026f0297d0802f202e3
def Q0v:=dZ 0x92ef00641070b802e11 Q0u
def Qkg:=dW 0x64106007f0178120100207280317707f [] [] [.e none none (.upd 1 (.t 52) (.t 54) (kI 0))]
def Qiz:=dY 0xfb0eb00c9f51b40b3e9fdb0395
def Qwo:=dZ 0x800641060036f0297d0804220413
def Qwp:=dZ 0x941f0064107008d804021 Qwo
def Qwq:=dZ 0x809000541071022c4d0178122803a41373 Qwp Qiz
def Qwr:=dW 0x2937f006410708b0379f026f1a2438211909002341070da0ca00a9f4a1b70b2c9fba0249f08f017812010020728025cc0cf22223 [Q0v,Qkg,Qwq] [] [fI 43 (.lup2 1 (.c (.int .i64 0)) (.t 40) (.t 42))]
def Qws:=dZ 0x9021f006410803a0229f1f1242321044 Qwr
def Qg9:=dY 0x24398d34e14f512
def Qha:=dY 0x24398d35414f572
def Qwt:=dZ 0xb10510183d280017842080525050204030201000706a .skip Qha
def Qwu:=dZ 0x809006410610183d2800178320804c5050204030201000706a24b3 Qwt Qg9
def VT:=dZ 0x94bf0064107003f3a066f028e40f08e10f7808e20f00056f0240178024481 Qwu
def VS:=dZ 0x190921f0064107001780220212 Qws [] VT
def Qiv:=dZ 0x19095024004006410900f00501782214412 Qww [] VS
def Qiw:=dZ 0xb10508d0109f1f09045820
def Qwv:=dZ 0x19090064106157574710532f079f056135312310142 Qiv Qix Qiw
def Qul:=dZ 0x90011b000b106010441111 Qwv
def Q8e:=dZ 0x9500400b10500f0051800e31 Qul
abbrev AJ:List RS:=[]
theorem Q7o:mFn prog Ql1 3 89 Q8e AJ=true:=ZW
def Q3v:=dW 0x12b0d08f1460630 [] [] [fI 7 (.mkf Te [.t 5,.t 3])]
def Qaat:=dZ 0x9003302929290331 Q3v
theorem Q9p:mFn prog Qm8 3 9 Qaat AJ=true:=ZW
def Qgq:=dY 0x190090049f51b40b109ff800b5
def Qum:=dZ 0x800036f0297d2811420133
def Qun:=dZ 0x913f220085801221 Qum
def Quo:=dZ 0x800056f0297d2813820373
def Qup:=dZ 0x937f2200334050138320501012013368001002002072812aee0ef200046f0297d2812820273 Quo
def Quq:=dZ 0x927f202400f0446802621 Qup
def Qur:=dW 0x8092023102296d0138220101371d1f08f0101207281010020020728118e0ff0ff2163 [Quq] [S7] [fI 33 (.sli 3 (.t 28) none (some (.t 32)))]
def Qus:=dZ 0x1916f0230790169f0d6f88241721092221022c4d0138221810c41093 Qun Qgq Qur
def Qut:=dZ 0x90400150a80099f026f1240a21004 Qus
def Qr1:=dZ 0x9400140013020721 Qut
def Q0w:=dZ 0x900130290311 Qr1
theorem Qz5:mFn prog Te 3 58 Q0w AJ=true:=ZW
def Q3w:=dZ 0x800201e022171800800950083
def Qaau:=dZ 0x9600300f0240102207300451 Q3w
theorem Q9q:mFn prog Qm9 2 13 Qaau AJ=true:=ZW
def E5:=dY 0x47100432f021
def Sl:=dY 69227192418
def Qafr:=dZ 0x7210054e5460721
def Qafs:=dW 0x9012108f011320331 [Qafr] [Sl] [eI 5 (.call FC [.t 4,.k (.c (.fn HY []))])]
def Qap3:=dZ 0x90121052f0111 Qafs E5
theorem Qapo:mFn prog HY 1 8 Qap3 Ag=true:=ZW
def Qwx:=dY 0x57171332f021
def Qwy:=dY 69227061346
def Qwz:=dY 0x101e18220a2
def Qap4:=dZ 0x72100283e18360b21
def Qap5:=dW 0x9012108f015220731 [Qap4] [Qwz] [eI 9 (.call Rn [.t 8,.k (.c (.fn HX []))])]
def Qap6:=dZ 0x901210154d011120331 Qap5 Qwy
def Qay9:=dZ 0x90121052f0111 Qap6 Qwx
abbrev Pi:List RS:=[.cell 2 3 true]
theorem Qax2:mFn prog TO 1 12 Qay9 Pi=true:=ZW
def Qqc:=dY 0x57574710532f021
def Qqd:=dY 69227126882
def Qqe:=dY 0x101e18320a2
def Qqf:=dY 0x101e18420e2
def Qaft:=dZ 0x72100285e18560f21
def Qafu:=dW 0x9012108f0118420b31 [Qaft] [Qqf] [eI 13 (.call Rn [.t 12,.k (.c (.fn HX []))])]
def Qafv:=dW 0x9012108f015320731 [Qafu] [Qqe] [eI 9 (.call Rn [.t 8,.k (.c (.fn HX []))])]
def Qafw:=dW 0x9012108f011220331 [Qafv] [Qqd] [eI 5 (.call FC [.t 4,.k (.c (.fn HY []))])]
def Qap7:=dZ 0x90121052f0111 Qafw Qqc
abbrev Q2n:List RS:=[.cell 2 5 true]
theorem Qapp:mFn prog HX 1 16 Qap7 Q2n=true:=ZW
def Qth:=dY 0x3f3a08f03010f2823020f0008176 [] [gF 27 24 (.bin 0 .neq (.t 26) (.k (.c (.str []))))]
def Qakt:=dZ 0x87004302f00f00f004311c3
def Qti:=dY 0x3f3a0f034a40f04a10f2814a20f0008246
def Qaku:=dZ 0x87004302f00f00f00431293
def Qtj:=dY 0x3f3a0f036440f06410f2816420f0008316
def Qakv:=dZ 0x87004302f00f00f00431363
def Qakw:=dZ 0x936f04015101d8d0128222e31 Qakv Qtj
def Qakx:=dZ 0x7004302f00f00f004310401401f01f007203e3
def Qaky:=dZ 0x93ef01306c03e9f03f3a0c6f028440f08410f2808420f000b6f0240128023f91040140026f0026f00720373 Qakx
def Qakz:=dW 0x1937f0130db0379f0f06428f18f01280208f387109040140036f008112a3 [Qakw,Qaky] [] [fI 56 (.ldo Bg Bg),fI 59 (.lup 0 (.ag [.str [],.int .i64 0]) (.t 56) (.t 58)),fI 60 (.fld 1 1 false (.t 59))]
def Qaf7:=dZ 0x192af40140da02a9f0d6f0240128022b410929f04015101d8d01282221311d3 Qaku Qti Qakz
def Qtf:=dZ 0x191df0401500a01d9f026f0240128021e41091cf04015101a4d0128121431103 Qakt Qth Qaf7
def V6:=dY 0x3f2a1f04bc40f18bc00f0003f7a0aa80f5c6
def Qqg:=dY 0x1012336aa03f88aa00f78aa00f0aa50f0aa10f283aa20f002f0bca03f397a0f08f09e10f2829e20f09700f0f039740f09710f2819720f00066f0444a12f V6 [gF 82 79 (.bin 0 .neq (.t 81) (.k (.c (.str []))))]
def s_im_exprSize_14:=dZ 0x87004302f00f00f00431613
def Qqh:=dY 0x8ec84e001
def Qqi:=dY 0x705f0fe0ee00d9f62b51b40b6e9fde0697
def Qaf8:=dZ 0x87004302f00f00f00431723
def Qaf9:=dW 0x63f07160795f00a9f08f1f004e80a807650 [] [] [fI 121 (.mx (.t 118) (.t 120))]
def Qaga:=dZ 0x90063f307170755f0099f0104d809807341 Qaf9
def Qagb:=dZ 0x1909c0063f020719008f8071212 Qaf8 [] Qaga
def Qagc:=dW 0x90063f0020719108f1f014180c8466a41 [Qagb] [Qqi] [aJ 109 SG [.t 106,.t 108]]
def Qagd:=dZ 0x63f071607a5f0659f1f5e047a20
def Qage:=dZ 0x19090063f10717147100432f0c9f046134367310242 Qagc Qqh Qagd
def Qaay:=dZ 0x90166b00063f0717010446611 Qage
def Qagf:=dZ 0x7004307e5f07c5f07b5f0049f1e6f054980a809807b71
def Qagg:=dZ 0x190950140063f071600f00501283262412 Qaay [] Qagf
def Qtg:=dZ 0x90601401f01f00921 Qagg
def Qagh:=dW 0x190961f013108f01280247312 [s_im_exprSize_14,Qtg] [Qqg] [aJ 73 TN [.t 72]]
def Qagi:=dZ 0x19097040150390109f1f02401280211410042 Qtf [] Qagh
def Qagj:=dZ 0x90401400f00f00721 Qagi
def Qavx:=dZ 0x901202f00f00f0049f190241 Qagj
abbrev HR:List RS:=[.tmp 4,.tmp 5,.tmp 6]
theorem Qaux:mFn prog SG 2 127 Qavx HR=true:=ZW
def Eg:=dY 0x580029f0f024052
def Qa25:=dZ 0x72110160d1160321 .skip Eg
def Qbhx:=dZ 0x91102f0090121 Qa25
theorem Qbgx:mFn prog Mp 1 6 Qbhx Ac=true:=ZW
def Qap9:=dZ 0x87210056f002110d3
def Qaqa:=dW 0x9d103900d9f03f2a0c6f022040f082000f000b6f0240800e717210c80029f28f18f08008f0951033 [Qap9] [] [fI 9 (.ldo Bg Bg),fI 11 (.lup 0 (.ag [.str [],.int .i64 0]) (.t 9) (.t 10)),fI 12 (.fld 1 1 false (.t 11))]
def Qaqb:=dZ 0x7210066f00211
def Qaqc:=dW 0x19092020880039f0f06428f18f4008f04610042 [Qaqa,Qaqb] [] [fI 4 (.ldo Bg Bg),fI 6 (.lup 0 (.ag [.str [],.int .i64 0]) (.t 4) (.t 5)),fI 7 (.fld 1 1 false (.t 6))]
def Qazc:=dZ 0x90100f00211 Qaqc
theorem Qax3:mFn prog TN 1 20 Qazc Ac=true:=ZW
def Qfm:=dY 0xd8784e001
def Qfo:=dY 0x104422f014c122 E3
def Qr2:=dZ 0x2315101142f78461805800e40 .skip Qfo
def TQ:=dZ 0x231504900a9f1fa8041420
def Qr4:=dZ 0x19090001316147100432f079f04613430c310142 Qr2 Qfm TQ
def Qqm:=dZ 0x9000bb0002316010440b11 Qr4
def TP:=dZ 0x7410590049f5801521
def Qr6:=dZ 0x1909500400231500f0057008312 Qqm [] TP
def Qr7:=dZ 0x93003044f00511 Qr6
def Qw1:=dZ 0x9002044f00411 Qr7
theorem Qvt:mFn prog FC 2 22 Qw1 Ab=true:=ZW
def SN:=dY 0xd8785e001
def Qfr:=dY 0x104522f015c122 E3
def Qr8:=dZ 0x2315101142f78561805800e40 .skip Qfr
def Qsa:=dZ 0x19090001316157574710532f079f05613530c310142 Qr8 SN TQ
def Qqn:=dZ 0x9000bb0002316010440b11 Qsa
def Qsc:=dZ 0x1909500400231500f0057008312 Qqn [] TP
def Qsd:=dZ 0x93003054f00511 Qsc
def Qw2:=dZ 0x9002054f00411 Qsd
theorem Qvu:mFn prog Rn 2 22 Qw2 Ab=true:=ZW
def Qw6:=dY 20115505
def Qw7:=dY 0xc8583e001
def Qaqd:=dW 0x3025001f13aed08f017220d40 [] [] [fI 15 (.mkf Vw [.t 2,.t 3])]
def Qaqe:=dZ 0x30250190099f1f7041120
def Qaqf:=dZ 0x19090011026157171332f059f03613330b310142 Qaqd Qw7 Qaqe
def Qak5:=dZ 0x9000ab0003026010440a11 Qaqf
def Qw8:=dY 0x39381e381314f002
def Qaqg:=dZ 0x702211281e38128112303010201000504a2 .skip Qw8
def Qaqh:=dZ 0x1909500400302500f0050140206412 Qak5 [] Qaqg
def Qazd:=dZ 0x9001310132f090121 Qaqh Qw6
abbrev Ph:List RS:=[.cell 2 1 false,.cell 3 1 false]
theorem Qax4:mFn prog Q65 1 20 Qazd Ph=true:=ZW
def Qaa5:=dW 0x71e08f70410840 [] [] [fI 10 (.mx (.t 8) (.t 9))]
def Qaa6:=dZ 0x91120051e1f004310631 Qaa5
def Qak4:=dZ 0x900130390411 Qaa6
theorem Qajd:mFn prog Vw 4 11 Qak4 AJ=true:=ZW
def TF:=dY 0xf8584e001
def Qazf:=dZ 0x8140012b0d18058461030
def Qazg:=dZ 0x81403900c9f1f6041320
def Qazh:=dZ 0x1909004315147100432f059f04613430e310142 Qazf TF Qazg
def Qav0:=dZ 0x9000db000815010440d11 Qazh
def Qazi:=dZ 0x950040081400f005016320941 Qav0
def Qazj:=dZ 0x9012001142f446400631 Qazi
def Qbbc:=dZ 0x90120190211 Qazj
theorem LF:mFn prog Q22 2 20 Qbbc AJ=true:=ZW
def GZ:=dY 0x5a0049f2f05a252
def GY:=dY 0x108f03f10f3843f20f03f10f2843f20f002f05a1e7 GZ [.e (some 36) (some (31,true)) (.call IM [.t 33,.t 35,.k (.c (.fn HU []))])]
def GX:=dY 0x108f03110f3833120f03110f2833120f002f05a177 GY [.e (some 29) (some (24,true)) (.call IM [.t 26,.t 28,.k (.c (.fn HU []))])]
def Qak7:=dW 0x741108f02310f3822320f02310f2822320f002f05a0221540f01510f3811520f01510f2811520f00022401302012020512f1 [] [GX] [.e (some 22) (some (17,true)) (.call Ta [.t 19,.t 21,.k (.c (.fn SI []))])]
def Qav1:=dZ 0x902202f019190231 Qak7
theorem Qauy:mFn prog HU 2 38 Qav1 Ab=true:=ZW
def Qaba:=dZ 0x8704203f0890049f6801831173
def Qabb:=dZ 0x917f400407801711 Qaba
def Qabc:=dZ 0x20d80009f01012070800a50
def Qabd:=dW 0x1909040040690590069f71b60b159f4900e9f08f18001002070800fb10142 [Qabb,Qabc] [] [fI 20 (.lup2 1 (.c (.int .i64 0)) (.t 18) (.t 19))]
def Q8k:=dZ 0x90068093700308f032f1f7008212 Qabd
def Qabe:=dZ 0x704202f00f00421
def Qak8:=dZ 0x19095004200202f00f00421 Q8k [] Qabe
abbrev Vm:List RS:=[.tmp 4,.tmp 5]
theorem Qajf:mFn prog Qs2 2 25 Qak8 Vm=true:=ZW
def TZ:=dY 0x680029f090111102342d1f30044
def Qabf:=dW 0x721108f0311 [] [TZ] [eI 3 .mkm]
def NH:=dZ 0x90108f00211 Qabf
theorem Qajg:mFn prog Qs3 1 7 NH Ac=true:=ZW
def Q2o:=dY 0x290190090f80059f63b52b41b30b0f9fe800b9
def TT:=dY 0x1a0139f2f04a03980f203
def Qav2:=dZ 0x13f01303c0139f2f06a0d6f037940f07910f007920f0f047930f07910f2827920f00086f02401280239c08133
def Qav3:=dZ 0x913f01308b0139f2f04a0f066740f06750f06710f2846720f000888031918133 Qav2
def Qav4:=dZ 0x9a501400b0139f2f04a0f065740f05750f05710f2835720f000878029918133 Qav3
def Q8l:=dW 0x9a0401508a0139f2f03a08f04910f2814920f000868022818133 [Qav4] [] [gT 39 36 (.bin 0 .neq (.t 38) (.k (.c (.str []))))]
def Qav5:=dZ 0x9a003016101d83903f03910f2813920f006801b518133 Q8l TT
def Q8m:=dZ 0x9a0030160a90139f01345800501282216618133 Qav5
def Qav6:=dZ 0x874102f00411133
def Q2p:=dY 0xaca84e001
def Qw9:=dY 34001
def Qaqj:=dZ 0x874102f004114d3
def Qaqk:=dW 0x950045f016108fa8464b21 [Qaqj] [Qw9] [aJ 76 SM [.t 75]]
def Qaql:=dZ 0x45f0150ec0479f1f6044e20
def Qaqm:=dZ 0x19090045f7016147100432f0a9f046134349310242 Qaqk Q2p Qaql
def Qala:=dZ 0x90148b00045f016010444811 Qaqm
def Vi:=dY 0xad0049f2f05a5a2
def Vh:=dY 0x1022dba903f1f00a940f18a900f0a910f284a920f00546 Vi
def Qaqn:=dZ 0x7411022dbd1f0041800128324f51 .skip Vh
def Qaqo:=dZ 0x190950140045f01500f00501282244412 Qala [] Qaqn
def Qaqp:=dW 0x291909a00020170590139f046f064180143120042 [Q8m,Qav6,Qaqo] []
def Qaqq:=dW 0x90002016108f0128020c31 [Qaqp] [Q2o] [aJ 14 Vc [.t 13]]
def Qa29:=dZ 0x901202f0049f190221 Qaqq
theorem Qa2r:mFn prog T9 2 91 Qa29 Ab=true:=ZW
def Qazk:=dZ 0x501500133aed2801f0041800178421860
def Qazl:=dZ 0x9000401600133aed2801f0041800178321261 Qazk
def Qazm:=dZ 0x900040160012242f1807562800e41 Qazl
def Qazn:=dZ 0x50150e900a9f1fa8041e20
def Qazo:=dZ 0x19090004016157574710532f079f05613530c310142 Qazm SN Qazn
def Qav7:=dZ 0x9000bb0005016010440b11 Qazo
def Qbbd:=dZ 0x9500400501500f005700831 Qav7
theorem Qbay:mFn prog NV 3 31 Qbbd AJ=true:=ZW
def LA:=dY 0xb8584e001
def Mh:=dY 0x147100432f051 LA
def Mg:=dY 0xf0640e1
def Qbib:=dZ 0x874100484e58460f210e3
def Mf:=dY 0x39684e001
def Me:=dY 0x147100432f069f0120d6f102471004d1f132 Mf
def LZ:=dY 5832817
def LY:=dY 0x101e6832212
def LX:=dY 0x104422f014c41b14f1f3 LY
def Qbic:=dZ 0x3050990079f1f0147801830
def Qbbg:=dW 0x9000305118f08f0800168321a5080706050104030201000a09a0142 [Qbic] [LX] [fI 29 (.fH 1 [.k (.c (.str [97])),.k (.c (.str [98]))]),aJ 30 CI [.t 28,.t 29,kI 2]]
def Qa3h:=dZ 0x9006817317f00030600f06478016212 Qbbg
def NF:=dY 0xf024241
def Qbbh:=dZ 0x874100484e68462521243
def Qbbi:=dZ 0x74100484e013036f102471004d1f0124c684658462650d22
def Qbbj:=dZ 0x190924f00441026f025bd08022212 Qbbh NF Qbbi
def Qbbk:=dZ 0x190950040003051046f025bd08014212 Qa3h LZ Qbbj
def Qbbl:=dW 0x900304101292d08f0801031 [Qbbk] [Me] [fI 17 (.fH 1 [.k (.c (.str [102])),.k (.c (.str [103])),.k (.c (.str [97]))])]
def Qbbm:=dZ 0x1909803041036f025bd0800c212 Qbib Mg Qbbl
def Qbbn:=dW 0x90303118f18008f700841 [Qbbm] [Mh] [fI 9 (.fH 1 [.k (.c (.str [97])),.k (.c (.str [98])),.k (.c (.str [120])),.k (.c (.str [103,111]))]),aJ 11 CI [.t 8,.t 9,.t 10]]
def Qbq1:=dZ 0x92003047100432f0411 Qbbn
theorem Qbqn:mFn prog FB 2 42 Qbq1 Bm=true:=ZW
def ND:=dY 0x58384e001
def NC:=dY 0x147100432f031 ND
def NB:=dY 0x101e38120d2
def NA:=dY 0x101e3822132
def N9:=dY 0x101e3802192
def N8:=dY 0x101e3832222
def N7:=dY 0x103422f014c31d14f203 N8
def N6:=dY 0x6a384e001
def Qbbo:=dZ 0x80221076f02d3d0802520233 .skip N6
def Qbbp:=dZ 0x923f010404a0239f046f78242421022114f02ffd0800138321c40706050401030201000908a1a3 Qbbo N7
def Qa3i:=dZ 0x91af301050b901a9f036f78241b2102210125ed0b6f056f7f0e6f0f51c0801630143 Qbbp N9
def Qa3j:=dW 0x9c301050590149f026f78241521022101292d08f08010300e3 [Qa3i] [NA] [fI 17 (.fH 1 [.k (.c (.str [])),.k (.c (.str [100,111])),.k (.c (.str [65])),.k (.c (.str [97,98,99,100,101])),.k (.c (.str [113]))])]
def Qa3k:=dZ 0x96301050f800e9f1f7240f2102210125ed036f01009f7f31c0800a30083 Qa3j NB
def Qa3l:=dZ 0x90301050980089f0f1240921004 Qa3k
def NE:=dZ 0x72100284e38462721
def Qa3m:=dZ 0x1909301040146f025bd5006212 Qa3l [] NE
def Qa3n:=dZ 0x901031046f02d3d300421 Qa3m NC
def Qbmu:=dZ 0x9102047100432f0211 Qa3n
theorem Qbl9:mFn prog KO 1 40 Qbmu Ag=true:=ZW
def FH:=dY 5832753
def DS:=dY 0x107422f014c142 FH
def Kq:=dZ 0x140c80049f1f004600b30
def Qbbr:=dZ 0x900014101aad04601434800118323800d700142 Kq DS
def Qa3o:=dZ 0x900680a35000150034405015321006512 Qbbr
def Qbbs:=dZ 0x72100284e18461821
def Qbbt:=dZ 0x90120101e18323801631 Qbbs
def Qbbu:=dZ 0x190950040001400f004112 Qa3o [] Qbbt
def Qbbv:=dZ 0x900130580039f04c0521 Qbbu
def Qbmv:=dZ 0x90121052f0111 Qbbv E5
theorem Qbma:mFn prog KN 1 25 Qbmv Ag=true:=ZW
def N3:=dY 0xa8381e001
def N0:=dY 83503542321 N3
def Nz:=dY 0x101e48021a2
def Ny:=dY 0x101e4812262
def Nx:=dY 0x104122f011c242 Ny
def Nw:=dY 0x101292d08f080213 Nx [fI 34 (.fH 1 [.k (.c (.str [97])),.k (.c (.str [120])),.k (.c (.str [105,102]))])]
def Nv:=dY 0x101e4822332
def Nu:=dY 0x105522f015c012036f102575747105d1f014c2f4 Nv
def NG:=dY 0x101d2d0802d2 Nu
def OL:=dY 0x101e4822452
def OK:=dY 0x109b522f015c0123116103575747105d1f014c414 OL
def OJ:=dY 0x1026f02d3d0803f2 OK
def OI:=dY 0x101292d08f0803c3 OJ [fI 61 (.fH 1 [.k (.c (.str [])),.k (.c (.str [97])),.k (.c (.str [122,122]))])]
def OH:=dY 0x10a6f025bd0803a2 OI
def OG:=dY 0xac585e001
def OF:=dY 0xcc0061
def OE:=dY 0x585e0132124103575747105d1f5855664f35514f584
def Qa4a:=dZ 0x10600d0069f1f0146804f30
def Qa4b:=dZ 0x9000010610125ed539f015c5856015822549f066f056f21c08051708070504020605040301000b09a0242 Qa4a OE
def Qazv:=dZ 0x901684e34ef000010700f0646804d212 Qa4b
def OD:=dY 0x101e4822602
def OC:=dY 0x102522f5855d64f5f2 OD
def Qa4c:=dZ 0x23102522f5c9f015c58565d9f01482205c596080706040305040201000a09a .skip OC
def Qa4d:=dZ 0x1909501400001061056f025bd0804b212 Qazv OF Qa4c
def OB:=dY 9306225
def OA:=dY 0x101e4822772
def O9:=dY 0x105522f015c012036f102575747105d1f014c0111f102471004d1f780716 OA
def Qa4e:=dZ 0x200240ce0079f1f0147806b30
def Qa4f:=dZ 0x920024102522f01482205c6d400442 Qa4e O9
def Qazw:=dZ 0x903686a36af2002500f06478069212 Qa4f
def O8:=dY 0x281e0101371d1f842
def OZ:=dY 0x105322f238164f0f338034f47f14f834 O8
def Qa4g:=dZ 0x8721102322f7d9f013c0360f0330138027e9f01380203c7a90b0a090706050308070605040201000f0ca2783 .skip OZ
def Qa4h:=dZ 0x1978f00240795f0789f076f492479210950342002410125ed296f286f146f31c0806631643 Qazw OB Qa4g
def Qa4i:=dZ 0x964f14f0010605e0649f066f4924652172100281e0371d1f6321613 Qa4h
def Qa4j:=dZ 0x1961f14f0010602e0619f056f4924622109000105157574710532f059f012066f102575747105d1f014c1f101471004d1f4841463 Qa4d OG Qa4i
def Qa4k:=dZ 0x946f14f0010607c0469f046f492447210023102522f01482205c3640343 Qa4j OH
def Qa4l:=dZ 0x934f14f0010605b0349f036f492435210023102522f01482205c2940273 Qa4k NG
def Qa4m:=dZ 0x927f14f0010608a0279f026f492428210023102122f01481201c1d401b3 Qa4l Nw
def Qa4n:=dW 0x9614f001060c901b9f1f7241c210023101292d08f0801730153 [Qa4m] [Nz] [fI 24 (.fH 1 [.k (.c (.str [102])),.k (.c (.str [100,111])),.k (.c (.str [])),.k (.c (.str [103]))])]
def Qa4o:=dZ 0x9014f001060690159f0f1241621004 Qa4n
def OY:=dY 0x885f0081
def Qa4p:=dZ 0x72100281e0101371d1f8808f31
def Qa4q:=dZ 0x95220103e143348361f014058808808971 Qa4p
def N4:=dZ 0x93123102322f01380203c8541 Qa4q OY
def Qa4r:=dZ 0x190914f001050206f025bd08013212 Qa4o [] N4
def Qa4s:=dZ 0x900104157171332f049f03604331f01405013802017020b91 Qa4r S6
def Qa4t:=dZ 0x901031015dd0800921 Qa4s N0
def Qbm1:=dZ 0x9102037132f0211 Qa4t
theorem Qbmc:mFn prog KM 1 145 Qbm1 Ak=true:=ZW
def Qarb:=dZ 0x874102f004110b3
def Qarc:=dZ 0x874102f00411383
def Qyb:=dY 34113
def Qard:=dZ 0x874102f00411543
def Qare:=dZ 0x300402c0069f1f0046804130
def Qarf:=dZ 0x190954f0300510ac26ad046014368001022015358018004601436800102201535800804311f12f12f20342 Qard Qyb Qare
def Qand:=dZ 0x9026840340f03005006440501022015358008068039812 Qarf
def Ve:=dY 0x3f1ea0c280f6d2
def Vd:=dY 0x105233c203f0c210f04c220f015c230f58c200f18c200f0c210f04c220f015c230f58c200f08c200f000860d Ve
def Qarg:=dZ 0x874102f004116e3
def Qam6:=dZ 0x96ef3004105233d01032015358018001032015358008055b1af1af2 Qarg Vd
def Qam7:=dZ 0x190950240300400f006112 Qand [] Qam6
def Qam8:=dZ 0x30030190059f1f0045801030
def Qam9:=dW 0x29190938f3004003faaa0635440f05450f05410f025420f0155430f585400f185400f05450f05410f025420f0155430f585400f085400f0003fd9a0533a40f03a10f013a20f0153a30f583a00f183a00f03a10f013a20f0153a30f583a00f083a00f0005340100201535801800100201535800801227f27f27f220142 [Qarc,Qam7,Qam8] []
def Qag7:=dZ 0x900680f3930040024405080600c412 Qam9
def Qanb:=dZ 0x19095004300300f005112 Qag7 [] Cc
def Qanc:=dZ 0x19099003002340570056007512 Qarb [] Qanb
def Qaz5:=dZ 0x900202f00411 Qanc
theorem Qaye:mFn prog Q7a 2 111 Qaz5 Ab=true:=ZW
def Rm:=dZ 0x874102f004110a3
def Qa5m:=dZ 0x874102f00411193
def Qa5n:=dZ 0x30030090059f1f0045800f30
def Qa5o:=dZ 0x190919f300400434010113580180010113580080119909f20142 Qa5m [] Qa5n
def Qaz7:=dZ 0x900680e3830040024405080500b412 Qa5o
def Qa5q:=dZ 0x19095004300300f005112 Qaz7 [] Cc
def Qa5r:=dZ 0x19098003002340560055006512 Rm [] Qa5q
def Qbio:=dZ 0x900202f00411 Qa5r
theorem Qbg5:mFn prog LR 2 26 Qbio Ab=true:=ZW
def Nd:=dY 0x68381e001
def Nc:=dY 0x29583e001
def Nb:=dY 0x101e3802212
def MZ:=dY 0x1049322f013c0123117103571713d1f591614f391414f1e5 Nb
def MY:=dY 0x10174d11c14f71614f391414f1d4 MZ
def Qbci:=dZ 0x14102122f1a9f0158221b9f01581201c01580201380213a0f0e0d0c0b03010a090301070908060504030201001510a .skip MY
def Qbcj:=dZ 0x140d80049f1f004700c30
def Qbck:=dZ 0x1909000015157171332f059f03601334800118020e610142 Qbci Nc Qbcj
def Qa5u:=dZ 0x900680b36000150034405016022007512 Qbck
def Qbcl:=dZ 0x72100281e38162221
def Qa5s:=dZ 0x190950040001400f004112 Qa5u [] Qbcl
def Qa5t:=dZ 0x90013137132f039f0371d1f0621 Qa5s Nd
def Qbm9:=dZ 0x9012037132f090121 Qa5t
theorem Qbme:mFn prog FL 1 35 Qbm9 Ak=true:=ZW
def Qbcm:=dZ 0x72110167d1160321 .skip Eg
def Qbna:=dZ 0x91102f0090121 Qbcm
theorem Qbmf:mFn prog KI 1 6 Qbna Ac=true:=ZW
def Kt:=dY 0xf00f0052
def RB:=dY 0xe80071
def RA:=dY 0x39883e001
def R9:=dY 5168955778
def Qbnb:=dZ 0x802430026f02e4d7801a20193
def R8:=dY 0xda0091
def R7:=dY 0x104a122f011c2c2 R8
def Qbnc:=dZ 0x24503a00a9f1f004a802230
def Qbnd:=dZ 0x900024510f053e5d010113a8001881278098024800142 Qbnc R7
def Qbiw:=dZ 0x9006821321f0002460034405018812a801d512 Qbnd
def LW:=dY 0x101e8822342
def LV:=dY 0xdb09b0cb3d14f8b3914f054
def Qbip:=dZ 0x7004315b483e01032077800104207780883635a0b0a0804090807060504030201000e0ca2 .skip LV
def Qbiq:=dZ 0x9024310f023e6d0188227803041 Qbip LW
def Qbir:=dZ 0x902430101e88129802e31 Qbiq
def Qbis:=dZ 0x1909500400024500f00a112 Qbiw [] Qbir
def Ku:=dZ 0x9002440c90099f01c1c21 Qbis
def Qbit:=dZ 0x190919f02441022e3d018802281614412 Qbnb R9 Ku
def Qbiu:=dZ 0x9021015157171332f089f03601331800128020f61 Qbit RA
def Qbiv:=dZ 0x9210141052f011110200370375d1f18028160b41 Qbiu RB
def Yt:=dZ 0x91013157171332f049f190221 Qbiv Kt
abbrev Fe:List RS:=[.cell 4 3 true,.tmp 5,.tmp 6]
theorem Yb:mFn prog IY 2 62 Yt Fe=true:=ZW
def Qbcn:=dW 0x7210a80029f18f08f1f00430200661 [] [] [fI 9 (.slis (.k (.c (.str [97,98,99,100,101,102,103,104,105,106,107,108,109,110,111,112,113,114,115,116,117,118,119,120,121,122]))) (some (.t 6)) (some (.t 8))),fI 10 (.bin 0 .add (.k (.c (.str [118]))) (.t 9))]
def Qbco:=dZ 0x9310580039f1a6f0a4300431 Qbcn
def Qbne:=dW 0x901008f0211 [Qbco] [] [fI 2 (.mv (.k (.c (.str []))))]
theorem Qbmg:mFn prog Tn 1 11 Qbne Ac=true:=ZW
def Eh:=dY 0x29585e001
def FY:=dY 3801185
def Ef:=dY 0x107422f014c222 FY
def Rl:=dZ 0x2060a90079f1f0047801930
def Qa5w:=dZ 0x90000206101aad04601437800158226801b700342 Rl Ef
def Qa0m:=dZ 0x9026818318f0000207003440501582278014512 Qa5w
def Oz:=dY 2818097
def Oy:=dY 0x104a522f015c0143136127116a105575747105d1f7a2814f5a2614f305 Oz
def Ox:=dY 0x10174d12e14f72814f5a2614f2f4 Oy
def Qa5x:=dZ 0x20310174d2c9f0158422d9f01583268001581201580238024b0f0e0d0c04020b0a0402080a0907060504030201001510a .skip Ox
def Qa0f:=dZ 0x19095024000020600f007112 Qa0m [] Qa5x
def Qa0g:=dZ 0x90002050390069f04c1321 Qa0f
def R6:=dZ 0x2030e80049f1f0044800d30
def Qa0i:=dZ 0x190900204157574710532f059f05601534800800f510142 Qa0g Eh R6
def Qawj:=dZ 0x900680c37020400244050804009412 Qa0i
def Qa0j:=dZ 0x72103b0029f3803321
def Qa0k:=dZ 0x19095004020300f004112 Qawj [] Qa0j
def Qa0l:=dZ 0x92020880039f05c0821 Qa0k
def Qbi0:=dZ 0x901054f00211 Qa0l
theorem Qbg6:mFn prog Q9g 1 52 Qbi0 Ac=true:=ZW
def Qt0:=dY 0x47100432f041
def Qt1:=dY 0x101e38220f2
def Qanr:=dW 0x80203108f0138220800b400a3 [] [Qt1] [aJ 14 S2 [.t 11,.t 13]]
def Sb:=dY 0x990051
def Qans:=dZ 0x802030056f02e4d0803420333
def Qye:=dZ 0x933f0204003340501383205010120133580010020020708026ee0ef202030046f02e4d0802420233 Qans
def Qant:=dZ 0x923f00205003f6a0473840f03810f013820f03870f083800f583800f000f0445801aa1 Qye
def Qanu:=dZ 0x809002041022e3d01382201600207080137808f2123 Qant Sb
def Qt3:=dY 8126561
def Qt4:=dY 0x10eb422f014c462 Qt3
def Qag8:=dZ 0x102050db0079f1f0047803c30
def Qag9:=dW 0x9010205108f04601437800138320806803e800142 [Qag8] [Qt4] [aJ 69 SF [.t 63,.t 68]]
def Qabm:=dZ 0x900683b33bf010206003440501383278037512 Qag9
def Qaha:=dZ 0x74100484e38464a21
def Qahb:=dZ 0x90320101e38326804831 Qaha
def Qahc:=dZ 0x1909500401020500f007112 Qabm [] Qahb
def Vn:=dZ 0x91020406b0069f04c3621 Qahc
def Qtz:=dZ 0x1909d020400d6f02401380210312 Qanu [] Vn
def Qahd:=dZ 0x1909502040026f0240140208312 Qanr [] Qtz
def Qawk:=dZ 0x902031152f0311 Qahd Qt0
theorem Qau1:mFn prog SF 2 75 Qawk Bm=true:=ZW
def Qanv:=dZ 0x800201e042171800800950083
def Qawl:=dZ 0x9600300f0240104207300451 Qanv
theorem Qau2:mFn prog Q2g 2 13 Qawl AJ=true:=ZW
def Qanw:=dZ 0x87410a90049f5801a21193
def Qanx:=dZ 0x30030f80059f1f0145800e30
def Qany:=dZ 0x190919f300400124180010020133580010220708010a10142 Qanw [] Qanx
def Qahe:=dZ 0x900680d37300400f074600c212 Qany
def Qan0:=dZ 0x1909500430030b80059f1f0140501022075006712 Qahe [] Cb
def Qawm:=dZ 0x900200f00411 Qan0
theorem Qau3:mFn prog SE 2 27 Qawm Ab=true:=ZW
def Qyf:=dY 0xa80071
def Qarh:=dZ 0x800030026f02e4d0801920183
def Qyg:=dY 0x201e022b97293
def Qyh:=dY 9109601
def Qari:=dW 0x761108f1f01401032070803361 [] [Qyh] [aJ 56 Tn [.t 55]]
def Qarj:=dZ 0x9010201e032571f00401032070800802b91 Qari
def Q2u:=dZ 0x90110f9322f013c01211151030013d1f280010320708018001022070800801be11f11f2 Qarj Qyg
def Qark:=dZ 0x190918f000402f0d8a0121b40f281b00f01b10f021b20f0131b30f781b00f01b10f021b20f01b70f081b00f000f074300be12 Qarh [] Q2u
def Qarl:=dW 0x940004108f70700831 [Qark] [Qyf] [aJ 10 SE [.t 8,.t 9]]
def Qa0n:=dW 0x90003008f0611 [Qarl] [] [fI 6 (.mv (.k (.c (.str []))))]
theorem Qayg:mFn prog Q7d 3 57 Qa0n Ad=true:=ZW
def Qqr:=dY 0xc9a85e001
def Qqs:=dY 0xea00b1
def Qqt:=dY 0x105a422f014c2d2 Qqs
def Qahf:=dZ 0x4000904a00c9f1f004c802330
def Qahg:=dW 0x90000040009108f0460143c8001a822080b8025800342 [Qahf] [Qqt] [aJ 44 SF [.t 38,.t 43]]
def Qab0:=dZ 0x9026822322f000004000a003440501a822c801e512 Qahg
def Qqu:=dY 0x101ea812392
def Qahh:=dZ 0x80004000710133e5d28001a8120803450333 .skip Qqu
def Qqv:=dY 0x101ea812412
def Qahi:=dW 0x800040007108f01a8120803d403c3 [] [Qqv] [aJ 64 S2 [.t 61,.t 63]]
def Qog:=dY 0x101ea832482
def Qoh:=dY 0x101ea8424f2
def Qoi:=dY 3997809
def Qabn:=dZ 0x40006102522f015ca8567805040 .skip Qoi
def Qabo:=dZ 0x90004000710243e6d1f00428001a8420804961 Qabn Qoh
def V3:=dZ 0x90004000710243e6d1f00428001a8320804261 Qabo Qog
def Qabp:=dZ 0x19093cf000400080026f02401a8023a312 Qahi [] V3
def Qqp:=dZ 0x190933f0004000801f02401a80231312 Qahh [] Qabp
def Qabq:=dZ 0x9000400070101ea822b802f30d22 Qqp
def Qabr:=dZ 0x19095024000004000900f00c112 Qab0 [] Qabq
def Qabs:=dZ 0x90000400080d900b9f04c1d21 Qabr
def Qabt:=dZ 0x400060890099f1f0049801730
def Qabu:=dZ 0x190900040007157574710532f0a9f056015398018019510142 Qabs Qqr Qabt
def Q8u:=dZ 0x90068163c0040007002440518098013412 Qabu
def Qabv:=dW 0x8710201e0226708f880010220708008056a0553 [] [] [fI 92 (.sli 3 (.t 90) none (some (.t 91)))]
def Qqq:=dZ 0x7610fd0069f7805f21
def Qabw:=dZ 0x190955f060400f06428054212 Qabv [] Qqq
def Qabx:=dZ 0x19095004004000600f009112 Q8u [] Qabw
def Qaby:=dZ 0x90400050290089f0501022070800e61 Qabx
def Qabz:=dZ 0x9400040d80079f05c0d21 Qaby
def Qarm:=dZ 0x90003054f00611 Qabz
theorem Qapr:mFn prog Qvk 3 96 Qarm Ad=true:=ZW
def Qyi:=dY 8912977
def Qarn:=dZ 0x7410d80049f1800d21
def Qaro:=dZ 0x809110036f02e4d0800b210a3 Qarn
def Qyj:=dY 6881345
def Qarp:=dW 0x741108f01012013358001022070800e91 [] [Qyj] [aJ 22 Tn [.t 21]]
def Qarq:=dZ 0x19094300400f0443009212 Qaro [] Qarp
def Qarr:=dW 0x93003108f50500631 [Qarq] [Qyi] [aJ 8 SE [.t 6,.t 7]]
def Qa0o:=dW 0x9002008f0411 [Qarr] [] [fI 4 (.mv (.k (.c (.str []))))]
theorem Qayh:mFn prog S2 2 23 Qa0o Ab=true:=ZW
theorem Q9y:mFn prog Qne 1 8 Kp Ac=true:=ZW
def Qq4:=dW 0x741108f40400531 [] [E8] [aJ 7 VN [.t 5,.t 6]]
def Quu:=dZ 0x900202f00411 Qq4
theorem Qt8:mFn prog VZ 2 9 Quu Ab=true:=ZW
def Qm1:=dW 0x741108f40400531 [] [E8] [aJ 7 VY [.t 5,.t 6]]
def Qq5:=dZ 0x900202f00411 Qm1
theorem Qpv:mFn prog Xa 2 9 Qq5 Ab=true:=ZW
def Quv:=dW 0x741108f40400531 [] [E8] [aJ 7 VC [.t 5,.t 6]]
def Q1x:=dZ 0x900202f00411 Quv
theorem Qz6:mFn prog VU 2 9 Q1x Ab=true:=ZW
def Tw:=dZ 0x876102f006110e3
def Qhb:=dY 0x59884e390072
def Qhc:=dY 0x99984e001
def GP:=dY 33249
def Tv:=dZ 0x876102f006111e3
def Qyp:=dZ 0x9c00c0161012242f984688462801a41 Tv GP
def Qyq:=dZ 0x900505017147100432f099f04601437801801651 Qyp Qhc
def Tu:=dZ 0xc0150f90119f1f19041f20
def Qys:=dZ 0x190900604017147100432f089f04624431013410142 Qyq Qhb Tu
def Quz:=dZ 0x90012b000c016010441211 Qys
def TC:=dZ 0x76103f00611
def Qux:=dZ 0x1909500400c01500f0050800f312 Quz [] TC
def Quy:=dZ 0x1909b00040023405180050800a512 Tw [] Qux
def Q5c:=dZ 0x9000302f00611 Quy
theorem Q27:mFn prog Ta 3 32 Q5c Ad=true:=ZW
def Qk4:=dY 0x59883e390072
def Qk5:=dY 0x99983e001
def Q5f:=dZ 0x9c00c0161012242f983688362801a41 Tv GP
def Q5g:=dZ 0x900505017157171332f099f03601337801801651 Q5f Qk5
def Q5i:=dZ 0x190900604017157171332f089f03624331013410142 Q5g Qk4 Tu
def Q11:=dZ 0x90012b000c016010441211 Q5i
def Q1z:=dZ 0x1909500400c01500f0050800f312 Q11 [] TC
def Q10:=dZ 0x1909b00040023405180050800a512 Tw [] Q1z
def Qaci:=dZ 0x9000302f00611 Q10
theorem Q90:mFn prog VD 3 32 Qaci Ad=true:=ZW
def Qhe:=dY 0x59885e390072
def Qhf:=dY 0x99985e001
def Qyv:=dZ 0x9c00c0161012242f985688562801a41 Tv GP
def Qyw:=dZ 0x900505017157574710532f099f05601537801801651 Qyv Qhf
def Qyy:=dZ 0x190900604017157574710532f089f05624531013410142 Qyw Qhe Tu
def Qu3:=dZ 0x90012b000c016010441211 Qyy
def Qu1:=dZ 0x1909500400c01500f0050800f312 Qu3 [] TC
def Qu2:=dZ 0x1909b00040023405180050800a512 Tw [] Qu1
def Q5j:=dZ 0x9000302f00611 Qu2
theorem Q28:mFn prog IM 3 32 Q5j Ad=true:=ZW
def Q5l:=dZ 0x874102f00411183
def Q5m:=dZ 0x9a0a00500434010113580180010113580080109909f2 Q5l
def Q5n:=dZ 0xa00409900d9f1fd8041920
def Q5o:=dZ 0x19090630050f80059f100f210142 Q5m [] Q5n
def Q12:=dZ 0x9000eb00a005010440e11 Q5o
def Q5q:=dZ 0x190950040a00400f0050800b312 Q12 [] Cc
def Q5r:=dZ 0x19098003002340560055006512 Rm [] Q5q
def Pg:=dZ 0x900202f00411 Q5r
theorem Q91:mFn prog Qnf 2 26 Pg Ab=true:=ZW
def Q5t:=dZ 0x97013006004142f0360133700801800b61 Db
def Q5v:=dZ 0x19090130050a80059f100a210142 Q5t [] DY
def Q13:=dZ 0x90009b005005010440911 Q5v
def Q5x:=dZ 0x190950040500400f0055006312 Q13 [] Cb
def Qack:=dZ 0x900200f00411 Q5x
theorem Q92:mFn prog Qng 2 19 Qack Ab=true:=ZW
def Qy0:=dZ 0x97013006004142f0560153700801800b61 Db
def Qy2:=dZ 0x19090130050a80059f100a210142 Qy0 [] DY
def Qu4:=dZ 0x90009b005005010440911 Qy2
def Qy4:=dZ 0x190950040500400f0055006312 Qu4 [] Cb
def Q5y:=dZ 0x900200f00411 Qy4
theorem Q29:mFn prog VN 2 19 Q5y Ab=true:=ZW
theorem Qvv:mFn prog VY 2 19 Mm Ab=true:=ZW
def Q50:=dZ 0x9701300600424010113700801800b61 Db
def Q52:=dZ 0x19090130050a80059f100a210142 Q50 [] DY
def Q14:=dZ 0x90009b005005010440911 Q52
def Q54:=dZ 0x190950040500400f0055006312 Q14 [] Cb
def Qacm:=dZ 0x900200f00411 Q54
theorem Q93:mFn prog VC 2 19 Qacm Ab=true:=ZW
def S8:=dY 32913
def Q55:=dZ 0x872101f00211093
def Qk8:=dY 0x790690052
def Qk9:=dY 92685983745 Qk8
def Qla:=dY 0x157171332f049f52b41b30b159f490115 Qk9
def Q56:=dZ 0x87210a90029f5801a21193
def Q57:=dZ 0x919f111400f0345801821 Q56
def Q58:=dZ 0x1120090039f1f0043800f30
def Q59:=dZ 0x1909111310129fd380181612310142 Q57 Qla Q58
def Q18:=dZ 0x900680e3a1130034405011802600a512 Q59
def Q16:=dZ 0x1909500411200f003112 Q18 [] Gl
def Q17:=dZ 0x190971210194d51607212 Q55 S8 Q16
def Qacn:=dZ 0x91100f0090121 Q17
theorem Q94:mFn prog Qnh 1 27 Qacn Ac=true:=ZW
def Qao1:=dZ 0x874102f00411213
def Qt5:=dY 33601
def Qao2:=dZ 0x874102f00411343
def Qao3:=dZ 0x102308a0059f1f0045802730
def Qao4:=dZ 0x190934f102410526ad0460143580013832046014358001283229bc0cf20142 Qao2 Qt5 Qao3
def Qahr:=dZ 0x9006826326f1024003440501283258022512 Qao4
def Qao6:=dZ 0x19095004102300f005112 Qahr [] Cc
def Qao7:=dZ 0x190921f023003f7a0333240f03250f03210f3833220f03250f03210f2833220f0003f5a0232440f02410f3822420f02410f2822420f0003f5a0231640f01610f3811620f01610f2811620f0002340140201302061cf12 Qao1 [] Qao6
def Qawr:=dZ 0x902202f019190231 Qao7
theorem Qau5:mFn prog Q2h 2 53 Qawr Ab=true:=ZW
def Q6g:=dZ 0x874102f004110c3
def SX:=dY 0x3f1ba06280f3f2
def SW:=dY 0x1062336203f06210f026220f0136230f586200f06210f3806220f06210f026220f0136230f586200f06210f2806220f0003f1aa04280f2f10f SX
def Q6h:=dZ 0x874102f00411403
def Q6i:=dZ 0x10230390059f1f0045801230
def Q6j:=dZ 0x190940f10241062324203f04210f014220f0134230f584200f04210f3804220f04210f014220f0134230f584200f04210f2804220f000634010020133580013802010020133580012802141bf2df2df20142 Q6h SW Q6i
def Q2b:=dZ 0x90068113b10240034405012802700d512 Q6j
def Q6l:=dZ 0x19095004102300f005112 Q2b [] Cc
def Q6m:=dZ 0x19098023003340501502050130206712 Q6g [] Q6l
def Qacp:=dZ 0x902202f019190231 Q6m
theorem Q95:mFn prog Qni 2 65 Qacp Ab=true:=ZW
def Qhq:=dY 7864385
def Qy7:=dW 0x741108f40400531 [] [Qhq] [aJ 7 VL [.t 5,.t 6,.k (.c (.bool true))]]
def Q6o:=dZ 0x900200f00411 Qy7
theorem Q3b:mFn prog VM 2 8 Q6o Ab=true:=ZW
def VX:=dY 45249
def Qhr:=dY 0x121f1f280122
def Qy8:=dZ 0x87610490069f7801421133
def Qy9:=dZ 0x9824015101142f701800f31 Qy8 Qhr
def Qza:=dZ 0x91040150e80d80079f22b11b0d41014 Qy9
def Qva:=dW 0x9000cb007015108f0b11 [Qza] [VX] [eI 11 (.nxts (.t 10))]
def Qzb:=dZ 0x76107f00611
def Qzc:=dW 0x190950047013008f08009212 [Qva,Qzb] [] [eI 10 (.rngs (.t 9))]
def Q6p:=dZ 0x9000300f00611 Qzc
theorem Q3c:mFn prog VL 3 21 Q6p Ad=true:=ZW
end Go.AE.Y
namespace Go.AE.Y
mutual
def Ex.cnt:Ex→Nat
 |.mk _ _ _ kids=>3+Fl kids
def Fl:List Ex→Nat
 |[]=>0
 |x::r=>x.cnt+Fl r
end
theorem Ex.cnt_eq (x:Ex):x.cnt=3+Fl x.kids:=by cases x;simp only[Ex.cnt,Ex.kids]
theorem YO {l:List Ex}:∀r∈Ql l,r.length=4:=by
 intro r hr;rw[EK]at hr;obtain⟨x,_,rfl⟩:=Jj.1 hr;exact x.ae
theorem B9 {l:List St}:∀r∈Qk l,r.length=5:=by
 intro r hr;rw[Dj]at hr;obtain⟨x,_,rfl⟩:=Jj.1 hr;exact x.ae
theorem YM {l:List Fn}:∀r∈Qo l,r.length=3:=by
 intro r hr;obtain⟨x,_,rfl⟩:=Jj.1 hr;exact x.ae
theorem I7 {l:List (List UInt8)}:∀r∈Q5 l,r.length=1:=by
 intro r hr;obtain⟨x,_,rfl⟩:=Jj.1 hr;rfl
end Go.AE.Y
namespace Go.AE
theorem OwL.atoms:∀{cs:List C},(∀c∈cs,C.atom c=true)→OwL [] cs cs
 |[],_=>.nil
 |c::cs,h=>.atom (h c ZV) (OwL.atoms fun d hd=>h d (by simp[hd]))
end Go.AE
namespace Go.AE.Y
attribute [local go_sem] cond_true cond_false Bool.not_true Bool.not_false
open Go.Proofs.Tryz
variable {H H0 F:Heap}{K:V→Heap→Prop}{E B Lg:List (Nat×Obj)}{fns:List Fn}
theorem Qbed (ss:List (List UInt8)):OwL [] (Q5 ss).flatten (Q5 ss).flatten:=OwL.atoms fun c hc=>by
 obtain⟨r,hr,hc⟩:=List.mem_flatten.1 hc;obtain⟨x,_,rfl⟩:=Jj.1 hr;rw[Je.1 hc];rfl
theorem St.size_pos2 (x:St):1≤x.size:=by rw[x.size_eq];omega
abbrev sttO (x:St):Obj:=.st [.int .i64 x.op,.str x.name,.sl false 4 (Ql x.args),.sl false 5 (Qk x.body),.sl false 5 (Qk x.els)]
abbrev exxO (x:Ex):Obj:=.st [.int .i64 x.op,.int .i64 x.n,.str x.name,.sl false 4 (Ql x.kids)]
theorem RH {g:Ex→Ex}{f:Nat}{caps:List C}{l:List Ex}{fl:Bool}
  (hf:∀x∈l,∀(H1:Heap) (K':V→Heap→Prop),(∀m,H m≠.none→H1 m=H m)→(∀H2 L cs,Kn H1 H2 [] L→OwL L cs (g x).cells→K' (.ag cs) H2)→Qm prog f ([.ag x.cells]++caps.map .c) H1 K')
  (hK:∀H' L t,Kn H H' [] L→OwS L 4 (Ql (l.map g)) t→K (.c t) H'):Qm prog FC [.c (.sl fl 4 (Ql l)),.c (.fn f caps)] H K:=by
 refine Qc Aa Qvt ?_;refine Za ?_;refine Za ?_;refine Qz (Qa ?_);simp only[go_sem,Qh];intro hl;simp only[LIM]at hl;refine Qf (Qg (Q3 (fun m e1 H1=>∃(i:Nat) (t:C) (Lg M:List (Nat×Obj)) (rows:List (List C)),m=l.length-i∧i≤l.length∧Gr Lg 4 rows t∧rows.length=i∧(∀r∈rows,r.length=4)∧OwL M rows.flatten (Ql ((l.take i).map g)).flatten∧Kn H H1 [] (M++Lg)∧
  e1=[(1,.c (.fn f caps)),(5,.c t),(8,.c (.sl fl 4 (Ql l))),(9,.c (.int .i64 l.length)),(10,.c (.int .i64 i))]) l.length ?_ ?_))
 ·exact⟨0,_,[],[],[],ZT,ZT,.nil 4,rfl,ZV,.nil,Kn.ao H,rfl⟩
 ·rintro m e1 H1 ⟨i,t,Lg,M,rows,hm,hi,b9,co,iE,an,kn,rfl⟩;have aq:=b9.ah;refine Zd aq ?_;refine Qf (Qb rfl ?_ ?_)
  ·intro hc;have af:i<l.length:=ZU
   obtain⟨x,hx⟩:∃x,l[i]=x:=⟨_,rfl⟩;have iz:x∈l:=by rw[←hx];exact J6 af
   have aY:Ql ((l.take (i+1)).map g)=Ql ((l.take i).map g)++[(g x).cells]:=by
    rw[Dm,J2 af,hx];simp
   refine Zc ?_
   refine Qf (Qg ?_);refine Qa ?_;simp only[go_sem,aq,af,Qh,Qs _ _ af,hx,x.aa];intro x7 i8 H3 h3;have kn:Kn H H3 [] ([(x7,.st [.int .i64 0,.int .i64 0,.str [],.sl true 4 []])]++(M++Lg)):=(kn.al i8 h3).perm Jp;have g7:=kn.l 0 rfl;simp only[go_sem,Qfm,g7,aq];intro H4 h4;have kn:Kn H H4 [] ([(x7,exxO x)]++(M++Lg)):=kn.ax 0 rfl h4;have g7:=kn.l 0 rfl;refine Qr ?_;simp only[go_sem,exxO,g7,aq];have cZ:=hf x iz H4;rw[x.aa]at cZ;refine cZ _ (fun m hm=>kn.chg m hm ZV) fun H5 L2 cs k2 ho=>?_;have cG:cs.length=4:=ZbI
   have kn:=kn.comp0 k2;have kn:Kn H H5 [] (([(x7,exxO x)]++(M++L2))++Lg):=kn.perm (by
    simp only[Jm];exact (J4 M Jp).append_left _)
   simp only[go_sem,Qfo,aq,cG];refine kn.aQ b9 (new:=[cs]) (.mk' _ true 4 _) ZbX (by simp only[co,Jah,J8,LIM];omega) fun t2 Lg2 H6 bS aW kn=>?_;simp only[go_sem,E3,aW];refine Zl aW ?_;refine⟨Qv,l.length-(i+1),ZT,i+1,t2,Lg2,M++L2,rows++[cs],rfl,ZT,bS,by simp[co],?_,?_,kn.sub ?_,rfl⟩
   ·intro r hr;rcases Jb.1 hr with hr|hr
    ·exact iE r hr
    ·rw[Je.1 hr];exact cG
   ·rw[aY];simp only[List.flatten_append,List.flatten_cons,List.flatten_nil,J1];exact an.app ho
   ·simp only[Jm];exact List.sublist_append_right _ _
  ·intro hc;have aV:l.length≤i:=ZU
   rw[Jw aV]at an;refine Zg ?_;refine Zd aq ?_;refine ZL aq ?_;exact hK _ _ _ (kn.perm Jp) (b9.ows (by simp only[Qh,Jak];omega) iE YO an)
theorem Ec {g:St→St}{f:Nat}{caps:List C}{l:List St}{fl:Bool}
  (hf:∀x∈l,∀(H1:Heap) (K':V→Heap→Prop),(∀m,H m≠.none→H1 m=H m)→(∀H2 L cs,Kn H1 H2 [] L→OwL L cs (g x).cells→K' (.ag cs) H2)→Qm prog f ([.ag x.cells]++caps.map .c) H1 K')
  (hK:∀H' L t,Kn H H' [] L→OwS L 5 (Qk (l.map g)) t→K (.c t) H'):Qm prog Rn [.c (.sl fl 5 (Qk l)),.c (.fn f caps)] H K:=by
 refine Qc Aa Qvu ?_;refine Za ?_;refine Za ?_;refine Qz (Qa ?_);simp only[go_sem,Qp];intro hl;simp only[LIM]at hl;refine Qf (Qg (Q3 (fun m e1 H1=>∃(i:Nat) (t:C) (Lg M:List (Nat×Obj)) (rows:List (List C)),m=l.length-i∧i≤l.length∧Gr Lg 5 rows t∧rows.length=i∧(∀r∈rows,r.length=5)∧OwL M rows.flatten (Qk ((l.take i).map g)).flatten∧Kn H H1 [] (M++Lg)∧
  e1=[(1,.c (.fn f caps)),(5,.c t),(8,.c (.sl fl 5 (Qk l))),(9,.c (.int .i64 l.length)),(10,.c (.int .i64 i))]) l.length ?_ ?_))
 ·exact⟨0,_,[],[],[],ZT,ZT,.nil 5,rfl,ZV,.nil,Kn.ao H,rfl⟩
 ·rintro m e1 H1 ⟨i,t,Lg,M,rows,hm,hi,b9,co,iE,an,kn,rfl⟩;have aq:=b9.ah;refine Zd aq ?_;refine Qf (Qb rfl ?_ ?_)
  ·intro hc;have af:i<l.length:=ZU
   obtain⟨x,hx⟩:∃x,l[i]=x:=⟨_,rfl⟩;have iz:x∈l:=by rw[←hx];exact J6 af
   have aY:Qk ((l.take (i+1)).map g)=Qk ((l.take i).map g)++[(g x).cells]:=by
    rw[EC,J2 af,hx];simp
   refine Zc ?_
   refine Qf (Qg ?_);refine ZF aq af hx ?_;intro x7 i8 H3 h3;have kn:Kn H H3 [] ([(x7,.st [.int .i64 0,.str [],.sl true 4 [],.sl true 5 [],.sl true 5 []])]++(M++Lg)):=(kn.al i8 h3).perm Jp;have g7:=kn.l 0 rfl;simp only[go_sem,SN,g7,aq];intro H4 h4;have kn:Kn H H4 [] ([(x7,sttO x)]++(M++Lg)):=kn.ax 0 rfl h4;have g7:=kn.l 0 rfl;refine Qr ?_;simp only[go_sem,sttO,g7,aq];have cZ:=hf x iz H4;rw[x.aa]at cZ;refine cZ _ (fun m hm=>kn.chg m hm ZV) fun H5 L2 cs k2 ho=>?_;have cG:cs.length=5:=ZbI
   have kn:=kn.comp0 k2;have kn:Kn H H5 [] (([(x7,sttO x)]++(M++L2))++Lg):=kn.perm (by
    simp only[Jm];exact (J4 M Jp).append_left _)
   simp only[go_sem,Qfr,aq,cG];refine kn.aQ b9 (new:=[cs]) (.mk' _ true 5 _) ZbX (by simp only[co,Jah,J8,LIM];omega) fun t2 Lg2 H6 bS aW kn=>?_;simp only[go_sem,E3,aW];refine Zl aW ?_;refine⟨Qv,l.length-(i+1),ZT,i+1,t2,Lg2,M++L2,rows++[cs],rfl,ZT,bS,by simp[co],?_,?_,kn.sub ?_,rfl⟩
   ·intro r hr;rcases Jb.1 hr with hr|hr
    ·exact iE r hr
    ·rw[Je.1 hr];exact cG
   ·rw[aY];simp only[List.flatten_append,List.flatten_cons,List.flatten_nil,J1];exact an.app ho
   ·simp only[Jm];exact List.sublist_append_right _ _
  ·intro hc;have aV:l.length≤i:=ZU
   rw[Jw aV]at an;refine Zg ?_;refine Zd aq ?_;refine ZL aq ?_;exact hK _ _ _ (kn.perm Jp) (b9.ows (by simp only[Qp,Jak];omega) iE B9 an)
theorem Pd:∀(n:Nat) (x:Ex) {H:Heap} {K:V→Heap→Prop},x.size≤n→(∀H' L cs,Kn H H' [] L→OwL L cs x.cells→K (.ag cs) H')→Qm prog HY [.ag x.cells] H K:=by
 intro n
 induction n with
 |zero=>intro x H K h;have:=x.size_pos;omega
 |succ n ih=>
 intro x H K hn hK;have aO:=x.size_kids;refine Qc Aa Qapo ?_;refine Zu ?_;intro x1 dD H1 h1;have kn:=(Kn.ao H).al dD h1;simp only[go_sem,E5];intro x2 bB H2 h2;have kn:=kn.al bB h2;have g1:=kn.l 0 rfl;refine Zd g1 ?_;refine RH (g:=id) (caps:=[]) (fun y hy H1 K' _ cP=>ih y (by have:=Bn hy;omega) cP) fun H3 L t k2 ho=>?_;rw[Jad]at ho;have kn:=kn.comp0 k2;have g1:=kn.l 0 rfl;have aq:=ho.ah;simp only[go_sem,Sl,g1,aq];intro H4 h4;have kn:=kn.ax 0 rfl h4;have g1:=kn.l 0 rfl;have g2:=kn.l 1 rfl;refine Zr g1 g2 aq ?_;intro H5 h5;have kn:=kn.ax 1 rfl h5;have g2:=kn.l 1 rfl;refine Qi ?_;simp only[go_sem,Qq,Q0,Je,forall_eq,RS.op,g2,aq];exact hK _ L _ (kn.sub (List.sublist_append_right [_,_] _)) (by rw[x.aa];exact .atom rfl (.atom rfl (.atom rfl ho.one)))
theorem Qaw1:∀(n:Nat) (x:St) {H:Heap} {K:V→Heap→Prop},x.size≤n→(∀H' L cs,Kn H H' [] L→OwL L cs x.cells→K (.ag cs) H')→Qm prog HX [.ag x.cells] H K:=by
 intro n
 induction n with
 |zero=>intro x H K h;have:=x.size_pos2;omega
 |succ n ih=>
 intro x H K hn hK;have aO:=x.size_eq;refine Qc Aa Qapp ?_;refine Zu ?_;intro x1 dD H1 h1;have kn:=(Kn.ao H).al dD h1;simp only[go_sem,Qqc];intro x2 bB H2 h2;have kn:=kn.al bB h2;have g1:=kn.l 0 rfl;refine Zd g1 ?_;refine RH (g:=id) (caps:=[]) (fun y hy H1 K' _ cP=>Pd y.size y (Jae _) cP) fun H3 La ta k2 ha=>?_;rw[Jad]at ha;have kn:=kn.comp0 k2;have g1:=kn.l 0 rfl;have bE:=ha.ah;simp only[go_sem,Qqd,g1,bE];intro H4 h4;have kn:=kn.ax 0 rfl h4;have g1:=kn.l 0 rfl;refine Zi g1 bE ?_;refine Ec (g:=id) (caps:=[]) (fun y hy H1 K' _ cP=>ih y (by have:=Bw hy;omega) cP) fun H3 Lb tb k2 hb=>?_;rw[Jad]at hb;have kn:=kn.comp0 k2;have g1:=kn.l 0 rfl;have bt:=hb.ah;simp only[go_sem,Qqe,g1,bE,bt];intro H4 h4;have kn:=kn.ax 0 rfl h4;have g1:=kn.l 0 rfl;refine Zr g1 bE bt ?_;refine Ec (g:=id) (caps:=[]) (fun y hy H1 K' _ cP=>ih y (by have:=Bw hy;omega) cP) fun H3 Lc tc k2 hc=>?_;rw[Jad]at hc;have kn:=kn.comp0 k2;have g1:=kn.l 0 rfl;have cL:=hc.ah;simp only[go_sem,Qqf,g1,bE,bt,cL];intro H4 h4;have kn:=kn.ax 0 rfl h4;have g1:=kn.l 0 rfl;have g2:=kn.l 1 rfl;refine Zj g1 g2 bE bt cL ?_;intro H5 h5;have kn:=kn.ax 1 rfl h5;have g2:=kn.l 1 rfl;refine Qi ?_;simp only[go_sem,Qq,Q0,Je,forall_eq,RS.op,g2,bE,bt,cL];refine hK _ (La++(Lb++Lc)) _ (kn.sub ?_) (by rw[x.aa];exact .atom rfl (.atom rfl (ha.cons (hb.cons hc.one))));show (La++(Lb++Lc)).Sublist ((_::_::La)++Lb++Lc);rw[Jm];exact List.sublist_append_right [_,_] _
theorem Oa {fl:Bool}{ss:List (List UInt8)}(hl:ss.length≤2^38)(hK:∀H' L t,Kn H H' [] L→OwS L 1 (Q5 ss) t→K (.c t) H'):Qm prog Qne [.c (.sl fl 1 (Q5 ss))] H K:=by
 refine Qc Aa Q9y ?_;refine Za ?_;refine Qz (Qa ?_);simp only[go_sem];intro b hb;refine Qf (Qb rfl ?_ ?_)
 ·intro nk;have hn:=hb nk;have hs:ss=[]:=by
   cases ss with
   |nil=>rfl
   |cons a r=>simp[Q5]at hn
  subst hs;refine Za ?_;refine ZH ?_;exact hK _ [] _ (Kn.ao H) (.inl ⟨rfl,rfl,rfl⟩)
 ·intro lK;refine Ze ?_;refine Qa ?_;simp only[go_sem,Qt];refine⟨.inl trivial,CJ _,by simp only[LIM];omega,fun z hz H1 h1=>?_⟩;have kn:=(Kn.ao H).al hz h1;simp only[go_sem,Q8w];refine ZH ?_;exact hK _ _ _ kn ((Gr.mk z 1 _ (by rw[Qt];omega)).ows rfl I7 I7 (Qbed ss))
theorem Qa98 {f:Fn}(hl:f.params.length≤2^38)(hK:∀H' L cs,Kn H H' [] L→OwL L cs f.cells→K (.ag cs) H'):Qm prog TO [.ag f.cells] H K:=by
 refine Qc Aa Qax2 ?_;refine ZP ?_;intro x1 dD H1 h1;have kn:=(Kn.ao H).al dD h1;simp only[go_sem,Qwx];intro x2 bB H2 h2;have kn:=kn.al bB h2;have g1:=kn.l 0 rfl;refine Zd g1 ?_;refine Oa hl fun H3 La ta k2 ha=>?_;have kn:=kn.comp0 k2;have g1:=kn.l 0 rfl;have bE:=ha.ah;simp only[go_sem,Qwy,g1,bE];intro H4 h4;have kn:=kn.ax 0 rfl h4;have g1:=kn.l 0 rfl;refine Zi g1 bE ?_;refine Ec (g:=id) (caps:=[]) (fun y hy H1 K' _ cP=>Qaw1 y.size y (Jae _) cP) fun H3 Lb tb k2 hb=>?_;rw[Jad]at hb;have kn:=kn.comp0 k2;have g1:=kn.l 0 rfl;have bt:=hb.ah;simp only[go_sem,Qwz,g1,bE,bt];intro H4 h4;have kn:=kn.ax 0 rfl h4;have g1:=kn.l 0 rfl;have g2:=kn.l 1 rfl;refine ZG g1 g2 bE bt ?_;intro H5 h5;have kn:=kn.ax 1 rfl h5;have g2:=kn.l 1 rfl;refine Qi ?_;simp only[go_sem,Qq,Q0,Je,forall_eq,RS.op,g2,bE,bt];exact hK _ (La++Lb) _ (kn.sub (List.sublist_append_right [_,_] _)) (.atom rfl (ha.cons hb.one))
theorem OwL.fn {L:List (Nat×Obj)}{cs:List C}{f:Fn}(h:OwL L cs f.cells):∃La Lb ta tb,cs=[.str f.name,ta,tb]∧L=La++Lb∧OwS La 1 (Q5 f.params) ta∧OwS Lb 5 (Qk f.body) tb:=by
 obtain⟨c1,e1,h1⟩:=h.inv_atom rfl;obtain⟨ta,c2,La,L2,e2,f2,ha,h2⟩:=h1.inv_sl;obtain⟨tb,e3,hb⟩:=h2.inv_one;exact⟨La,L2,ta,tb,by rw[e1,e2,e3],f2,ha,hb⟩
end Go.AE.Y
