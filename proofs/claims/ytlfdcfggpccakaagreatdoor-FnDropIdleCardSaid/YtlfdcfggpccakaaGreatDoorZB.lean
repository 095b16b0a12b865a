/- Part 2 of the proof: the engine, codes, walks and plain laws, each named where it stands. -/
import Derived.Test.YtlfdcfggpccakaaGreatDoorZA
import Derived.Test.YtlfdcfggpccakaaGreatDoorProg
open Nat (reduceEqDiff reduceAdd reduceLeDiff reduceLT)
set_option linter.unusedVariables false
set_option linter.unusedSimpArgs false
set_option maxRecDepth 4000
open Array renaming getD_eq_getD_getElem?->Jf,getElem?_eq_some_iff->Jn,getElem?_eq_getElem->Js,getElem?_setIfInBounds_self_of_lt->J1
open Bool renaming and_eq_true->Jl,not_eq_true'->Jae,true_and->Jav
open Int renaming eq_ofNat_of_zero_le->Jaf
open List renaming mem_of_getElem?->Ja,mem_append->Jb,mem_append_left->Jc,mem_append_right->Jd,getD_eq_getElem?_getD->Je,mem_cons->Jg,nodup_append->Ji,mem_map->Jj,append_assoc->Jk,map_append->Jm,mem_or_eq_of_mem_set->Jo,perm_append_comm->Jp,map_cons->Jq,nil_append->Jr,getElem?_eq_some_iff->Jt,mem_cons_of_mem->Ju,getElem?_eq_getElem->Jv,length_eq_zero_iff->Jw,cons_append->Jx,take_of_length_le->Jy,append_of_mem->Jz,mem_cons_self->J0,all_cons->J2,length_map->J3,mem_singleton->J4,getElem?_set->J5,all_nil->J6,map_nil->J7,map_set->J8,getElem_set->J9,not_mem_nil->Jaa,map_eq_nil_iff->Jab,drop_zero->Jac,pairwise_iff_getElem->Jad,ext_getElem->Jag,getElem_mem->Jah,length_eq_one_iff->Jai,append_nil->Jaj,contains_iff_mem->Jak,length_nil->Jal,length_singleton->Jam,flatMap_append->Jan,getElem?_drop->Jao,set_cons_zero->Jap,all_eq_true->Jar,countP_cons->Jas,count_cons->Jat
open Nat renaming zero_add->Jaq,le_refl->Jau,zero_le->Jax
open Option.some renaming injEq->Jh
open Prod.mk renaming injEq->Jaw
namespace Go.AE
variable {P:Program}{H:Heap}{g:G}{w:World}{e:Env}{a:Act}
abbrev dn (listed:Array Bool)(i:Nat):Prop:=listed.getD i false=true
def Rdy (P:Program)(x:Item)(e:Env)(H:Heap)(v:V):Prop:=
 match x with
 |.f _ gd op=>gdO e gd∧(gdB e gd=true→op.obl (gdB e gd) e H)∧v=gdV gd (gdB e gd) (op.val e H)
 |.p _ gd f xs=>gdO e gd∧∃r,(gdB e gd=true→(∀y∈xs,y.fine (gdB e gd) e)∧Qbm4 P f (xs.map fun y=>y.v e) r)∧v=gdV gd (gdB e gd) r
 |_=>False
theorem Rdy.congr {x:Item}{e e':Env}{v:V}(h:∀t∈x.looks,lk t e'=lk t e)(hr:Rdy P x e H v):Rdy P x e' H v:=by
 have h1:=Qaxj h;have h2:=Qbb1 h
 cases x with
 |f d gd op=>
  simp only[Item.gd]at h2;simp only[Item.opds]at h1;have h3:=FOp.congr (H:=H) (p:=gdB e gd) h1;simp only[Rdy]at hr⊢;rw[h2.1,h2.2,h3.1,h3.2];exact hr
 |p d gd f xs=>
  simp only[Item.gd]at h2;simp only[Item.opds]at h1;simp only[Rdy]at hr⊢;rw[h2.1,h2.2,Q46 h1,Q0v h1];exact hr
 |e=>exact hr
 |chk=>exact hr
theorem Rdy.hcongr {x:Item}{e:Env}{H':Heap}{v:V}(h:x.hf=true)(hr:Rdy P x e H v):Rdy P x e H' v:=by
 cases x with
 |f d gd op=>
  have h3:=FOp.hcongr (e:=e) (H:=H) (H':=H') (p:=gdB e gd) (op:=op) h;simp only[Rdy]at hr⊢;rw[h3.1,h3.2];exact hr
 |p d gd f xs=>exact hr
 |e=>exact hr
 |chk=>exact hr
theorem Qbs9 {n:Nat}{ops:Array Oper}{i:Nat}{o:Oper}{x:Item}{v:V}{Q:Exit→Act→World→Prop}{next:Act→World→Prop}(hoi:ops[i]? = some o)(hm:Qlf P n ops o x=true)
  (hr:Rdy P x e H v) (hs:Sat H g w) (he:EnvOk w g (trim x.looks e) a)
  (hnext:∀u w' g',Stp H g w H g' w'→RepV w' g' v u→next (a.put x.dst u) w') :
  wpOp P ops Q i next a w:=by
 have hr':Rdy P x (trim x.looks e) H v:=hr.congr fun t ht=>by rw[Qasv,if_pos ht]
 unfold wpOp;rw[hoi];simp only
 cases x with
 |f d gd op=>
  simp only[Qlf,Jl]at hm;obtain⟨⟨h1,h2⟩,h3⟩:=hm;obtain⟨hd1,hd2⟩:=Qdt h1;simp only[Rdy]at hr';obtain⟨r1,r2,r3⟩:=hr';rw[Qno (n:=n) h2 he r1];by_cases hg:gdB (trim (Item.f d gd op).looks e) gd=true
  ·rw[if_pos hg];obtain⟨u,w',g',k1,k2,k3,k4⟩:=Qaw3 h3 hs he hg (r2 hg);left;unfold Oper.wp;rw[k1,Oper.upon_value,hd1];refine hnext u w' g' k2 ?_;rw[r3]
   cases gd with
   |none=>exact k3
   |some tb=>exact .gd _ _ _ (fun _=>k3) (fun h=>by rw[hg]at h;simp at h)
  ·rw[if_neg hg];have hg':gdB (trim (Item.f d gd op).looks e) gd=false:=by simpa using hg
   rw[hd1];refine hnext _ _ g (.refl hs) ?_;rw[r3]
   cases gd with
   |none=>simp[gdB]at hg'
   |some tb=>exact .gd _ _ _ (fun h=>absurd h hg) (fun _=>rfl)
 |p d gd f xs=>
  simp only[Qlf,Jl]at hm;obtain⟨⟨h1,h2⟩,h3⟩:=hm;obtain⟨hd1,hd2⟩:=Qdt h1;simp only[Rdy]at hr';obtain⟨r1,v0,r2,r3⟩:=hr';rw[Qno (n:=n) h2 he r1];by_cases hg:gdB (trim (Item.p d gd f xs).looks e) gd=true
  ·rw[if_pos hg];obtain⟨s1,s2⟩:=r2 hg;left;refine Qbb8 h3 hs he hg s1 s2 Q next (fun y u w' H' g' hk hst hrep=>?_) fun v w' H' g' hk _=>absurd hk.1.symm (s2.1 v);obtain⟨rfl,rfl⟩:=hk;rw[hd1];refine hnext _ _ g' hst ?_;rw[r3]
   cases gd with
   |none=>exact hrep
   |some tb=>exact .gd _ _ _ (fun _=>hrep) (fun h=>by rw[hg]at h;simp at h)
  ·rw[if_neg hg];have hg':gdB (trim (Item.p d gd f xs).looks e) gd=false:=by simpa using hg
   rw[hd1];refine hnext _ _ g (.refl hs) ?_;rw[r3]
   cases gd with
   |none=>simp[gdB]at hg'
   |some tb=>exact .gd _ _ _ (fun h=>absurd h hg) (fun _=>rfl)
 |e=>exact hr'.elim
 |chk=>exact hr'.elim
theorem Qbsi {n:Nat}{ops:Array Oper}{i:Nat}{o:Oper}{d:Option Nat}{gd:Option (Nat×Bool)}{op:EOp}{K:V→Heap→Prop}{Q:Exit→Act→World→Prop}{next:Act→World→Prop}(hoi:ops[i]? = some o)
  (hm:Qlf P n ops o (.e d gd op)=true) (hs:Sat H g w) (he:EnvOk w g (trim (Item.e d gd op).looks e) a)
  (h1:gdO e gd) (h2:gdB e gd=true→op.eff P (gdB e gd) e H K) (h3:gdB e gd=false→K .unk H)
  (hnext:∀x u w' H' g',K x H'→Stp H g w H' g' w'→RepV w' g' x u→next (a.put d u) w') (hpan:∀v w' H' g',K (.pn v) H'→Stp H g w H' g' w'→Q (.panic [{ v:=v,recovered:=false }]) a w') :
  wpOp P ops Q i next a w:=by
 have hlk:∀t∈(Item.e d gd op).looks,lk t (trim (Item.e d gd op).looks e)=lk t e:=fun t ht=>by rw[Qasv,if_pos ht]
 have c1:=Qaxj hlk;have c2:=Qbb1 hlk;simp only[Item.gd]at c2;simp only[Item.opds]at c1;unfold wpOp;rw[hoi];simp only;simp only[Qlf,Jl]at hm;obtain⟨⟨m1,m2⟩,m3⟩:=hm;obtain⟨hd1,hd2⟩:=Qdt m1;rw[Qno (n:=n) m2 he (c2.2.2 h1),c2.1];by_cases hg:gdB e gd=true
 ·rw[if_pos hg];left;refine Qaed m3 hs he hg (EOp.congr c1 (h2 hg)) Q next (fun x u w' H' g' hk hst hrep=>?_) hpan;rw[hd1];exact hnext x u w' H' g' hk hst hrep
 ·rw[if_neg hg];rw[hd1];exact hnext .unk undef w H g (h3 (by simpa using hg)) (.refl hs) (.unk _)
structure Early (g0:G)(H:Heap)(g:G)(w:World)(a:Act)(x:Item):Prop where
 ok:∃(d:Nat) (cells:List C) (l b sz:Nat) (T:TypeId) (cs:Array Value),x=.e (some d) none (.alloc cells)∧g.io l=some (b,sz,0)∧g.own b=some (l,[])∧w.heap[b]? = some (.cells cs T (0,0))∧
  cs.size=cells.length∧(∀(k:Nat) (c:C) (v:Value),cells[k]? = some c→cs[k]? = some v→RepC w g c v)∧H l=.none∧g0.io l=none∧RepV w g (.c (.ptr l 0)) (a.tmps.getD d undef)
theorem Early.mono {g0:G}{x:Item}{H':Heap}{g':G}{w':World}{a':Act}(h:Early g0 H g w a x)(hs:Stp H g w H' g' w')(ha:∀d,x.dst=some d→a'.tmps.getD d undef=a.tmps.getD d undef):Early g0 H' g' w' a' x:=by
 obtain⟨d,cells,l,b,sz,T,cs,h1,h2,h3,h4,h5,h6,h7,h8,h9⟩:=h.ok;obtain⟨k1,k2⟩:=hs.fr l (by rw[h2];simp) h7;obtain⟨k3,k4⟩:=k2 b [] h3;refine⟨d,cells,l,b,sz,T,cs,h1,hs.le.io _ _ h2,k3,k4.trans h4,h5,fun k c v p q=>(h6 k c v p q).mono hs.le,k1,h8,?_⟩;rw[ha d (by rw[h1];rfl)];exact h9.mono hs.le
theorem Qbd1 {n:Nat}{ops:Array Oper}{i:Nat}{o:Oper}{x:Item}{g0:G}{Q:Exit→Act→World→Prop}{next:Act→World→Prop}(hoi:ops[i]? = some o)(hm:Qlf P n ops o x=true)(hf:x.isFa=true)
  (hs:Sat H g w) (h0:∀l y,g0.io l=some y→g.io l=some y) (hn:a.tmps.size=n)
  (hnext:∀u w' g',Stp H g w H g' w'→Early g0 H g' w' (a.put x.dst u) x→next (a.put x.dst u) w') :
  wpOp P ops Q i next a w:=by
 cases x with
 |e d gd op=>
  cases op with
  |alloc cells=>
   cases d with
   |none=>simp[Item.isFa]at hf
   |some d=>
    cases gd with
    |some=>simp[Item.isFa]at hf
    |none=>
     simp only[Qlf,Jl]at hm;obtain⟨⟨m1,m2⟩,m3⟩:=hm;obtain⟨hd1,hd2⟩:=Qdt m1;have hdn:=hd2 d hd1;simp only[mE]at m3;split at m3
     ·rename_i t hop
      obtain⟨i1,z,z1,z2,z3⟩:=Qmd m3;obtain⟨l,hl,hH⟩:=hs.newName;have hr:=Qnp (w:=w) (g:=g) z3;have hle:=Qg0 hs hl cells.length 0 (.cells z.cells t);have hst:=Qcu hs hl cells.length 0 (.cells z.cells t) .none (fun g' hg=>trivial);rw[Heap.set_self _ _ _ hH]at hst;have hg0:g0.io l=none:=by
       cases hx:g0.io l with
       |none=>rfl
       |some y=>rw[h0 l y hx]at hl;simp at hl
      have hw:Region.wanted o (yielded ops a.tmps)=true:=by
       unfold Region.wanted
       cases hgd:o.guard with
       |none=>rfl
       |some jb=>rw[hgd]at m2;simp[mG]at m2
      unfold wpOp;rw[hoi];simp only;rw[if_pos hw];left;unfold Oper.wp;have hrun:(execOp a.eval o).run P w=.ok (.value (.pointer (some ⟨w.heap.size,0,none⟩))) (w.alloc (.cells z.cells t)):=by
       simp[execOp,hop,Instr.alloc,Qpb z1 z2,newVar,newRow]
      rw[hrun,Oper.upon_value,hd1];refine hnext _ _ _ hst ⟨d,cells,l,w.heap.size,cells.length,t,z.cells,rfl,by simp[G.newObj],by simp[G.newObj],Qcb _ _,hr.1,fun k c v p q=>(hr.2 k c v p q).mono hle,hH,hg0,?_⟩;have:(a.put (Item.e (some d) none (.alloc cells)).dst (.pointer (some ⟨w.heap.size,0,none⟩))).tmps.getD d undef=.pointer (some ⟨w.heap.size,0,none⟩):=by
       simp only[Item.dst,Act.put];rw[Jf,J1 (by omega)];rfl
      rw[this];exact .c _ _ (.ptr l 0 w.heap.size cells.length 0 (by simp[G.newObj]))
     ·simp at m3
  |_=>cases d <;> (try cases gd) <;> simp[Item.isFa]at hf
 |_=>simp[Item.isFa]at hf
theorem Qbh1 {H0:Heap}{g0:G}{w0:World}{x:Item}(hst:Stp H0 g0 w0 H g w)(h:Early g0 H g w a x) :
  ∃d cells l,x=.e (some d) none (.alloc cells)∧H l=.none∧Stp H0 g0 w0 (H.set l (.st cells)) g w∧RepV w g (.c (.ptr l 0)) (a.tmps.getD d undef):=by
 obtain⟨d,cells,l,b,sz,T,cs,h1,h2,h3,h4,h5,h6,h7,h8,h9⟩:=h.ok;refine⟨d,cells,l,h1,h7,⟨hst.le,fun m hm hn=>?_,⟨hst.sat.fresh,hst.sat.names,hst.sat.excl,hst.sat.named,fun m=>?_⟩⟩,h9⟩
 ·have hml:m≠l:=fun h=>by subst h;exact hm h8
  rw[Heap.set_other _ _ hml];exact hst.fr m hm hn
 ·by_cases hml:m=l
  ·subst hml;rw[Heap.set_same];exact⟨b,sz,T,cs,h2,h3,h4,h5,fun k c v p q=>.plain _ _ _ _ (h6 k c v p q)⟩
  ·have hH':=Heap.set_other H (.st cells) hml;rw[hH',←hH'];refine SatObj.keep hst.sat (.refl _ _) (fun b q hb=>⟨hb,rfl⟩) hH' fun m' v left cur hc v' es hv=>?_;by_cases hm':m'=l
   ·subst hm';rw[Heap.set_same]at hv;simp at hv
   ·rw[Heap.set_other _ _ hm']at hv;exact .inl ⟨hv,fun b q hb=>⟨hb,rfl⟩⟩
structure Fix where
 P:Program
 n:Nat
 ops:Array Oper
 ms:List Nat
 fa:Nat
 L:List Row
 H0:Heap
 g0:G
 w0:World
 KP:Value→Heap→Prop
 K:Env→Heap→Prop
def Fix.anc (F:Fix)(i j:Nat):Prop:=(F.ms.getD i 0).testBit j=true
def Qhl (F:Fix)(listed:Array Bool)(pre:List Row)(y:Row)(t:Nat)(z:Row):Prop:=
 z∈pre∧z.2.isChk=false∧¬dn listed z.1∧z.2.dst=some t∧F.anc y.1 z.1
def Pend (F:Fix)(listed:Array Bool)(a:Act)(w:World)(pre:List Row)(e:Env)(H:Heap)(g:G)(y:Row):Prop:=
 ∃(o:Oper) (x:Item) (ei:Env) (v:V),F.ops[y.1]? = some o∧Qlf F.P F.n F.ops o x=true∧x.dst=y.2.dst∧x.looks=y.2.looks∧(y.2.hf=true→x.hf=true)∧
  Rdy F.P x ei H v∧(∀d,y.2.dst=some d→lk d e=v)∧
  ∀t∈y.2.looks,(∀z,Qhl F listed pre y t z→lk t ei=lk t e)∧((¬∃z,Qhl F listed pre y t z)→RepV w g (lk t ei) (a.tmps.getD t undef))
structure DInv (F:Fix)(listed:Array Bool)(a:Act)(w:World)(pre post:List Row)(e:Env)(H:Heap)(g:G):Prop where
 split:F.L=pre++post
 rest:Qq4 F.P (post.map Prod.snd) e H F.KP F.K
 stp:Stp F.H0 F.g0 F.w0 H g w
 size:a.tmps.size=F.n
 defers:a.defers=[]
 lsz:listed.size=F.ops.size
 closed:∀i,dn listed i→∀j,F.anc i j→dn listed j
 eDone:∀y∈pre,y.2.isE=true→dn listed y.1
 postDone:∀y∈post,y.2.isChk=false→dn listed y.1→y.1=F.fa∧Early F.g0 H g w a y.2
 pend:∀y∈pre,y.2.isFl=true→¬dn listed y.1→Qasf y.1 post=true∨Pend F listed a w pre e H g y
 temps:∀t,(∃y∈pre,y.2.isChk=false∧¬dn listed y.1∧y.2.dst=some t)∨(∃y∈post,y.2.isChk=false∧y.1=F.fa∧dn listed F.fa∧y.2.dst=some t)∨RepV w g (lk t e) (a.tmps.getD t undef)
structure FixOk (F:Fix):Prop where
 rows:Qayl F.P F.n F.ops F.ms F.fa [] F.L=true
 all:∀i,i<F.ops.size→∃y∈F.L,y.2.isChk=false∧y.1=i
theorem FixOk.row {F:Fix}(hF:FixOk F){A B:List Row}{y:Row}(h:F.L=A++y::B)(hc:y.2.isChk=false):∃o,RowOk F.P F.n F.ops F.ms F.fa A y B o:=by
 have:=Q1g _ _ hF.rows A y B h;exact Qbe2 this hc
def Qad4 (F:Fix)(x y:Row):Prop:=∃A B,F.L=A++y::B∧x∈A
theorem FixOk.pair {F:Fix}(hF:FixOk F){x y:Row}(h:Qad4 F x y)(hx:x.2.isChk=false)(hy:y.2.isChk=false):PairOk F.ms F.fa x y:=by
 obtain⟨A,B,h1,h2⟩:=h;obtain⟨o,ho⟩:=hF.row h1 hy;exact ho.pair x h2 hx
theorem Qcc {F:Fix}{pre post:List Row}(h:F.L=pre++post){x y:Row}(hx:x∈pre)(hy:y∈post):Qad4 F x y:=by
 obtain⟨s,t,rfl⟩:=Jz hy;exact⟨pre++s,t,by rw[h];simp,by simp[hx]⟩
theorem Qeb {F:Fix}{pre post:List Row}{y x:Row}(h:F.L=pre++y::post)(hx:x∈post):Qad4 F y x:=
 Qcc (pre:=pre++[y]) (by simpa using h) (by simp) hx
theorem Qaqz {F:Fix}{x y:Row}(hx:x∈F.L)(hy:y∈F.L):x=y∨Qad4 F x y∨Qad4 F y x:=by
 obtain⟨s,t,h⟩:=Jz hx;have:y∈s++x::t:=h▸hy;rcases Jb.1 this with k|k
 ·exact .inr (.inr ⟨s,t,h,k⟩)
 ·rcases Jg.1 k with k|k
  ·exact .inl k.symm
  ·exact .inr (.inl (Qeb h k))
theorem FixOk.inj {F:Fix}(hF:FixOk F){x y:Row}(hx:x∈F.L)(hy:y∈F.L)(hxc:x.2.isChk=false)(hyc:y.2.isChk=false)(h:x.1=y.1):x=y:=by
 rcases Qaqz hx hy with k|k|k
 ·exact k
 ·exact absurd h (hF.pair k hxc hyc).ne
 ·exact absurd h.symm (hF.pair k hyc hxc).ne
theorem Qkg {x:Item}(h:x.isFl=true):x.isChk=false∧x.isE=false:=by
 cases x <;> simp_all[Item.isFl,Item.isChk,Item.isE]
theorem Qaw8 {x:Item}(h:x.isE=true):x.isChk=false∧x.isFl=false:=by
 cases x <;> simp_all[Item.isFl,Item.isChk,Item.isE]
theorem Qma {j:Nat}{y:Row}{r:List Row}(h:Qasf j (y::r)=true):y.2.isChk=true∧(y.1=j∨Qasf j r=true):=by
 simpa[Qasf]using h
theorem DInv.passFl {F:Fix}(hF:FixOk F){listed:Array Bool}{pre r:List Row}{y:Row}(hI:DInv F listed a w pre (y::r) e H g)(hy:y.2.isFl=true)(v:V)(hr:Rdy F.P y.2 e H v)
  (hrest:Qq4 F.P (r.map Prod.snd) (putE y.2.dst v e) H F.KP F.K) (hnd:¬dn listed y.1):DInv F listed a w (pre++[y]) r (putE y.2.dst v e) H g:=by
 obtain⟨hyc,hye⟩:=Qkg hy;obtain⟨o,ho⟩:=hF.row hI.split hyc;have hL:y∈F.L:=by rw[hI.split];simp
 have hpre:∀z∈pre,z∈F.L:=fun z hz=>by rw[hI.split];simp[hz]
 have hpost:∀z∈r,z∈F.L:=fun z hz=>by rw[hI.split];simp[hz]
 have hlk:∀t,y.2.dst≠some t→lk t (putE y.2.dst v e)=lk t e:=by
  intro t ht
  cases hd:y.2.dst with
  |none=>rfl
  |some d=>
   simp only[putE,lk];rw[if_neg];intro h;subst h;exact ht hd
 have hlkd:∀t,y.2.dst=some t→lk t (putE y.2.dst v e)=v:=by
  intro t ht;rw[ht];simp[putE,lk]
 refine⟨by rw[hI.split];simp,hrest,hI.stp,hI.size,hI.defers,hI.lsz,hI.closed,?_,?_,?_,?_⟩
 ·intro z hz hzE;rcases Jb.1 hz with k|k
  ·exact hI.eDone z k hzE
  ·simp at k;subst k;rw[hye]at hzE;simp at hzE
 ·exact fun z hz=>hI.postDone z (by simp[hz])
 ·intro z hz hzf hzn;obtain⟨hzc,hze⟩:=Qkg hzf;right;rcases Jb.1 hz with k|k
  ·rcases hI.pend z k hzf hzn with h|h
   ·have:=(Qma h).1;rw[hyc]at this;simp at this
   ·obtain⟨o',x,ei,u,p1,p2,p3,p4,p5,p6,p7,p8⟩:=h;refine⟨o',x,ei,u,p1,p2,p3,p4,p5,p6,?_,?_⟩
    ·intro d hd;rw[hlk d fun h=>(hF.pair (Qcc hI.split k (by simp)) hzc hyc).dst d hd h];exact p7 d hd
    ·intro t ht;obtain⟨q1,q2⟩:=p8 t ht;have hb:∀z',Qhl F listed (pre++[y]) z t z'→Qhl F listed pre z t z':=by
      rintro z' ⟨b1,b2,b3,b4,b5⟩;refine⟨?_,b2,b3,b4,b5⟩;rcases Jb.1 b1 with b|b
      ·exact b
      ·simp at b;subst b;have:=(hF.pair (Qcc hI.split k (by simp)) hzc hyc).top;rw[Fix.anc,this]at b5;simp at b5
     refine⟨?_,?_⟩
     ·intro z' hz';have hz'':=hb z' hz';rw[q1 z' hz'',hlk];intro h;exact (hF.pair (Qcc hI.split hz''.1 (by simp)) hz''.2.1 hyc).dst t hz''.2.2.2.1 h
     ·intro hno;refine q2 fun ⟨z',b1,b2⟩=>hno ⟨z',?_,b2⟩;simp[b1]
  ·simp at k;subst k;refine⟨o,z.2,e,v,ho.op,ho.item,rfl,rfl,id,hr,hlkd,?_⟩;intro t ht;have hself:z.2.dst≠some t:=fun h=>ho.self t h ht;refine⟨?_,?_⟩
   ·intro z' hz';rw[hlk t hself]
   ·intro hno;rcases hI.temps t with ⟨y',k1,k2,k3,k4⟩|⟨y',k1,k2,k3,k4,k5⟩|k
    ·exact absurd ⟨y',by simp[k1],k2,k3,k4,(hF.pair (Qcc hI.split k1 (by simp)) k2 hzc).raw t k4 ht⟩ hno
    ·exfalso;rcases Jg.1 k1 with h|h
     ·subst h;exact hself k5
     ·have:=(hF.pair (Qeb hI.split h) hzc k2).war t k5 ht;rw[k3]at this;exact hnd (hI.closed _ k4 _ this)
    ·exact k
 ·intro t;by_cases ht:y.2.dst=some t
  ·exact .inl ⟨y,by simp,hyc,hnd,ht⟩
  ·rw[hlk t ht];rcases hI.temps t with ⟨y',k1,k2,k3,k4⟩|⟨y',k1,k2,k3,k4,k5⟩|k
   ·exact .inl ⟨y',by simp[k1],k2,k3,k4⟩
   ·rcases Jg.1 k1 with h|h
    ·subst h;exact absurd k5 ht
    ·exact .inr (.inl ⟨y',h,k2,k3,k4,k5⟩)
   ·exact .inr (.inr k)
theorem DInv.passChk {F:Fix}(hF:FixOk F){listed:Array Bool}{pre r:List Row}{j d:Nat}{gd:Option (Nat×Bool)}{op:FOp}(hI:DInv F listed a w pre ((j,.chk d gd op)::r) e H g) :
  DInv F listed a w (pre++[(j,.chk d gd op)]) r e H g:=by
 have hrow:=Q1g _ _ hF.rows pre _ _ hI.split;obtain⟨o,c1,c2,⟨y0,c3,c4,c5,c6,c7,c8⟩,c9⟩:=Qbdv hrow;have hrest:=hI.rest;simp only[Jq,Qq4]at hrest;obtain⟨⟨r1,r2,r3⟩,r4⟩:=hrest;have hpre:∀z∈pre,z∈F.L:=fun z hz=>by rw[hI.split];simp[hz]
 have hbe:∀z t z',Qhl F listed (pre++[(j,.chk d gd op)]) z t z'↔Qhl F listed pre z t z':=by
  intro z t z';constructor
  ·rintro⟨b1,b2⟩;refine⟨?_,b2⟩;rcases Jb.1 b1 with b|b
   ·exact b
   ·simp at b;subst b;simp[Item.isChk]at b2
  ·rintro⟨b1,b2⟩;exact⟨by simp[b1],b2⟩
 refine⟨by rw[hI.split];simp,r4,hI.stp,hI.size,hI.defers,hI.lsz,hI.closed,?_,?_,?_,?_⟩
 ·intro z hz hzE;rcases Jb.1 hz with k|k
  ·exact hI.eDone z k hzE
  ·simp at k;subst k;simp[Item.isE]at hzE
 ·exact fun z hz=>hI.postDone z (by simp[hz])
 ·intro z hz hzf hzn;obtain⟨hzc,hze⟩:=Qkg hzf;have k:z∈pre:=by
   rcases Jb.1 hz with k|k
   ·exact k
   ·simp at k;subst k;simp[Item.isChk]at hzc
  have hold:Pend F listed a w pre e H g z→Pend F listed a w (pre++[(j,.chk d gd op)]) e H g z:=by
   rintro⟨o',x,ei,u,p1,p2,p3,p4,p5,p6,p7,p8⟩;refine⟨o',x,ei,u,p1,p2,p3,p4,p5,p6,p7,fun t ht=>?_⟩;simp only[hbe];exact p8 t ht
  rcases hI.pend z k hzf hzn with h|h
  ·rcases (Qma h).2 with h'|h'
   ·right;simp only at h';have hz0:z=y0:=hF.inj (hpre _ k) (hpre _ c3) hzc c4 (by rw[c5,←h']);subst hz0;refine⟨o,.f (some d) gd op,e,gdV gd (gdB e gd) (op.val e H),by rw[c5];exact c1,c2,by rw[c7];rfl,c6.symm,fun h=>by rw[c8]at h;simp at h,⟨r1,r2,rfl⟩,?_,?_⟩
    ·intro d' hd';rw[c7]at hd';simp at hd';subst hd';exact r3
    ·intro t ht;simp only[hbe];refine⟨fun _ _=>trivial,fun hno=>?_⟩;rcases hI.temps t with ⟨y',k1,k2,k3,k4⟩|⟨y',k1,k2,k3,k4,k5⟩|k'
     ·exfalso;refine hno ⟨y',k1,k2,k3,k4,?_⟩;have:=c9 y' k1 k2 t k4 (by rw[←c6];exact ht);rw[Fix.anc,c5];exact this
     ·exfalso;rcases Jg.1 k1 with h|h
      ·subst h;simp[Item.isChk]at k2
      ·have:=(hF.pair (Qcc (pre:=pre++[(j,.chk d gd op)]) (by rw[hI.split];simp) (by simp[k]) h) hzc k2).war t k5 ht;rw[k3]at this;exact hzn (hI.closed _ k4 _ this)
     ·exact k'
   ·exact .inl h'
  ·exact .inr (hold h)
 ·intro t;rcases hI.temps t with ⟨y',k1,k2,k3,k4⟩|⟨y',k1,k2,k3,k4,k5⟩|k
  ·exact .inl ⟨y',by simp[k1],k2,k3,k4⟩
  ·rcases Jg.1 k1 with h|h
   ·subst h;simp[Item.isChk]at k2
   ·exact .inr (.inl ⟨y',h,k2,k3,k4,k5⟩)
  ·exact .inr (.inr k)
theorem Qim {d:Option Nat}{v:V}{e:Env}{t:Nat}(h:d≠some t):lk t (putE d v e)=lk t e:=by
 cases d with
 |none=>rfl
 |some s=>
  simp only[putE,lk];rw[if_neg];intro k;subst k;exact h rfl
theorem Qara {d:Option Nat}{v:V}{e:Env}{t:Nat}(h:d=some t):lk t (putE d v e)=v:=by
 subst h;simp[putE,lk]
theorem Q78 {a:Act}{d:Option Nat}{u:Value}{t:Nat}(h:d≠some t):(a.put d u).tmps.getD t undef=a.tmps.getD t undef:=by
 cases d with
 |none=>rfl
 |some s=>
  have:s≠t:=fun k=>by subst k;exact h rfl
  simp only[Act.put];rw[Jf,Array.getElem?_setIfInBounds_ne this,←Jf]
theorem Qbkk {a:Act}{d:Option Nat}{u:Value}{t:Nat}(h:d=some t)(ht:t<a.tmps.size):(a.put d u).tmps.getD t undef=u:=by
 subst h;simp only[Act.put];rw[Jf,J1 ht];rfl
theorem Qcn {listed:Array Bool}{i j:Nat}(hi:i<listed.size):dn (listed.setIfInBounds i true) j↔j=i∨dn listed j:=by
 by_cases h:j=i
 ·subst h;simp[dn,hi]
 ·simp only[dn,getD_set_ne false (Ne.symm h),h,false_or]
theorem Qae4 {n:Nat}{ops:Array Oper}{o:Oper}{x:Item}(h:Qlf P n ops o x=true):∀t,x.dst=some t→t<n:=by
 intro t ht;cases x <;> simp only[Qlf,Jl]at h
 case f d gd op=>obtain⟨h1,h2⟩:=Qdt h.1.1;simp only[Item.dst]at ht;exact h2 t (h1.trans ht)
 case p d gd f xs=>obtain⟨h1,h2⟩:=Qdt h.1.1;simp only[Item.dst]at ht;exact h2 t (h1.trans ht)
 case e d gd op=>obtain⟨h1,h2⟩:=Qdt h.1.1;simp only[Item.dst]at ht;exact h2 t (h1.trans ht)
 case chk=>simp at h
theorem DInv.passE {F:Fix}(hF:FixOk F){listed:Array Bool}{pre r:List Row}{y:Row}(hI:DInv F listed a w pre (y::r) e H g)(hy:y.2.isE=true)(hyn:¬dn listed y.1)(hyf:y.1≠F.fa)
  (hanc:∀j,F.anc y.1 j→dn listed j) {v:V} {u:Value} {w':World} {H':Heap} {g':G}
  (hrest:Qq4 F.P (r.map Prod.snd) (putE y.2.dst v e) H' F.KP F.K) (hst:Stp H g w H' g' w') (hv:RepV w' g' v u) :
  DInv F (listed.setIfInBounds y.1 true) (a.put y.2.dst u) w' (pre++[y]) r (putE y.2.dst v e) H' g':=by
 obtain⟨hyc,hyl⟩:=Qaw8 hy;obtain⟨o,ho⟩:=hF.row hI.split hyc;have hlt:y.1<listed.size:=by rw[hI.lsz];exact (Jn.1 ho.op).1
 have hpre:∀z∈pre,z∈F.L:=fun z hz=>by rw[hI.split];simp[hz]
 have hbz:∀z∈pre,Qad4 F z y:=fun z hz=>Qcc hI.split hz (by simp);refine⟨by rw[hI.split];simp,hrest,hI.stp.trans hst,by rw[(Qby _ _ _).1];exact hI.size,by rw[(Qby _ _ _).2];exact hI.defers,by simp[hI.lsz],?_,?_,?_,?_,?_⟩
 ·intro i hi j hj;rw[Qcn hlt]at hi⊢;rcases hi with rfl|hi
  ·exact .inr (hanc j hj)
  ·exact .inr (hI.closed i hi j hj)
 ·intro z hz hzE;rw[Qcn hlt];rcases Jb.1 hz with k|k
  ·exact .inr (hI.eDone z k hzE)
  ·simp at k;subst k;exact .inl rfl
 ·intro z hz hzc hzd;have hzy:=hF.pair (Qeb hI.split hz) hyc hzc;rw[Qcn hlt]at hzd;obtain⟨k1,k2⟩:=hI.postDone z (by simp[hz]) hzc (hzd.resolve_left (Ne.symm hzy.ne));exact⟨k1,k2.mono hst fun d hd=>Q78 fun h=>hzy.dst d h hd⟩
 ·intro z hz hzf hzn;obtain⟨hzc,hze⟩:=Qkg hzf;rw[Qcn hlt]at hzn;have hzn':¬dn listed z.1:=fun h=>hzn (.inr h);have k:z∈pre:=by
   rcases Jb.1 hz with k|k
   ·exact k
   ·simp at k;subst k;rw[hyl]at hzf;simp at hzf
  have hp:=hF.pair (hbz z k) hzc hyc;by_cases hh:z.2.hf=true
  ·right;rcases hI.pend z k hzf hzn' with h|h
   ·have:=(Qma h).1;rw[hyc]at this;simp at this
   ·obtain⟨o',x,ei,u',p1,p2,p3,p4,p5,p6,p7,p8⟩:=h;refine⟨o',x,ei,u',p1,p2,p3,p4,p5,p6.hcongr (p5 hh),?_,?_⟩
    ·intro d hd;rw[Qim fun h=>hp.dst d hd h];exact p7 d hd
    ·intro t ht;obtain⟨q1,q2⟩:=p8 t ht;have hyt:y.2.dst≠some t:=fun h=>by
      have:=hp.war t h ht;exact hzn' (hanc _ this)
     have hb:∀z',Qhl F (listed.setIfInBounds y.1 true) (pre++[y]) z t z'↔Qhl F listed pre z t z':=by
      intro z';constructor
      ·rintro⟨b1,b2,b3,b4,b5⟩;rw[Qcn hlt]at b3;refine⟨?_,b2,fun h=>b3 (.inr h),b4,b5⟩;rcases Jb.1 b1 with b|b
       ·exact b
       ·simp at b;subst b;exact absurd b4 hyt
      ·rintro⟨b1,b2,b3,b4,b5⟩;refine⟨by simp[b1],b2,?_,b4,b5⟩;rw[Qcn hlt];rintro (h|h)
       ·exact (hF.pair (hbz z' b1) b2 hyc).ne h
       ·exact b3 h
     simp only[hb,Qim hyt,Q78 hyt];exact⟨q1,fun h=>(q2 h).mono hst.le⟩
  ·left;have:=ho.cover hy z k hzc (by simpa using hh);refine this ?_
   cases hx:(F.ms.getD y.1 0).testBit z.1 with
   |false=>rfl
   |true=>exact absurd (hanc _ hx) hzn'
 ·intro t;by_cases ht:y.2.dst=some t
  ·right;right;rw[Qara ht,Qbkk ht (by rw[hI.size];exact Qae4 ho.item t ht)];exact hv
  ·rw[Qim ht,Q78 ht];rcases hI.temps t with ⟨y',k1,k2,k3,k4⟩|⟨y',k1,k2,k3,k4,k5⟩|k
   ·refine .inl ⟨y',by simp[k1],k2,?_,k4⟩;rw[Qcn hlt];rintro (h|h)
    ·exact (hF.pair (hbz y' k1) k2 hyc).ne h
    ·exact k3 h
   ·rcases Jg.1 k1 with h|h
    ·subst h;exact absurd k3 hyf
    ·exact .inr (.inl ⟨y',h,k2,k3,(Qcn hlt).2 (.inr k4),k5⟩)
   ·exact .inr (.inr (k.mono hst.le))
theorem DInv.passFa {F:Fix}(hF:FixOk F){listed:Array Bool}{pre r:List Row}{y:Row}(hI:DInv F listed a w pre (y::r) e H g)(hyc:y.2.isChk=false)(hyn:dn listed y.1) :
  ∃e' H',DInv F listed a w (pre++[y]) r e' H' g:=by
 obtain⟨hyf,hea⟩:=hI.postDone y (by simp) hyc hyn;obtain⟨d,cells,l,h1,h2,h3,h4⟩:=Qbh1 hI.stp hea;obtain⟨o,ho⟩:=hF.row hI.split hyc;have hy:y.2.isE=true:=by rw[h1];rfl
 have hyl:=(Qaw8 hy).2;have hyd:y.2.dst=some d:=by rw[h1];rfl
 have hbz:∀z∈pre,Qad4 F z y:=fun z hz=>Qcc hI.split hz (by simp);have hrest:=hI.rest;simp only[Jq,h1,Qq4,gdO,gdB,true_and,EOp.eff]at hrest;have hrest':=hrest.1 trivial l h2;refine⟨putE (some d) (.c (.ptr l 0)) e,H.set l (.st cells),?_⟩;refine⟨by rw[hI.split];simp,hrest',h3,hI.size,hI.defers,hI.lsz,hI.closed,?_,?_,?_,?_⟩
 ·intro z hz hzE;rcases Jb.1 hz with k|k
  ·exact hI.eDone z k hzE
  ·simp at k;subst k;exact hyn
 ·intro z hz hzc hzd;obtain⟨k1,k2⟩:=hI.postDone z (by simp[hz]) hzc hzd;exact absurd (hyf.trans k1.symm) (hF.pair (Qeb hI.split hz) hyc hzc).ne
 ·intro z hz hzf hzn;obtain⟨hzc,hze⟩:=Qkg hzf;have k:z∈pre:=by
   rcases Jb.1 hz with k|k
   ·exact k
   ·simp at k;subst k;rw[hyl]at hzf;simp at hzf
  have hp:=hF.pair (hbz z k) hzc hyc;by_cases hh:z.2.hf=true
  ·right;rcases hI.pend z k hzf hzn with h|h
   ·have:=(Qma h).1;rw[hyc]at this;simp at this
   ·obtain⟨o',x,ei,u',p1,p2,p3,p4,p5,p6,p7,p8⟩:=h;refine⟨o',x,ei,u',p1,p2,p3,p4,p5,p6.hcongr (p5 hh),?_,?_⟩
    ·intro d' hd';rw[Qim fun h=>hp.dst d' hd' (by rw[hyd];exact h)];exact p7 d' hd'
    ·intro t ht;obtain⟨q1,q2⟩:=p8 t ht;have hyt:some d≠some t:=fun h=>by
      have:=hp.war t (by rw[hyd];exact h) ht;exact hzn (hI.closed _ hyn _ this)
     have hb:∀z',Qhl F listed (pre++[y]) z t z'↔Qhl F listed pre z t z':=by
      intro z';constructor
      ·rintro⟨b1,b2,b3,b4,b5⟩;refine⟨?_,b2,b3,b4,b5⟩;rcases Jb.1 b1 with b|b
       ·exact b
       ·simp at b;subst b;rw[hyd]at b4;exact absurd b4 hyt
      ·rintro⟨b1,b2⟩;exact⟨by simp[b1],b2⟩
     simp only[hb,Qim hyt];exact⟨q1,q2⟩
  ·left;refine ho.cover hy z k hzc (by simpa using hh) ?_
   cases hx:(F.ms.getD y.1 0).testBit z.1 with
   |false=>rfl
   |true=>exact absurd (hI.closed _ hyn _ hx) hzn
 ·intro t;by_cases ht:some d=some t
  ·right;right;rw[Qara ht];simp at ht;subst ht;exact h4
  ·rw[Qim ht];rcases hI.temps t with ⟨y',k1,k2,k3,k4⟩|⟨y',k1,k2,k3,k4,k5⟩|k
   ·exact .inl ⟨y',by simp[k1],k2,k3,k4⟩
   ·rcases Jg.1 k1 with h|h
    ·subst h;rw[hyd]at k5;exact absurd k5 ht
    ·exact .inr (.inl ⟨y',h,k2,k3,k4,k5⟩)
   ·exact .inr (.inr k)
theorem DInv.doneFl {F:Fix}(hF:FixOk F){listed:Array Bool}{pre post:List Row}{y:Row}(hI:DInv F listed a w pre post e H g)(hyp:y∈pre)(hy:y.2.isFl=true)(hyn:¬dn listed y.1)
  (hanc:∀j,F.anc y.1 j→dn listed j) {v:V} {u:Value} {w':World} {g':G} (hvd:∀d,y.2.dst=some d→lk d e=v)
  (hst:Stp H g w H g' w') (hv:RepV w' g' v u) :
  DInv F (listed.setIfInBounds y.1 true) (a.put y.2.dst u) w' pre post e H g':=by
 obtain⟨hyc,hye⟩:=Qkg hy;have hyL:y∈F.L:=by rw[hI.split];simp[hyp]
 obtain⟨A,B,hAB⟩:=Jz hyL;obtain⟨o,ho⟩:=hF.row hAB hyc;have hlt:y.1<listed.size:=by rw[hI.lsz];exact (Jn.1 ho.op).1
 have hpre:∀z∈pre,z∈F.L:=fun z hz=>by rw[hI.split];simp[hz]
 refine⟨hI.split,hI.rest,hI.stp.trans hst,by rw[(Qby _ _ _).1];exact hI.size,by rw[(Qby _ _ _).2];exact hI.defers,by simp[hI.lsz],?_,?_,?_,?_,?_⟩
 ·intro i hi j hj;rw[Qcn hlt]at hi⊢;rcases hi with rfl|hi
  ·exact .inr (hanc j hj)
  ·exact .inr (hI.closed i hi j hj)
 ·intro z hz hzE;rw[Qcn hlt];exact .inr (hI.eDone z hz hzE)
 ·intro z hz hzc hzd;have hzy:=hF.pair (Qcc hI.split hyp hz) hyc hzc;rw[Qcn hlt]at hzd;obtain⟨k1,k2⟩:=hI.postDone z hz hzc (hzd.resolve_left (Ne.symm hzy.ne));exact⟨k1,k2.mono hst fun d hd=>Q78 fun h=>hzy.dst d h hd⟩
 ·intro z hz hzf hzn;obtain⟨hzc,hze⟩:=Qkg hzf;rw[Qcn hlt]at hzn;have hzn':¬dn listed z.1:=fun h=>hzn (.inr h);have hzy:z≠y:=fun h=>hzn (.inl (by rw[h]));rcases hI.pend z hz hzf hzn' with h|h
  ·exact .inl h
  ·right;obtain⟨o',x,ei,u',p1,p2,p3,p4,p5,p6,p7,p8⟩:=h;refine⟨o',x,ei,u',p1,p2,p3,p4,p5,p6,p7,?_⟩;intro t ht;obtain⟨q1,q2⟩:=p8 t ht;have hb:∀z',Qhl F (listed.setIfInBounds y.1 true) pre z t z'→Qhl F listed pre z t z':=by
    rintro z' ⟨b1,b2,b3,b4,b5⟩;rw[Qcn hlt]at b3;exact⟨b1,b2,fun h=>b3 (.inr h),b4,b5⟩
   refine⟨fun z' hz'=>q1 z' (hb z' hz'),fun hno=>?_⟩;by_cases hyt:y.2.dst=some t
   ·have hbe:Qhl F listed pre z t y:=by
     refine⟨hyp,hyc,hyn,hyt,?_⟩;rcases Qaqz hyL (hpre z hz)with k|k|k
     ·exact absurd k.symm hzy
     ·exact (hF.pair k hyc hzc).raw t hyt ht
     ·exact absurd (hanc _ ((hF.pair k hzc hyc).war t hyt ht)) hzn'
    rw[q1 y hbe,hvd t hyt,Qbkk hyt (by rw[hI.size];exact Qae4 ho.item t hyt)];exact hv
   ·rw[Q78 hyt];refine (q2 fun ⟨z',b⟩=>hno ⟨z',?_⟩).mono hst.le;obtain⟨b1,b2,b3,b4,b5⟩:=b;refine⟨b1,b2,?_,b4,b5⟩;rw[Qcn hlt];rintro (h|h)
    ·have:=hF.inj (hpre _ b1) hyL b2 hyc h;subst this;exact hyt b4
    ·exact b3 h
 ·intro t;by_cases ht:y.2.dst=some t
  ·right;right;rw[hvd t ht,Qbkk ht (by rw[hI.size];exact Qae4 ho.item t ht)];exact hv
  ·rw[Q78 ht];rcases hI.temps t with ⟨y',k1,k2,k3,k4⟩|⟨y',k1,k2,k3,k4,k5⟩|k
   ·refine .inl ⟨y',k1,k2,?_,k4⟩;rw[Qcn hlt];rintro (h|h)
    ·have:=hF.inj (hpre _ k1) hyL k2 hyc h;subst this;exact ht k4
    ·exact k3 h
   ·exact .inr (.inl ⟨y',k1,k2,k3,(Qcn hlt).2 (.inr k4),k5⟩)
   ·exact .inr (.inr (k.mono hst.le))
theorem DInv.doneFa {F:Fix}(hF:FixOk F){listed:Array Bool}{pre post:List Row}{y:Row}(hI:DInv F listed a w pre post e H g)(hyp:y∈post)(hyc:y.2.isChk=false)(hyf:y.1=F.fa)(hyn:¬dn listed y.1)
  (hanc:∀j,F.anc y.1 j→dn listed j) {u:Value} {w':World} {g':G}
  (hst:Stp H g w H g' w') (hv:Early F.g0 H g' w' (a.put y.2.dst u) y.2) :
  DInv F (listed.setIfInBounds y.1 true) (a.put y.2.dst u) w' pre post e H g':=by
 have hyL:y∈F.L:=by rw[hI.split];simp[hyp]
 obtain⟨A,B,hAB⟩:=Jz hyL;obtain⟨o,ho⟩:=hF.row hAB hyc;have hlt:y.1<listed.size:=by rw[hI.lsz];exact (Jn.1 ho.op).1
 have hpre:∀z∈pre,z∈F.L:=fun z hz=>by rw[hI.split];simp[hz]
 have hpost:∀z∈post,z∈F.L:=fun z hz=>by rw[hI.split];simp[hz]
 refine⟨hI.split,hI.rest,hI.stp.trans hst,by rw[(Qby _ _ _).1];exact hI.size,by rw[(Qby _ _ _).2];exact hI.defers,by simp[hI.lsz],?_,?_,?_,?_,?_⟩
 ·intro i hi j hj;rw[Qcn hlt]at hi⊢;rcases hi with rfl|hi
  ·exact .inr (hanc j hj)
  ·exact .inr (hI.closed i hi j hj)
 ·intro z hz hzE;rw[Qcn hlt];exact .inr (hI.eDone z hz hzE)
 ·intro z hz hzc hzd;rw[Qcn hlt]at hzd;rcases hzd with h|h
  ·have:=hF.inj (hpost _ hz) hyL hzc hyc h;subst this;exact⟨hyf,hv⟩
  ·obtain⟨k1,k2⟩:=hI.postDone z hz hzc h;have:=hF.inj (hpost _ hz) hyL hzc hyc (k1.trans hyf.symm);subst this;exact absurd h hyn
 ·intro z hz hzf hzn;obtain⟨hzc,hze⟩:=Qkg hzf;rw[Qcn hlt]at hzn;have hzn':¬dn listed z.1:=fun h=>hzn (.inr h);rcases hI.pend z hz hzf hzn' with h|h
  ·exact .inl h
  ·right;obtain⟨o',x,ei,u',p1,p2,p3,p4,p5,p6,p7,p8⟩:=h;refine⟨o',x,ei,u',p1,p2,p3,p4,p5,p6,p7,?_⟩;intro t ht;obtain⟨q1,q2⟩:=p8 t ht;have hyt:y.2.dst≠some t:=fun h=>by
    have:=(hF.pair (Qcc hI.split hz hyp) hzc hyc).war t h ht;exact hzn' (hanc _ this)
   have hb:∀z',Qhl F (listed.setIfInBounds y.1 true) pre z t z'↔Qhl F listed pre z t z':=by
    intro z';constructor
    ·rintro⟨b1,b2,b3,b4,b5⟩;rw[Qcn hlt]at b3;exact⟨b1,b2,fun h=>b3 (.inr h),b4,b5⟩
    ·rintro⟨b1,b2,b3,b4,b5⟩;refine⟨b1,b2,?_,b4,b5⟩;rw[Qcn hlt];rintro (h|h)
     ·exact (hF.pair (Qcc hI.split b1 hyp) b2 hyc).ne h
     ·exact b3 h
   simp only[hb,Q78 hyt];exact⟨q1,fun h=>(q2 h).mono hst.le⟩
 ·intro t;by_cases ht:y.2.dst=some t
  ·exact .inr (.inl ⟨y,hyp,hyc,hyf,(Qcn hlt).2 (.inl hyf.symm),ht⟩)
  ·rw[Q78 ht];rcases hI.temps t with ⟨y',k1,k2,k3,k4⟩|⟨y',k1,k2,k3,k4,k5⟩|k
   ·refine .inl ⟨y',k1,k2,?_,k4⟩;rw[Qcn hlt];rintro (h|h)
    ·exact (hF.pair (Qcc hI.split k1 hyp) k2 hyc).ne h
    ·exact k3 h
   ·exact .inr (.inl ⟨y',k1,k2,k3,(Qcn hlt).2 (.inr k4),k5⟩)
   ·exact .inr (.inr (k.mono hst.le))
def Qbsh (listed:Array Bool)(post:List Row):Prop:=post=[]∨∃y r,post=y::r∧y.2.isE=true∧¬dn listed y.1
theorem Q44 {F:Fix}(hF:FixOk F){listed:Array Bool}:∀(post pre:List Row) (e:Env) (H:Heap),DInv F listed a w pre post e H g→
  ∃pre' post' e' H',DInv F listed a w pre' post' e' H' g∧Qbsh listed post'
 |[],pre,e,H,hI=>⟨pre,[],e,H,hI,.inl rfl⟩
 |(i,x)::r,pre,e,H,hI=>by
  have hnE:x.isE=false→x.isChk=false→¬dn listed i:=by
   intro hx hc hd;obtain⟨_,hea⟩:=hI.postDone (i,x) (by simp) hc hd;obtain⟨d,cells,l,b,sz,T,cs,h1,_⟩:=hea.ok;simp only at h1;rw[h1]at hx;simp[Item.isE]at hx
  have hrest:=hI.rest
  cases x with
  |chk d gd op=>exact Q44 hF r _ e H (hI.passChk hF)
  |f d gd op=>
   simp only[Jq,Qq4]at hrest;exact Q44 hF r _ _ H (hI.passFl hF rfl _ ⟨hrest.1,hrest.2.1,rfl⟩ hrest.2.2 (hnE rfl rfl))
  |p d gd f xs=>
   simp only[Jq,Qq4]at hrest;obtain⟨r1,v,r2,r3⟩:=hrest;exact Q44 hF r _ _ H (hI.passFl hF rfl _ ⟨r1,v,r2,rfl⟩ r3 (hnE rfl rfl))
  |e d gd op=>
   by_cases hd:dn listed i
   ·obtain⟨e',H',hI'⟩:=hI.passFa hF rfl hd;exact Q44 hF r _ e' H' hI'
   ·exact⟨pre,_,e,H,hI,.inr ⟨_,r,rfl,rfl,hd⟩⟩
theorem Qawz {α:Type}{p q:α→Bool}:∀(l:List α),(∀x∈l,q x=true→p x=true)→(∃x∈l,p x=true∧q x=false)→l.countP q<l.countP p
 |[],_,h=>by simp at h
 |x::r,h1,h2=>by
  have hle:r.countP q≤r.countP p:=List.countP_mono_left fun y hy=>h1 y (by simp[hy]);obtain⟨y,hy,k1,k2⟩:=h2;rcases Jg.1 hy with rfl|hy
  ·simp only[Jas,k1,k2];simp;omega
  ·have:=Qawz r (fun y hy=>h1 y (by simp[hy])) ⟨y,hy,k1,k2⟩;have hx:=h1 x (by simp);simp only[Jas]
   cases hq:q x with
   |true=>rw[hx hq];simp;omega
   |false=>simp;split <;> omega
def unl (F:Fix)(listed:Array Bool):Nat:=(List.range F.ops.size).countP fun i=>!listed.getD i false
theorem Qbbb {F:Fix}(hF:FixOk F){listed:Array Bool}(hsz:listed.size=F.ops.size)(hr:Region.ready .any F.ops listed=[]):∀(B A:List Row),F.L=A++B→
  (∀y∈A,y.2.isChk=false→dn listed y.1)→∀y∈B,y.2.isChk=false→dn listed y.1
 |[],A,h,hA,y,hy,hc=>by simp at hy
 |x::r,A,h,hA,y,hy,hc=>by
  have hx:x.2.isChk=false→dn listed x.1:=by
   intro hxc;obtain⟨o,ho⟩:=hF.row h hxc;have hlt:x.1<listed.size:=by rw[hsz];exact (Jn.1 ho.op).1
   by_cases hd:dn listed x.1
   ·exact hd
   ·exfalso;have:x.1∈Region.ready .any F.ops listed:=by
     rw[mem_ready];refine⟨?_,o,ho.op,fun ed hed hb=>?_⟩
     ·simp only[dn]at hd;rw[Jf,Js hlt]at hd⊢;simpa using hd
     ·obtain⟨z,hz,h1,h2⟩:=ho.aft ed hed hb;rw[←h2];exact hA z hz h1
    rw[hr]at this;simp at this
  rcases Jg.1 hy with rfl|hy
  ·exact hx hc
  ·refine Qbbb hF hsz hr r (A++[x]) (by rw[h];simp) ?_ y hy hc;intro z hz hzc;rcases Jb.1 hz with k|k
   ·exact hA z k hzc
   ·simp at k;subst k;exact hx hzc
theorem Qbbj {F:Fix}(hF:FixOk F){listed:Array Bool}{pre post:List Row}(hI:DInv F listed a w pre post e H g)(hst:Qbsh listed post)(hr:Region.ready .any F.ops listed=[]) :
  Post F.n F.H0 F.g0 F.w0 F.K a w:=by
 have hall:=Qbbb hF hI.lsz hr F.L [] rfl (by simp);rcases hst with rfl|⟨y,r,rfl,hy,hd⟩
 ·refine⟨e,H,g,hI.rest,hI.stp,fun t=>?_,hI.defers,hI.size⟩;rcases hI.temps t with ⟨y',k1,k2,k3,k4⟩|⟨y',k1,_⟩|k
  ·exact absurd (hall y' (by rw[hI.split];simp[k1]) k2) k3
  ·simp at k1
  ·exact k
 ·exact absurd (hall y (by rw[hI.split];simp) (Qaw8 hy).1) hd
theorem Qbh0 {F:Fix}(hF:FixOk F){Q:Exit→Act→World→Prop}(hQ:∀a' w',Post F.n F.H0 F.g0 F.w0 F.K a' w'→Q .normal a' w')(hP:∀v a' w' H' g',F.KP v H'→Stp F.H0 F.g0 F.w0 H' g' w'→a'.defers=[]→a'.tmps.size=F.n→Q (.panic [{ v:=v,recovered:=false }]) a' w') :
  ∀(fuel:Nat) (listed:Array Bool) (a:Act) (w:World) (pre post:List Row) (e:Env) (H:Heap) (g:G),DInv F listed a w pre post e H g→Qbsh listed post→unl F listed≤fuel→
   wpAny F.P .any F.ops Q fuel listed a w:=by
 intro fuel
 induction fuel with
 |zero=>
  intro listed a w pre post e H g hI hst hu;have hr:Region.ready .any F.ops listed=[]:=by
   rw[List.eq_nil_iff_forall_not_mem];intro i hi;rw[mem_ready]at hi;obtain⟨h1,o,h2,h3⟩:=hi;have hlt:i<F.ops.size:=(Jn.1 h2).1;have:0<unl F listed:=by
    unfold unl;rw[List.countP_pos_iff];refine⟨i,by simp[hlt],?_⟩;have hlt':i<listed.size:=(by rw[hI.lsz];exact hlt);rw[Jf,Js hlt']at h1⊢;simpa using h1
   omega
  exact⟨hr,hQ _ _ (Qbbj hF hI hst hr)⟩
 |succ fuel ih=>
  intro listed a w pre post e H g hI hst hu;refine⟨fun hr=>hQ _ _ (Qbbj hF hI hst hr),?_⟩;intro i hi;rw[mem_ready]at hi;obtain⟨h1,o,h2,h3⟩:=hi;have hlt:i<F.ops.size:=(Jn.1 h2).1;have hlt':i<listed.size:=by rw[hI.lsz];exact hlt
  have hnd:¬dn listed i:=by
   simp only[dn];rw[Jf,Js hlt']at h1⊢;simpa using h1
  have hu':unl F (listed.setIfInBounds i true)≤fuel:=by
   have:unl F (listed.setIfInBounds i true)<unl F listed:=by
    refine Qawz _ ?_ ⟨i,by simp[hlt],?_,?_⟩
    ·intro j hj hq;by_cases hij:i=j
     ·subst hij;simp[hlt']at hq
     ·rw[getD_set_ne false hij]at hq;exact hq
    ·simpa[dn]using hnd
    ·simp[hlt']
   omega
  obtain⟨y,hyL,hyc,hyi⟩:=hF.all i hlt;subst hyi;obtain⟨A,B,hAB⟩:=Jz hyL;obtain⟨o',ho⟩:=hF.row hAB hyc;have hoo:o'=o:=by have:=ho.op;rw[h2]at this;simpa using this.symm
  subst hoo;have hanc:∀j,F.anc y.1 j→dn listed j:=by
   intro j hj;obtain⟨ed,k1,k2,k3⟩:=ho.anc j hj;rcases k3 with k3|k3
   ·rw[←k3];exact h3 ed k1 k2
   ·exact hI.closed _ (h3 ed k1 k2) j k3
  have hgo:∀a' w' pre' post' e' H' g',DInv F (listed.setIfInBounds y.1 true) a' w' pre' post' e' H' g'→wpAny F.P .any F.ops Q fuel (listed.setIfInBounds y.1 true) a' w':=by
   intro a' w' pre' post' e' H' g' hI';obtain⟨p2,q2,e2,H2,hI2,hs2⟩:=Q44 hF post' pre' e' H' hI';exact ih _ a' w' p2 q2 e2 H2 g' hI2 hs2 hu'
  have hmem:y∈pre∨y∈post:=by
   have:y∈pre++post:=hI.split▸hyL;exact Jb.1 this
  have hearly:y.1=F.fa→y∈post→wpOp F.P F.ops Q y.1 (wpAny F.P .any F.ops Q fuel (listed.setIfInBounds y.1 true)) a w:=by
   intro hfa hyp;refine Qbd1 h2 ho.item (ho.isFa hfa) hI.stp.sat (fun l z hz=>hI.stp.le.io l z hz) hI.size (g0:=F.g0) fun u w' g' k1 k2=>?_;exact hgo _ _ _ _ _ _ _ (hI.doneFa hF hyp hyc hfa hnd hanc k1 k2)
  rcases hmem with hyp|hyp
  ·
   have hfl:y.2.isFl=true:=by
    have hE:=hI.eDone y hyp;revert hE hyc;cases y.2 <;> simp_all[Item.isFl,Item.isChk,Item.isE]
   rcases hI.pend y hyp hfl hnd with h|h
   ·exfalso;rcases hst with rfl|⟨z,r,rfl,hz,_⟩
    ·simp[Qasf]at h
    ·have:=(Qma h).1;rw[(Qaw8 hz).1]at this;simp at this
   ·obtain⟨o2,x,ei,v,p1,p2,p3,p4,p5,p6,p7,p8⟩:=h;rw[h2]at p1;simp only[Jh]at p1;subst p1;have hno:∀t,¬∃z,Qhl F listed pre y t z:=by
     rintro t ⟨z,b1,b2,b3,b4,b5⟩;exact b3 (hanc _ b5)
    refine Qbs9 (n:=F.n) h2 p2 p6 hI.stp.sat ?_ fun u w' g' k1 k2=>?_
    ·intro t;rw[Qasv];split
     ·rename_i ht
      rw[p4]at ht;exact (p8 t ht).2 (hno t)
     ·exact .unk _
    ·rw[p3];exact hgo _ _ _ _ _ _ _ (hI.doneFl hF hyp hfl hnd hanc p7 k1 k2)
  ·by_cases hfa:y.1=F.fa
   ·exact hearly hfa hyp
   ·rcases hst with rfl|⟨z,r,rfl,hz,hzd⟩
    ·simp at hyp
    ·have hyz:y=z:=by
      rcases Jg.1 hyp with k|k
      ·exact k
      ·exfalso;have:=(hF.pair (Qeb hI.split k) (Qaw8 hz).1 hyc).ord hz hfa;exact hzd (hanc _ this)
     subst hyz;have hrest:=hI.rest;have him:=ho.item;have hpass:=@DInv.passE;obtain⟨yi,yx⟩:=y
     cases yx with
     |e d gd op=>
      simp only[Jq,Qq4]at hrest;obtain⟨r1,r2,r3⟩:=hrest;refine Qbsi (n:=F.n) h2 him hI.stp.sat ?_ r1 r2 r3 (fun x u w' H' g' k1 k2 k3=>?_) fun v w' H' g' k1 k2=>hP v a w' H' g' k1 (hI.stp.trans k2) hI.defers hI.size
      ·intro t;rw[Qasv];split
       ·rename_i ht
        rcases hI.temps t with ⟨y',b1,b2,b3,b4⟩|⟨y',b1,b2,b3,b4,b5⟩|k
        ·exfalso;exact b3 (hanc _ ((hF.pair (Qcc hI.split b1 (by simp)) b2 hyc).raw t b4 ht))
        ·exfalso;rcases Jg.1 b1 with h|h
         ·subst h;exact hnd (by rw[b3];exact b4)
         ·have:=(hF.pair (Qeb hI.split h) hyc b2).war t b5 ht;rw[b3]at this;exact hnd (hI.closed _ b4 _ this)
        ·exact k
       ·exact .unk _
      ·exact hgo _ _ _ _ _ _ _ (hI.passE hF hz hnd hfa hanc (Qa32 k1 k3) k2 k3)
     |f=>simp[Item.isE]at hz
     |p=>simp[Item.isE]at hz
     |chk=>simp[Item.isE]at hz
theorem Qa34 (hs:Sat H g w)(k:Nat):Stp H g w H g { w with drawn:=k }:=by
 have hle:Le g w g { w with drawn:=k }:=⟨fun _ h=>⟨h,rfl⟩,fun _ _ h=>h,Jau _,fun _ _ _ h=>h,rfl,rfl,rfl⟩;have hk:∀l,Q43 g w g { w with drawn:=k } l:=fun l b q hb=>⟨hb,rfl⟩;exact⟨hle,fun l _ hn=>⟨hn,fun b p hb=>⟨hb,rfl⟩⟩,hs.fresh,hs.names,hs.excl,hs.named,fun l=>SatObj.keep_all hs hle hk l⟩
theorem Qbdz {n id fa:Nat}{ord:List Nat}{ops:Array Oper}{its:List Item}{KP:Value→Heap→Prop}{K:Env→Heap→Prop}{Q:Exit→Act→World→Prop}(Qal:P.follows .mixedOrders=true)(hm:Qbt2 P n ops fa ord its=true)(hs:Sat H g w)(he:EnvOk w g e a)(hn:a.tmps.size=n)(hd:a.defers=[])
  (hr:Qq4 P its e H KP K) (hQ:∀a' w',Post n H g w K a' w'→Q .normal a' w') (hP:∀v a' w',Post n H g w (fun _ H'=>KP v H') a' w'→Q (.panic [{ v:=v,recovered:=false }]) a' w'):(Code.region id ops true).wp P Q a w:=by
 simp only[Qbt2,Jl,beq_iff_eq,Jar,List.mem_range,List.any_eq_true,Jae]at hm;obtain⟨⟨⟨m1,m2⟩,m3⟩,m4⟩:=hm;let F:Fix:={ P,n,ops,ms:=Qbua ops.toList [],fa,L:=ord.zip its,H0:=H,g0:=g,w0:=w,KP,K };have hF:FixOk F:=⟨m3,fun i hi=>m4 i hi⟩;have hmap:(ord.zip its).map Prod.snd=its:=by
  rw[List.map_snd_zip];omega
 have hst:=Qa34 hs (w.drawn+1);have hnl:∀i,¬dn (Array.replicate ops.size false) i:=by
  intro i h;simp only[dn,Jf,Array.getElem?_replicate]at h;split at h <;> simp at h
 have hI:DInv F (Array.replicate ops.size false) a { w with drawn:=w.drawn+1 } [] (ord.zip its) e H g:=by
  refine⟨rfl,by rw[hmap];exact hr,hst,hn,hd,by simp[F],fun i hi=>absurd hi (hnl i),by simp,fun y _ _ h=>absurd h (hnl _),by simp,fun t=>?_⟩;exact .inr (.inr ((he t).mono hst.le))
 obtain⟨p2,q2,e2,H2,hI2,hs2⟩:=Q44 hF _ _ _ _ hI;refine wp_region_any Qal ?_;refine Qbh0 hF hQ (fun v a' w' H' g' k1 k2 k3 k4=>hP v a' w' ⟨[],H',g',k1,k2,fun t=>.unk _,k3,k4⟩) ops.size _ a _ p2 q2 e2 H2 g hI2 hs2 ?_;exact Nat.le_trans List.countP_le_length (by simp[F])
theorem Qbhh {c:Code}{Q:Exit→Act→World→Prop}(I:Nat→Act→World→Prop)(h₀:∃n,I n a w)
  (round:∀n a w,I n a w→c.wp P (Exit.then (fun a' w'=>∃m,m<n∧I m a' w') Q) a w):(Code.loop c).wp P Q a w:=by
 intro b k cs;have key:∀n a w,I n a w→∃e a' w',Q e a' w'∧Arrives P (lone (b.at a (.code c::.inLoop c::k)) cs w) b k cs e a' w':=by
  intro n
  induction n using Nat.strongRecOn with
  |_ n ih=>
   intro a w hI;obtain⟨e,a₁,w₁,hq,harr⟩:=round n a w hI b (.inLoop c::k) cs
   cases e with
   |normal=>
    obtain⟨m,hlt,hI₁⟩:=hq;obtain⟨e₂,a₂,w₂,hq₂,harr₂⟩:=ih m hlt a₁ w₁ hI₁;exact⟨e₂,a₂,w₂,hq₂,.of_steps (Steps.trans harr (.one step_inLoop)) harr₂⟩
   |exit id=>exact⟨_,a₁,w₁,hq,.pass (x:=.inLoop c) rfl (fun _ _=>.inl (by simp)) harr⟩
   |goto l=>exact⟨_,a₁,w₁,hq,.pass (x:=.inLoop c) rfl (fun _ _=>.inl (by simp)) harr⟩
   |ret=>exact⟨_,a₁,w₁,hq,.pass (x:=.inLoop c) rfl (fun _ _=>.inl (by simp)) harr⟩
   |panic ch=>exact⟨_,a₁,w₁,hq,.pass (x:=.inLoop c) rfl (fun _ _=>.inl (by simp)) harr⟩
   |outgrown=>exact⟨_,a₁,w₁,hq,.pass (x:=.inLoop c) rfl (fun _ _=>.inl (by simp)) harr⟩
 obtain⟨n,hn⟩:=h₀;obtain⟨e,a',w',hq,harr⟩:=key n a w hn;exact⟨e,a',w',hq,.of_steps (.one step_loop) harr⟩
def xm:Exit→Option X
 |.normal=>some .nrm
 |.exit id=>some (.exit id)
 |.ret=>some .ret
 |.panic [{ v:=v,recovered:=false,goexit:=false }]=>some (.pan v)
 |_=>none
theorem Qbdh {ch:List PanicEntry}{x:X}(h:xm (.panic ch)=some x):∃v,x=.pan v∧ch=[{ v:=v,recovered:=false }]:=by
 unfold xm at h;split at h <;> simp_all
def Qbhm (n:Nat)(H:Heap)(g:G)(w:World)(Q:X→Env→Heap→Prop)(x:Exit)(a:Act)(w':World):Prop:=
 ∃x',xm x=some x'∧Post n H g w (Q x') a w'
def mC (P:Program)(n:Nat):Code→SC→Bool
 |c,.seq .gh s=>mC P n c s
 |.skip,.skip=>true
 |.region _ ops false,.reg its _=>mIts P n ops 0 its
 |.region _ ops true,.dreg fa ord its _=>Qbt2 P n ops fa ord its
 |.seq c d,.seq s t=>mC P n c s&&mC P n d t
 |.cond x c d,.cond y s t=>mO y x&&mC P n c s&&mC P n d t
 |.block i c,.block j s=>i == j&&mC P n c s
 |.loop c,.loop s=>mC P n c s
 |.exit i,.exit j=>i == j
 |.ret,.ret=>true
 |_,_=>false
theorem Qbmx {ks:List Nat}(h:EnvOk w g e a):EnvOk w g (trim ks e) a:=by
 intro t;unfold trim
 induction ks with
 |nil=>exact .unk _
 |cons k ks ih=>
  simp only[Jq,lk];split
  ·rename_i ht;subst ht;exact h t
  ·exact ih
theorem Post.trans {n:Nat}{H':Heap}{g':G}{w' w'':World}{K:Env→Heap→Prop}(h:Stp H g w H' g' w')(k:Post n H' g' w' K a w''):Post n H g w K a w'':=by
 obtain⟨e2,H2,g2,k1,k2,k3,k4,k5⟩:=k;exact⟨e2,H2,g2,k1,h.trans k2,k3,k4,k5⟩
theorem Qbdy (Qal:P.follows .mixedOrders=true){n:Nat}:∀(s:SC) (c:Code) (Q:X→Env→Heap→Prop) (e:Env) (H:Heap),mC P n c s=true→Qam P s Q e H→
  ∀(g:G) (w:World) (a:Act),Sat H g w→EnvOk w g e a→a.defers=[]→a.tmps.size=n→c.wp P (Qbhm n H g w Q) a w:=by
 intro s
 induction s with
 |skip=>
  intro c Q e H hm hc g w a hs he hd hn;cases c <;> simp[mC]at hm;exact wp_skip ⟨.nrm,rfl,e,H,g,hc,.refl hs,he,hd,hn⟩
 |reg its keep=>
  intro c Q e H hm hc g w a hs he hd hn
  cases c with
  |region id ops dr'=>
   cases dr' with
   |true=>simp[mC]at hm
   |false=>
    simp only[mC]at hm;simp only[Qam]at hc;have hQ:∀a' w',Post n H g w (fun e' H'=>Q .nrm (trim keep e') H') a' w'→Qbhm n H g w Q .normal a' w':=by
     rintro a' w' ⟨e2,H2,g2,k1,k2,k3,k4,k5⟩;exact⟨.nrm,rfl,_,H2,g2,k1,k2,Qbmx k3,k4,k5⟩
    have hP:∀v a' w',Post n H g w (fun _ H'=>X.panK Q v H') a' w'→Qbhm n H g w Q (.panic [{ v:=v,recovered:=false }]) a' w':=by
     rintro v a' w' ⟨e2,H2,g2,k1,k2,k3,k4,k5⟩;exact⟨.pan v,rfl,[],H2,g2,k1,k2,fun t=>.unk _,k4,k5⟩
    have hl:=Qbb2 its 0 hm;refine wp_region ?_;rw[List.range_eq_range',←hl,Jaq];exact Q8k hQ hP its 0 e H g w a hm (.refl hs) he hn hd hc
  |_=>simp[mC]at hm
 |dreg fa ord its keep=>
  intro c Q e H hm hc g w a hs he hd hn
  cases c with
  |region id ops dr'=>
   cases dr' with
   |false=>simp[mC]at hm
   |true=>
    simp only[mC]at hm;simp only[Qam]at hc;have hQ:∀a' w',Post n H g w (fun e' H'=>Q .nrm (trim keep e') H') a' w'→Qbhm n H g w Q .normal a' w':=by
     rintro a' w' ⟨e2,H2,g2,k1,k2,k3,k4,k5⟩;exact⟨.nrm,rfl,_,H2,g2,k1,k2,Qbmx k3,k4,k5⟩
    have hP:∀v a' w',Post n H g w (fun _ H'=>X.panK Q v H') a' w'→Qbhm n H g w Q (.panic [{ v:=v,recovered:=false }]) a' w':=by
     rintro v a' w' ⟨e2,H2,g2,k1,k2,k3,k4,k5⟩;exact⟨.pan v,rfl,[],H2,g2,k1,k2,fun t=>.unk _,k4,k5⟩
    exact Qbdz Qal hm hs he hn hd hc hQ hP
  |_=>simp[mC]at hm
 |seq s t ihs iht=>
  intro c Q e H hm hc g w a hs he hd hn;by_cases hg:s=.gh
  ·subst hg;have hm':mC P n c t=true:=by simpa[mC]using hm
   simp only[Qam]at hc;obtain⟨e1,H1,h1,h2⟩:=hc;obtain⟨g1,k1,k2⟩:=h1 g w (fun t=>a.tmps.getD t undef) hs he;refine wp_mono (iht c Q e1 H1 hm' h2 g1 w a k1.sat k2 hd hn) ?_;rintro x a' w' ⟨x',q1,q2⟩;exact⟨x',q1,q2.trans k1⟩
  ·cases c with
   |seq c d=>
    have hm':mC P n c s=true∧mC P n d t=true:=by
     cases s <;> first|(exact absurd rfl hg)|simpa[mC]using hm
    simp only[Qam]at hc;refine wp_seq (wp_mono (ihs c _ e H hm'.1 hc g w a hs he hd hn) ?_);rintro x a' w' ⟨x',q1,e2,H2,g2,k1,k2,k3,k4,k5⟩
    cases x with
    |normal=>
     simp only[xm,Jh]at q1;subst q1;refine wp_mono (iht d Q e2 H2 hm'.2 k1 g2 w' a' k2.sat k3 k4 k5) ?_;rintro x2 a2 w2 ⟨x2',r1,r2⟩;exact⟨x2',r1,r2.trans k2⟩
    |exit id=>
     simp only[xm,Jh]at q1;subst q1;exact⟨_,rfl,e2,H2,g2,k1,k2,k3,k4,k5⟩
    |ret=>
     simp only[xm,Jh]at q1;subst q1;exact⟨_,rfl,e2,H2,g2,k1,k2,k3,k4,k5⟩
    |panic ch=>
     obtain⟨v,rfl,rfl⟩:=Qbdh q1;exact⟨_,rfl,e2,H2,g2,k1,k2,k3,k4,k5⟩
    |_=>simp[xm]at q1
   |_=>cases s <;> first|(exact absurd rfl hg)|simp[mC]at hm
 |cond y s t ihs iht=>
  intro c Q e H hm hc g w a hs he hd hn;cases c <;> simp[mC]at hm
  rename_i x c d
  obtain⟨⟨h1,h2⟩,h3⟩:=hm;simp only[Qam]at hc;obtain⟨b,k1,k2,k3⟩:=hc;have hr:=Qbr8 he h1;rw[k1]at hr;have hb:=hr.c_inv.bool_inv;exact wp_cond_split hb (fun hbt=>ihs c Q e H h2 (k2 hbt) g w a hs he hd hn) (fun hbt=>iht d Q e H h3 (k3 hbt) g w a hs he hd hn)
 |block id s ih=>
  intro c Q e H hm hc g w a hs he hd hn;cases c <;> simp[mC]at hm
  rename_i id' c
  obtain⟨rfl,h2⟩:=hm;simp only[Qam]at hc;refine wp_block (wp_mono (ih c _ e H h2 hc g w a hs he hd hn) ?_);rintro x a' w' ⟨x',q1,e2,H2,g2,k1,k2⟩
  cases x with
  |normal=>
   simp only[xm,Jh]at q1;subst q1;exact⟨.nrm,rfl,e2,H2,g2,k1,k2⟩
  |exit id2=>
   simp only[xm,Jh]at q1;subst q1;simp only[X.inBlock]at k1;simp only[Exit.inBlock];split
   ·rename_i h;subst h;rw[if_pos rfl]at k1;exact⟨.nrm,rfl,e2,H2,g2,k1,k2⟩
   ·rename_i h;rw[if_neg h]at k1;exact⟨.exit id2,rfl,e2,H2,g2,k1,k2⟩
  |ret=>
   simp only[xm,Jh]at q1;subst q1;exact⟨.ret,rfl,e2,H2,g2,k1,k2⟩
  |panic ch=>
   obtain⟨v,rfl,rfl⟩:=Qbdh q1;exact⟨.pan v,rfl,e2,H2,g2,k1,k2⟩
  |_=>simp[xm]at q1
 |loop s ih=>
  intro c Q e H hm hc g w a hs he hd hn;cases c <;> simp[mC]at hm
  rename_i c
  simp only[Qam]at hc;obtain⟨I,⟨m0,h0⟩,hround⟩:=hc;refine Qbhh (fun m a' w'=>Post n H g w (I m) a' w') ⟨m0,e,H,g,h0,.refl hs,he,hd,hn⟩ ?_;rintro m a1 w1 ⟨e1,H1,g1,k1,k2,k3,k4,k5⟩;refine wp_mono (ih c _ e1 H1 hm (hround m e1 H1 k1) g1 w1 a1 k2.sat k3 k4 k5) ?_;rintro x a' w' ⟨x',q1,e2,H2,g2,r1,r2,r3,r4,r5⟩
  cases x with
  |normal=>
   simp only[xm,Jh]at q1;subst q1;obtain⟨m',hlt,hI⟩:=r1;exact⟨m',hlt,e2,H2,g2,hI,k2.trans r2,r3,r4,r5⟩
  |exit id=>
   simp only[xm,Jh]at q1;subst q1;exact⟨_,rfl,e2,H2,g2,r1,k2.trans r2,r3,r4,r5⟩
  |ret=>
   simp only[xm,Jh]at q1;subst q1;exact⟨_,rfl,e2,H2,g2,r1,k2.trans r2,r3,r4,r5⟩
  |panic ch=>
   obtain⟨v,rfl,rfl⟩:=Qbdh q1;exact⟨_,rfl,e2,H2,g2,r1,k2.trans r2,r3,r4,r5⟩
  |_=>simp[xm]at q1
 |exit id=>
  intro c Q e H hm hc g w a hs he hd hn;cases c <;> simp[mC]at hm;subst hm;exact wp_exit ⟨.exit _,rfl,e,H,g,hc,.refl hs,he,hd,hn⟩
 |ret=>
  intro c Q e H hm hc g w a hs he hd hn;cases c <;> simp[mC]at hm;exact wp_ret ⟨.ret,rfl,e,H,g,hc,.refl hs,he,hd,hn⟩
 |gh=>
  intro c Q e H hm hc g w a hs he hd hn;cases c <;> simp[mC]at hm
def mR (P:Program):ResultVar→RS→Bool
 |.tmp t,.tmp t'=>t == t'
 |.cell t ty,.cell t' n agg=>t == t'&&Qa4z P ty n agg
 |_,_=>false
def mRs (P:Program):List ResultVar→List RS→Bool
 |[],[]=>true
 |x::r,y::s=>mR P x y&&mRs P r s
 |_,_=>false
def mFn (P:Program)(f:FuncId)(nargs n:Nat)(s:SC)(rs:List RS):Bool:=
 fnOk P f&&(match P.funcs[f]? with
  |some fn=>(match fn.body with
   |some c=>fn.ntmps == n&&decide (nargs≤n)&&mC P n c s&&mRs P fn.results.toList rs
   |none=>false)
  |none=>false)
theorem Qbwb {n:Nat}{x:ResultVar}{y:RS}(hm:mR P x y=true)(hs:Sat H g w)(he:EnvOk w g e a)(ho:y.op.obl true e H) :
  ∃v,(match x with
   |.tmp t=>(pure (a.tmps.getD t undef):Sem Value)
   |.cell t ty=>do loadVar ty (←asAddr (a.tmps.getD t undef))).run P w=.ok v w∧RepV w g (y.op.val e H) v:=by
 cases x with
 |tmp t=>
  cases y with
  |tmp t'=>
   simp[mR]at hm;subst hm;have hr:=Qak (x:=.t t) (y:=.tmp t) he (by simp[mO]) rfl ho;exact⟨a.tmps.getD t undef,rfl,hr⟩
  |cell=>simp[mR]at hm
 |cell t ty=>
  cases y with
  |tmp=>simp[mR]at hm
  |cell t' n agg=>
   simp only[mR,Jl,beq_iff_eq]at hm;obtain⟨rfl,h2⟩:=hm;obtain⟨d,i,k1,k2,k3,k4,k5⟩:=Qmb h2;obtain ⟨v, w', g', r1, r2, r3, _⟩ := s_ld (o := { dst := none, op := .load ty (.tmp t), type := 0, pos := "", after := #[], guard := none }) (x := .t t) (x' := .tmp t) rfl k1 k2 k3 k4 k5 (by simp [mO]) hs he rfl ho
   simp only[RS.op,FOp.obl]at ho;obtain⟨o1,o2,o3,o4,o5⟩:=ho;have hrr:=Qak (x:=.t t) (y:=.tmp t) he (by simp[mO]) rfl o1;rw[Qc7 o2]at hrr;obtain⟨b,q,hv,_⟩:=Qaq0 hs hrr.c_inv o3;have hv':a.tmps.getD t undef=.pointer (some ⟨b,q,none⟩):=hv;have hcell := Qa3c (P := P) (o := { dst := none, op := .load ty (.tmp t), type := 0, pos := "", after := #[], guard := none }) (x := .t t) (x' := .tmp t) rfl k1 k2 k3 k4 k5 (by simp [mO]) hs he rfl ⟨o1, o2, o3, o4, o5⟩
   obtain⟨v2,q1,q2⟩:=hcell;refine⟨v2,?_,q2⟩;simp only[execOp,Instr.loadAt,Act.eval,hv',Instr.sureAddr,Sem.run_bind,Sem.run_pure,Result.andThen_ok]at q1;simp only[hv',asAddr,Sem.run_bind,Sem.run_pure,Result.andThen_ok]
   cases hl:(loadVar ty ⟨b,q,none⟩).run P w with
   |ok u w2=>rw[hl]at q1;simp at q1;obtain⟨rfl,rfl⟩:=q1;rfl
   |halt h w2=>rw[hl]at q1;simp at q1
def rRun (tmps:Array Value):ResultVar→Sem Value
 |.tmp t=>pure (tmps.getD t undef)
 |.cell a t=>do loadVar t (←asAddr (tmps.getD a undef))
theorem Qa5r {P:Program}{w:World}{tmps:Array Value}:∀(l:List ResultVar) (vs:List Value),l.length=vs.length→
  (∀(j:Nat) (x:ResultVar) (v:Value),l[j]? = some x→vs[j]? = some v→(rRun tmps x).run P w=.ok v w)→(l.mapM (rRun tmps)).run P w=.ok vs w:=by
 intro l
 induction l with
 |nil=>intro vs hl _;cases vs with
  |nil=>simp
  |cons=>simp at hl
 |cons x r ih=>
  intro vs hl h
  cases vs with
  |nil=>simp at hl
  |cons v vs=>
   have h0:=h 0 x v rfl rfl;have ih':=ih vs (by simpa using hl) fun j y u h1 h2=>h (j+1) y u (by simpa using h1) (by simpa using h2);simp only[List.mapM_cons,Sem.run_bind,h0,Result.andThen_ok,ih',Sem.run_pure]
theorem Qbt3 {n:Nat}:∀(l:List ResultVar) (rs:List RS),mRs P l rs=true→Sat H g w→EnvOk w g e a→(∀r∈rs,r.op.obl true e H)→
  ∃vs:List Value,l.length=vs.length∧vs.length=rs.length∧(∀(j:Nat) (x:ResultVar) (v:Value),l[j]? = some x→vs[j]? = some v→(rRun a.tmps x).run P w=.ok v w)∧
   (∀(j:Nat) (x:V) (u:Value),(rs.map fun r=>r.op.val e H)[j]? = some x→vs[j]? = some u→RepV w g x u):=by
 intro l
 induction l with
 |nil=>
  intro rs hm hs he ho
  cases rs with
  |nil=>exact⟨[],rfl,rfl,by simp,by simp⟩
  |cons=>simp[mRs]at hm
 |cons x r ih=>
  intro rs hm hs he ho
  cases rs with
  |nil=>simp[mRs]at hm
  |cons y rs=>
   simp only[mRs,Jl]at hm;obtain⟨v,h1,h2⟩:=Qbwb (n:=n) hm.1 hs he (ho y (by simp));obtain⟨vs,k1,k2,k3,k4⟩:=ih rs hm.2 hs he fun z hz=>ho z (by simp[hz]);refine⟨v::vs,by simp[k1],by simp[k2],?_,?_⟩
   ·intro j z u hz hu
    cases j with
    |zero=>
     simp at hz hu;subst hz;subst hu;exact h1
    |succ j=>exact k3 j z u (by simpa using hz) (by simpa using hu)
   ·intro j z u hz hu
    cases j with
    |zero=>
     simp at hz hu;subst hz;subst hu;exact h2
    |succ j=>exact k4 j z u (by simpa using hz) (by simpa using hu)
theorem Qbe0 {fn:Func}{rs:List RS}(hm:mRs P fn.results.toList rs=true)(hs:Sat H g w)(he:EnvOk w g e a){K:V→Heap→Prop}(ho:Qae rs e H K) :
  ∃v x,(results fn a.tmps).run P w=.ok v w∧K x H∧RepV w g x v:=by
 obtain⟨h1,h2⟩:=ho;obtain⟨vs,k1,k2,k3,k4⟩:=Qbt3 (n:=0) _ _ hm hs he h1;have hr:=Qa5r (P:=P) (w:=w) (tmps:=a.tmps) _ _ k1 k3;have hrun:(results fn a.tmps).run P w=.ok (if h:vs.toArray.size=1 then vs.toArray[0]else .tuple vs.toArray) w:=by
  have:results fn a.tmps=(do let vs ←fn.results.mapM (rRun a.tmps);pure (if h:vs.size=1 then vs[0]else .tuple vs)):=by
   unfold results;rfl
  rw[this,Array.mapM_eq_mapM_toList];simp only[Sem.run_bind,Sem.run_map,hr,Result.andThen_ok,Sem.run_pure]
 by_cases hl:vs.length=1
 ·obtain⟨v,rfl⟩:∃v,vs=[v]:=Jai.mp hl;obtain⟨r,rfl⟩:∃r,rs=[r]:=Jai.mp (by omega);exact⟨v,_,by simpa using hrun,h2,k4 0 _ v (by simp) rfl⟩
 ·have hsz:¬vs.toArray.size=1:=by simpa using hl
  rw[dif_neg hsz]at hrun;refine⟨_,.tup (rs.map fun r=>r.op.val e H),hrun,?_,.tup _ _ (by simp[k2]) k4⟩;split at h2
  ·rename_i r;simp at k2;omega
  ·exact h2
def Q5 (rs:List RS)(K:V→Heap→Prop):X→Env→Heap→Prop
 |.nrm,e,H=>Qae rs e H K
 |.ret,e,H=>Qae rs e H K
 |.exit _,_,_=>False
 |.pan v,_,H=>K (.pn v) H
theorem Qbvc:∀(args:List V) (i t:Nat),lk t (zipE i args)=if i≤t then args.getD (t-i) .unk else .unk:=by
 intro args
 induction args with
 |nil=>intro i t;simp[zipE,lk]
 |cons v r ih=>
  intro i t;simp only[zipE,lk,ih];split
  ·rename_i h;subst h;simp
  ·rename_i h
   split
   ·rw[if_pos (by omega)];have:t-i=(t-(i+1))+1:=(by omega);rw[this];simp
   ·rw[if_neg (by omega)]
theorem Qc (Qal:P.follows .mixedOrders=true){f n:Nat}{s:SC}{rs:List RS}{args:List V}{H:Heap}{K:V→Heap→Prop}
  (hm:mFn P f args.length n s rs=true) (hc:Qam P s (Q5 rs K) (zipE 0 args) H):Qr P f args H K:=by
 simp only[mFn,Jl]at hm;obtain⟨hok,hm⟩:=hm;refine⟨hok,?_⟩;intro g w vs hs hl hv
 cases hf:P.funcs[f]? with
 |none=>rw[hf]at hm;simp at hm
 |some fn=>
  rw[hf]at hm;simp only at hm
  cases hb:fn.body with
  |none=>rw[hb]at hm;simp at hm
  |some c=>
   rw[hb]at hm;simp only[Jl,beq_iff_eq,decide_eq_true_eq]at hm;obtain⟨⟨⟨h1,h2⟩,h3⟩,h4⟩:=hm;refine calls_of_wp hf hb ?_;have he:EnvOk w g (zipE 0 args) { tmps:=vs.toArray++Array.replicate (fn.ntmps-vs.toArray.size) undef,defers:=[] }:=by
    intro t;rw[Qbvc,if_pos (Jax _),Nat.sub_zero];by_cases ht:t<args.length
    ·have ht':t<vs.length:=(by omega);have hg:(vs.toArray++Array.replicate (fn.ntmps-vs.toArray.size) undef).getD t undef=vs[t]:=by
      simp[Array.getD,ht',Array.getElem_append];intro h;omega
     rw[hg];exact hv t _ _ (by rw[Je,Jv ht];rfl) (Jv ht')
    ·rw[Je,List.getElem?_eq_none (by omega)];exact .unk _
   refine wp_mono (Qbdy Qal s c _ (zipE 0 args) H h3 hc g w _ hs he rfl (by simp;omega)) ?_;rintro x a' w' ⟨x',q1,e2,H2,g2,k1,k2,k3,k4,k5⟩;have key:Qae rs e2 H2 K→a'.defers=[]∧∃v,(results fn a'.tmps).run P w'=.ok v w'∧((∃v' x H' g',Ending.returned v=.returned v'∧K x H'∧Stp H g w H' g' w'∧RepV w' g' x v')∨(∃v' H' g',Ending.returned v=.panicked [{ v:=v',recovered:=false }]∧K (.pn v') H'∧Stp H g w H' g' w')):=by
    intro hret;obtain⟨v,x,r1,r2,r3⟩:=Qbe0 h4 k2.sat k3 hret;exact⟨k4,v,r1,.inl ⟨v,x,H2,g2,rfl,r2,k2,r3⟩⟩
   cases x with
   |normal=>
    simp only[xm,Jh]at q1;subst q1;exact key k1
   |ret=>
    simp only[xm,Jh]at q1;subst q1;exact key k1
   |exit id=>
    simp only[xm,Jh]at q1;subst q1;exact k1.elim
   |panic ch=>
    obtain⟨v,rfl,rfl⟩:=Qbdh q1;exact⟨k4,.inr ⟨v,H2,g2,rfl,k1,k2⟩⟩
   |_=>simp[xm]at q1
end Go.AE
namespace Go.AE
variable {P:Program}{H:Heap}{e:Env}
def X.sq (P:Program)(b:SC)(Q:X→Env→Heap→Prop):X→Env→Heap→Prop:=X.next (Qam P b Q) Q
theorem Qbu0 {KP:Value→Heap→Prop}{K:V→Heap→Prop}{x:C}:Qa31 KP K (.c x) H=K (.c x) H:=rfl
theorem Qbro {KP:Value→Heap→Prop}{K:V→Heap→Prop}{x:List C}:Qa31 KP K (.ag x) H=K (.ag x) H:=rfl
theorem Qal9 {KP:Value→Heap→Prop}{K:V→Heap→Prop}{x:List V}:Qa31 KP K (.tup x) H=K (.tup x) H:=rfl
theorem Qbmn {KP:Value→Heap→Prop}{K:V→Heap→Prop}:Qa31 KP K .unk H=K .unk H:=rfl
theorem Qbrp {KP:Value→Heap→Prop}{K:V→Heap→Prop}{v:Value}:Qa31 KP K (.pn v) H=KP v H:=rfl
theorem Qbww {b:SC}{Q:X→Env→Heap→Prop}:X.sq P b Q .nrm e H=Qam P b Q e H:=rfl
theorem Qbwy {b:SC}{Q:X→Env→Heap→Prop}:X.sq P b Q .ret e H=Q .ret e H:=rfl
theorem Qbuv {b:SC}{Q:X→Env→Heap→Prop}{i:Nat}:X.sq P b Q (.exit i) e H=Q (.exit i) e H:=rfl
theorem Qbv0 {i:Nat}{Q:X→Env→Heap→Prop}:X.inBlock i Q .nrm e H=Q .nrm e H:=rfl
theorem Qbv2 {i:Nat}{Q:X→Env→Heap→Prop}:X.inBlock i Q .ret e H=Q .ret e H:=rfl
theorem Qbtb {i:Nat}{Q:X→Env→Heap→Prop}:X.inBlock i Q (.exit i) e H=Q .nrm e H:=by simp[X.inBlock]
theorem Qbnv {i j:Nat}{Q:X→Env→Heap→Prop}(h:(j == i)=false):X.inBlock i Q (.exit j) e H=Q (.exit j) e H:=by
 have:j≠i:=by simpa using h
 simp[X.inBlock,this]
theorem Qh {a b:SC}{Q:X→Env→Heap→Prop}(h:Qam P a (X.sq P b Q) e H):Qam P (.seq a b) Q e H:=h
theorem Qbj9 {K K':Env→Heap→Prop}{Q:X→Env→Heap→Prop}:X.next K (X.next K' Q)=X.next K Q:=by
 funext x e H
 cases x <;> rfl
theorem Qaa {a b c:SC}{Q:X→Env→Heap→Prop}(h:Qam P (.seq a (.seq b c)) Q e H):Qam P (.seq (.seq a b) c) Q e H:=by
 simp only[Qam]at h⊢;rw[Qbj9];exact h
theorem Qt {its:List Item}{keep:List Nat}{Q:X→Env→Heap→Prop}(h:Qyd P its e H (X.panK Q) fun e' H'=>Q .nrm (trim keep e') H'):Qam P (.reg its keep) Q e H:=h
theorem Qbn {fa:Nat}{ord:List Nat}{its:List Item}{keep:List Nat}{Q:X→Env→Heap→Prop}(h:Qq4 P its e H (X.panK Q) fun e' H'=>Q .nrm (trim keep e') H'):Qam P (.dreg fa ord its keep) Q e H:=h
theorem Qa {its:List Item}{keep:List Nat}{b:SC}{Q:X→Env→Heap→Prop}(h:Qyd P its e H (X.panK Q) fun e' H'=>Qam P b Q (trim keep e') H'):Qam P (.seq (.reg its keep) b) Q e H:=h
theorem Qaj {fa:Nat}{ord:List Nat}{its:List Item}{keep:List Nat}{b:SC}{Q:X→Env→Heap→Prop}(h:Qq4 P its e H (X.panK Q) fun e' H'=>Qam P b Q (trim keep e') H'):Qam P (.seq (.dreg fa ord its keep) b) Q e H:=h
theorem Qd {t:Opd}{a b:SC}{Q:X→Env→Heap→Prop}{c:Bool}(hc:t.raw e=.c (.bool c))(h1:c=true→Qam P a Q e H)(h2:c=false→Qam P b Q e H):Qam P (.cond t a b) Q e H:=⟨c,hc,h1,h2⟩
theorem Qe {i:Nat}{a:SC}{Q:X→Env→Heap→Prop}(h:Qam P a (X.inBlock i Q) e H):Qam P (.block i a) Q e H:=h
theorem Qw {i:Nat}{Q:X→Env→Heap→Prop}(h:Q (.exit i) e H):Qam P (.exit i) Q e H:=h
theorem Qk {Q:X→Env→Heap→Prop}(h:Q .ret e H):Qam P .ret Q e H:=h
theorem Qg {Q:X→Env→Heap→Prop}(h:Q .nrm e H):Qam P .skip Q e H:=h
theorem Qx {a:SC}{Q:X→Env→Heap→Prop}(I:Nat→Env→Heap→Prop)(n:Nat)(h0:I n e H)
  (h:∀n e1 H1,I n e1 H1→Qam P a (X.next (fun e2 H2=>∃m,m<n∧I m e2 H2) Q) e1 H1):Qam P (.loop a) Q e H:=⟨I,⟨n,h0⟩,h⟩
theorem Qbnp {e:Env}:gdO e none=True:=rfl
theorem Qbno {e:Env}:gdB e none=true:=rfl
theorem Qbnq {p:Bool}{v:V}:gdV none p v=v:=rfl
theorem Qbnr {p:Bool}{v:V}{x:Nat×Bool}:gdV (some x) p v=.gd p v:=rfl
theorem Qbrw {e:Env}:trim [] e=[]:=rfl
theorem Qbmw {k:Nat}{ks:List Nat}{e:Env}:trim (k::ks) e=(k,lk k e)::trim ks e:=rfl
theorem Qbrx {a:Prop}:(true=true→a)=a:=by simp
theorem Qbh6 {a:Prop}:(false=true→a)=True:=by simp
theorem Qbmy {a:Prop}:(true=false→a)=True:=by simp
theorem Qbd4 {a:Prop}:(false=false→a)=a:=by simp
theorem Qbxe {a:Prop}:(a∧True)=a:=by simp
theorem Qbyh {a:Prop}:(True∧a)=a:=by simp
theorem Qbyi {a:Prop}:(True→a)=a:=by simp
theorem Qbxo {a:Prop}:(a→True)=True:=by simp
theorem b_f {b:Bool}:(b == false) = !b:=by cases b <;> rfl
theorem b_t {b:Bool}:(b == true)=b:=by cases b <;> rfl
theorem Qbny {a:Prop}:(a→a)=True:=by simp
theorem Qbii {a b:Prop}:(a→b→a)=True:=propext ⟨fun _=>trivial,fun _ h _=>h⟩
theorem Qbij {a b:Prop}:(a→a∧b)=(a→b):=propext ⟨fun h x=>(h x).2,fun h x=>⟨x,h x⟩⟩
theorem Qbtd {a b:Prop}:(a→a→b)=(a→b):=by simp
theorem Qa5g {α:Type}{p:α→Prop}:(∀x∈([]:List α),p x)=True:=by simp
def Qa33 (H:Heap)(p:C)(vs:List C)(K:V→Heap→Prop):Prop:=
 match p with
 |.ptr l k=>match H l with
  |.st cells=>k+vs.length≤cells.length∧∀H',H'=H.set l (.st (Q0r cells k vs))→K .unk H'
  |_=>False
 |.ep (.vsl l sz st n) z i k=>match H l with
  |.vec y rows=>y=sz∧z=sz∧i<n∧st+n≤rows.length∧k+vs.length≤sz∧
    ∀H',H'=H.set l (.vec sz (rows.set (st+i) (Q0r (rows.getD (st+i) []) k vs)))→K .unk H'
  |_=>False
 |_=>False
def appQ (H:Heap)(sz:Nat)(a b:C)(K:V→Heap→Prop):Prop:=
 okSl H b∧b.elemSz=sz∧match a with
 |.sl true z rows=>z=sz∧(rows=[]∨rowsOf H b≠[])∧(∀r∈rows++rowsOf H b,noOw r=true)∧rows.length+lenC b≤LIM∧
   ∀l,H l=.none→∀H',H'=H.set l (.vec sz (rows++rowsOf H b))→K (.c (.vsl l sz 0 (rows.length+lenC b))) H'
 |.vsl l z st n=>match H l with
  |.vec y rows=>z=sz∧y=sz∧st+n≤rows.length∧(∀r∈rowsOf H b,noOw r=true)∧n+lenC b≤LIM∧
    ∀l',(H.set l .none) l'=.none→∀H',H'=(H.set l .none).set l' (.vec sz ((rows.drop st).take n++rowsOf H b))→
     K (.c (.vsl l' sz 0 (n+lenC b))) H'
  |_=>False
 |_=>False
def updQ (H:Heap)(tag:Nat)(m k:C)(v:V)(K:V→Heap→Prop):Prop:=
 match m with
 |.mp l=>match H l with
  |.map n es=>Qtd tag k es∧es.length+1≤LIM∧∀H',H'=H.set l (.map (n+1) (updE k v es))→K .unk H'
  |_=>False
 |_=>False
def delQ (H:Heap)(tag:Nat)(m k:C)(K:V→Heap→Prop):Prop:=
 match m with
 |.mp l=>match H l with
  |.map n es=>Qtd tag k es∧∀H',H'=H.set l (.map (n+1) (delE k es))→K .unk H'
  |_=>False
 |.mnil=>Qtd tag k []∧K .unk H
 |_=>False
theorem Qa4 {α:Type}{a:α}{p:α→Prop}:(∀x,x=a→p x)=p a:=propext ⟨fun h=>h a rfl,fun h x hx=>hx▸h⟩
section
variable {p:Bool}{K:V→Heap→Prop}
theorem Qbmp {a:C}{vs:List C}:Qama H a vs K=Qa33 H a vs K:=by
 cases a with
 |ptr l k=>simp only[Qama,Qa33];cases hh:H l <;> simp only[hh,Qa4]
 |ep s z i k=>
  cases s with
  |vsl l sz st n=>simp only[Qama,Qa33];cases hh:H l <;> simp only[hh,Qa4]
  |_=>rfl
 |_=>rfl
theorem Qbsj {sz:Nat}{a b:C}:appT H sz a b K=appQ H sz a b K:=by
 unfold appT appQ;refine congrArg (And _) (congrArg (And _) ?_)
 cases a with
 |sl fl z rows=>cases fl <;> simp only[Qa4]
 |vsl l z st n=>simp only[];cases hh:H l <;> simp only[hh,Qa4]
 |_=>rfl
theorem Qbu7 {tag:Nat}{m k:C}{v:V}:updT H tag m k v K=updQ H tag m k v K:=by
 cases m with
 |mp l=>simp only[updT,updQ];cases hh:H l <;> simp only[hh,Qa4]
 |_=>rfl
theorem Qbss {tag:Nat}{m k:C}:delT H tag m k K=delQ H tag m k K:=by
 cases m with
 |mp l=>simp only[delT,delQ];cases hh:H l <;> simp only[hh,Qa4]
 |_=>rfl
theorem Qbh2 {cells:List C}:(EOp.alloc cells).eff P p e H K=∀l,H l=.none→∀H',H'=H.set l (.st cells)→K (.c (.ptr l 0)) H':=by simp only[EOp.eff,Qa4]
theorem Qbnd {a:Opd}:(EOp.boxm a).eff P p e H K=(a.fine p e∧(a.v e).cells≠[]∧∀l,H l=.none→∀H',H'=H.set l (.st (a.v e).cells)→K (.c (.ptr l 0)) H'):=by simp only[EOp.eff,Qa4]
theorem Qbs4 {n:Nat}{a v:Opd}:(EOp.sto n a v).eff P p e H K=(a.fine p e∧v.fine p e∧(a.v e).isC∧(v.v e).cells.length=n∧0<n∧Qa33 H (a.v e).c1 (v.v e).cells K):=by simp only[EOp.eff,Qbmp]
theorem Qbsw {sz:Nat}{a b:Opd}:(EOp.app sz a b).eff P p e H K=(a.fine p e∧b.fine p e∧(a.v e).isC∧(b.v e).isC∧appQ H sz (a.v e).c1 (b.v e).c1 K):=by simp only[EOp.eff,Qbsj]
theorem Qbs1 {sz:Nat}{zero:List C}{n:Opd}:(EOp.mks sz zero n).eff P p e H K=(n.fine p e∧Qya (n.v e)∧0≤Qad (n.v e)∧Qad (n.v e)≤LIM∧
   ∀l,H l=.none→∀H',H'=H.set l (.vec sz (List.replicate (Qad (n.v e)).toNat zero))→K (.c (.vsl l sz 0 (Qad (n.v e)).toNat)) H'):=by simp only[EOp.eff,Qa4]
theorem Qbs0:EOp.mkm.eff P p e H K=∀l,H l=.none→∀H',H'=H.set l (.map 0 [])→K (.c (.mp l)) H':=by simp only[EOp.eff,Qa4]
theorem Qbs5 {tag:Nat}{m k v:Opd}:(EOp.upd tag m k v).eff P p e H K=(m.fine p e∧k.fine p e∧v.fine p e∧(m.v e).isC∧(k.v e).isC∧(v.v e).cells≠[]∧updQ H tag (m.v e).c1 (k.v e).c1 (v.v e) K):=by simp only[EOp.eff,Qbu7]
theorem Qbsy {tag:Nat}{m k:Opd}:(EOp.del tag m k).eff P p e H K=(m.fine p e∧k.fine p e∧(m.v e).isC∧(k.v e).isC∧delQ H tag (m.v e).c1 (k.v e).c1 K):=by simp only[EOp.eff,Qbss]
theorem Qbng {m:Opd}:(EOp.clrm m).eff P p e H K=(m.fine p e∧match m.v e with
  |.c (.mp l)=>match H l with
   |.map n _=>∀H',H'=H.set l (.map (n+1) [])→K .unk H'
   |_=>False
  |_=>False):=by
 simp only[EOp.eff];refine congrArg (And _) ?_
 cases m.v e with
 |c x=>cases x with
  |mp l=>simp only[];cases hh:H l <;> simp only[hh,Qa4]
  |_=>rfl
 |_=>rfl
theorem Qbnh {sz:Nat}{zero:List C}{m:Opd}:(EOp.clrs sz zero m).eff P p e H K=(m.fine p e∧match m.v e with
  |.c (.vsl l z st n)=>z=sz∧match H l with
   |.vec y rows=>y=sz∧st+n≤rows.length∧∀H',H'=H.set l (.vec sz (rows.take st++List.replicate n zero++rows.drop (st+n)))→K .unk H'
   |_=>False
  |_=>False):=by
 simp only[EOp.eff];refine congrArg (And _) ?_
 cases m.v e with
 |c x=>cases x with
  |vsl l z st n=>simp only[];refine congrArg (And _) ?_;cases hh:H l <;> simp only[hh,Qa4]
  |_=>rfl
 |_=>rfl
theorem Qbnf {f:Nat}{args:List Opd}:(EOp.call f args).eff P p e H K=((∀x∈args,x.fine p e)∧Qr P f (args.map fun x=>x.v e) H K):=rfl
theorem Qbh3 {f:Opd}{args:List Opd}:(EOp.callv f args).eff P p e H K=(f.fine p e∧(∀x∈args,x.fine p e)∧match f.v e with
  |.c (.fn n caps)=>Qr P n ((args.map fun x=>x.v e)++caps.map .c) H K
  |_=>False):=rfl
theorem Qbs3 {m:Opd}:(EOp.rng m).eff P p e H K=(m.fine p e∧match m.v e with
  |.c (.mp l)=>match H l with
   |.map n es=>es.Nodup∧∀i,H i=.none→∀H',H'=H.set i (.iter (some (l,n)) es none)→K (.c (.itr i)) H'
   |_=>False
  |.c .mnil=>∀i,H i=.none→∀H',H'=H.set i (.iter none [] none)→K (.c (.itr i)) H'
  |_=>False):=by
 simp only[EOp.eff];refine congrArg (And _) ?_
 cases m.v e with
 |c x=>cases x with
  |mp l=>simp only[];cases hh:H l <;> simp only[hh,Qa4]
  |mnil=>simp only[Qa4]
  |_=>rfl
 |_=>rfl
theorem Qbs2 {it:Opd}:(EOp.nxt it).eff P p e H K=(it.fine p e∧match it.v e with
  |.c (.itr i)=>match H i with
   |.iter none left _=>K (.tup [.c (.bool false)]) H
   |.iter (some (l,n)) left cur=>(∃es,H l=.map n es)∧(left=[]→K (.tup [.c (.bool false)]) H)∧
     ∀x left',x∈left→(∀y,y∈left'↔y∈left∧y≠x)→left'.Nodup→left'.length+1=left.length→
      ∀H',H'=H.set i (.iter (some (l,n)) left' (some x))→K (.tup [.c (.bool true),.c x.1,x.2]) H'
   |_=>False
  |_=>False):=by
 simp only[EOp.eff];refine congrArg (And _) ?_
 cases it.v e with
 |c x=>cases x with
  |itr i=>
   simp only[]
   cases hh:H i with
   |iter m left cur=>cases m with
    |none=>rfl
    |some y=>simp only[Qa4]
   |_=>rfl
  |_=>rfl
 |_=>rfl
theorem Qbsz {it:Opd}:(EOp.ent it).eff P p e H K=(it.fine p e∧match it.v e with
  |.c (.itr i)=>match H i with
   |.iter (some (l,n)) left (some x)=>(∃es,H l=.map n es)∧K (.tup [.c x.1,x.2]) H
   |_=>False
  |_=>False):=rfl
def cpyQ (H:Heap)(sz:Nat)(a b:C)(K:V→Heap→Prop):Prop:=
 okSl H b∧b.elemSz=sz∧match a with
 |.vsl l z st n=>match H l with
  |.vec y rows=>z=sz∧y=sz∧st+n≤rows.length∧lenC b≤n∧(∀r∈rowsOf H b,noOw r=true)∧
    ∀H',H'=H.set l (.vec sz (rows.take st++rowsOf H b++rows.drop (st+lenC b)))→K (.c (.int .i64 (lenC b))) H'
  |_=>False
 |_=>False
theorem Qbsr {sz:Nat}{a b:C}:cpyT H sz a b K=cpyQ H sz a b K:=by
 unfold cpyT cpyQ;refine congrArg (And _) (congrArg (And _) ?_)
 cases a with
 |vsl l z st n=>simp only[];cases hh:H l <;> simp only[hh,Qa4]
 |_=>rfl
theorem Qbsx {sz:Nat}{a b:Opd}:(EOp.cpy sz a b).eff P p e H K=(a.fine p e∧b.fine p e∧(a.v e).isC∧(b.v e).isC∧cpyQ H sz (a.v e).c1 (b.v e).c1 K):=by simp only[EOp.eff,Qbsr]
theorem Qbne {sz:Nat}{parts:List Opd}:(EOp.bslm sz parts).eff P p e H K=((∀x∈parts,x.fine p e∧(x.v e).cells.length=sz)∧∀l,H l=.none→∀H',H'=H.set l (.vec sz (parts.map fun x=>(x.v e).cells))→K (.c (.vsl l sz 0 parts.length)) H'):=by simp only[EOp.eff,Qa4]
theorem Qbni {a:Opd}:(EOp.nilq a).eff P p e H K=(a.fine p e∧match a.v e with
  |.c (.sl _ _ rows)=>∀b:Bool,(b=true→rows=[])→K (.c (.bool b)) H
  |_=>False):=rfl
end
theorem Qbn9 {k:IntKind}{n:Int}:(C.int k n).isOw=false:=rfl
theorem Qbit {b:Bool}:(C.bool b).isOw=false:=rfl
theorem Qboc {s:List UInt8}:(C.str s).isOw=false:=rfl
theorem Qbtn {f:Bool}{sz:Nat}{r:List (List C)}:(C.sl f sz r).isOw=false:=rfl
theorem Qbtm {c:List C}:(C.pp c).isOw=false:=rfl
theorem Qbti {c:C}{a i k:Nat}:(C.ep c a i k).isOw=false:=rfl
theorem Qbiw:C.pnil.isOw=false:=rfl
theorem Qbob {l k:Nat}:(C.ptr l k).isOw=false:=rfl
theorem Qca {l a b c:Nat}:(C.vsl l a b c).isOw=false:=rfl
theorem Qbtk {l:Nat}:(C.mp l).isOw=false:=rfl
theorem Qbiv:C.mnil.isOw=false:=rfl
theorem Qbtj {f:Nat}{c:List C}:(C.fn f c).isOw=false:=rfl
theorem Qbiu:C.fnil.isOw=false:=rfl
theorem Qboa {l:Nat}:(C.itr l).isOw=false:=rfl
theorem Qbod:C.unk.isOw=false:=rfl
theorem Qbtl {sz:Nat}{r:List (List C)}:(C.ow sz r).isOw=true:=rfl
theorem Qbtu {f:Bool}{sz:Nat}{r:List (List C)}:lenC (.sl f sz r)=r.length:=rfl
theorem Qbow {l a b c:Nat}:lenC (.vsl l a b c)=c:=rfl
theorem Qbh4 {f:Bool}{sz:Nat}{r:List (List C)}:(C.sl f sz r).elemSz=sz:=rfl
theorem Qbd2 {l a b c:Nat}:(C.vsl l a b c).elemSz=a:=rfl
theorem Qbkr {f:Bool}{sz:Nat}{r:List (List C)}:rowsOf H (.sl f sz r)=r:=rfl
theorem Qbe3 {l a st n:Nat}:rowsOf H (.vsl l a st n)=match H l with
  |.vec _ rows=>(rows.drop st).take n
  |_=>[]:=rfl
theorem Qbuc {f:Bool}{sz:Nat}{r:List (List C)}:okSl H (.sl f sz r)=True:=rfl
theorem Qbpn {l sz st n:Nat}:okSl H (.vsl l sz st n)=match H l with
  |.vec z rows=>z=sz∧st+n≤rows.length
  |_=>False:=rfl
section
variable {K:V→Heap→Prop}
theorem Qbsk {sz z:Nat}{rows:List (List C)}{b:C}:appQ H sz (.sl true z rows) b K=(okSl H b∧b.elemSz=sz∧z=sz∧(rows=[]∨rowsOf H b≠[])∧(∀r∈rows++rowsOf H b,noOw r=true)∧rows.length+lenC b≤LIM∧
   ∀l,H l=.none→∀H',H'=H.set l (.vec sz (rows++rowsOf H b))→K (.c (.vsl l sz 0 (rows.length+lenC b))) H'):=rfl
theorem Qbm5 {sz l z st n:Nat}{b:C}:appQ H sz (.vsl l z st n) b K=(okSl H b∧b.elemSz=sz∧match H l with
  |.vec y rows=>z=sz∧y=sz∧st+n≤rows.length∧(∀r∈rowsOf H b,noOw r=true)∧n+lenC b≤LIM∧
    ∀l',(H.set l .none) l'=.none→∀H',H'=(H.set l .none).set l' (.vec sz ((rows.drop st).take n++rowsOf H b))→
     K (.c (.vsl l' sz 0 (n+lenC b))) H'
  |_=>False):=rfl
end
theorem Qbuu {lo hi:Option Int}{fl:Bool}{sz:Nat}{rows:List (List C)}:sliC lo hi (.sl fl sz rows)=.sl (fl&&(hi.isNone || rows.isEmpty)) sz ((rows.take (hi.getD rows.length).toNat).drop (lo.getD 0).toNat):=rfl
theorem Qbrl {lo hi:Option Int}{l sz st n:Nat}:sliC lo hi (.vsl l sz st n)=.vsl l sz (st+(lo.getD 0).toNat) ((hi.getD n).toNat-(lo.getD 0).toNat):=rfl
attribute [go_sem] Qbsx cpyQ Qbu0 Qbro Qal9 Qbmn Qbrp b_f b_t Qbny Qbii Qbij Qbtd Qyd Qq4 putE lk Qbnp Qbno Qbnq Qbnr gdO gdB Opd.v Opd.raw Opd.fine V.bare V.fine FOp.val FOp.obl FOp.fct Qbh2 Qbnd Qbs4 Qbsw Qbs1 Qbs0 Qbs5 Qbsy Qbng Qbnh Qbnf Qbh3 Qbs3 Qbs2 Qbsz Qbni Qbne Qbrw Qbmw
 V.c1 V.isC V.isAg V.cells Qj7 Qbew fadC binC binO Qbek noOw Qa33 Qbsk Qbm5 updQ delQ zipE Q2u Qbuu Qbrl bnds Qbuc Qbpn Qbtu Qbow Qbkr Qbe3 Qbh4 Qbd2 Qbn9 Qbit Qboc Qbtn Qbtm Qbti Qbiw Qbob Qca Qbtk Qbiv Qbtj Qbiu Qboa Qbod Qbtl Qya Qbn7 Qad Qbpu Qbrx Qbh6 Qbmy Qbd4 Qbxe Qbyh Qbyi Qbxo
 Qbww Qbwy Qbuv Qbv0 Qbv2 Qbtb Jq J7 Q0r List.take_succ_cons List.take_zero List.take_nil List.drop_succ_cons Jac List.drop_nil
 List.length_cons Jal J2 J6 List.headD_cons Bool.not_false Bool.not_true Bool.and_true Jav Bool.and_false Bool.false_and and_self eq_self Bool.false_eq_true Jx Jr Jax Jau not_true_eq_false not_false_eq_true ite_true ite_false ne_eq Option.map_some Option.map_none Option.getD_some Option.getD_none Option.isNone_some Option.isNone_none List.isEmpty_nil List.isEmpty_cons Bool.or_true Bool.true_or Bool.or_false Bool.false_or optI optF Int.toNat_natCast Int.natCast_nonneg Int.add_sub_cancel List.forall_mem_cons Qa5g
end Go.AE
namespace Go.AE
abbrev fI (d : Nat) (o : FOp) : Item := .f (some d) none o
abbrev eI (d : Nat) (o : EOp) : Item := .e (some d) none o
abbrev gT (d t : Nat) (o : FOp) : Item := .f (some d) (some (t, true)) o
abbrev gF (d t : Nat) (o : FOp) : Item := .f (some d) (some (t, false)) o
abbrev kI (n : Int) : Opd := .k (.c (.int .i64 n))
abbrev mJ (d a : Nat) : Item := .f (some d) none (.mv (.t a))
abbrev fJ (d n a : Nat) : Item := .f (some d) none (.fad n (.t a))
abbrev lJ (d a : Nat) : Item := .f (some d) none (.ld 1 false (.t a))
abbrev tJ (d n a : Nat) : Item := .f (some d) none (.ld n true (.t a))
abbrev nJ (d a : Nat) : Item := .f (some d) none (.len (.t a))
abbrev kJ (d a : Nat) : Item := .f (some d) none (.nck (.t a))
abbrev oJ (d a : Nat) : Item := .f (some d) none (.not (.t a))
abbrev iJ (d n a b : Nat) : Item := .f (some d) none (.iad n (.t a) (.t b))
abbrev bJ (d : Nat) (o : BinOp) (a b : Nat) : Item := .f (some d) none (.bin 0 o (.t a) (.t b))
abbrev cJ (d : Nat) (o : BinOp) (a : Nat) (n : Int) : Item := .f (some d) none (.bin 0 o (.t a) (.k (.c (.int .i64 n))))
abbrev gTm (d g a : Nat) : Item := .f (some d) (some (g, true)) (.mv (.t a))
abbrev gFm (d g a : Nat) : Item := .f (some d) (some (g, false)) (.mv (.t a))
abbrev gTf (d g n a : Nat) : Item := .f (some d) (some (g, true)) (.fad n (.t a))
abbrev gFf (d g n a : Nat) : Item := .f (some d) (some (g, false)) (.fad n (.t a))
abbrev gTl (d g a : Nat) : Item := .f (some d) (some (g, true)) (.ld 1 false (.t a))
abbrev gFl (d g a : Nat) : Item := .f (some d) (some (g, false)) (.ld 1 false (.t a))
abbrev aJ (d f : Nat) (l : List Opd) : Item := .e (some d) none (.call f l)
abbrev sJ (k a b : Nat) : Item := .e none none (.sto k (.t a) (.t b))
abbrev fB (d : Nat) (b : Bool) : Item := .f (some d) none (.mv (.k (.c (.bool b))))
abbrev zJ (d : Nat) (n : Int) : Item := .f (some d) none (.mv (.k (.c (.int .i64 n))))
abbrev hJ (d a : Nat) : Item := .chk d none (.ld 1 false (.t a))
abbrev pT (d a b : Nat) : Item := .f (some d) none (.pick (.t a) (.k (.c (.bool true))) (.t b))
abbrev pF (d a b : Nat) : Item := .f (some d) none (.pick (.t a) (.t b) (.k (.c (.bool false))))
abbrev xJ (d k a b : Nat) : Item := .e (some d) none (.app k (.t a) (.t b))
abbrev vJ (d a : Nat) : Item := .f (some d) none (.box (.t a))
abbrev sR (l : List Item) (k : List Nat) (n : SC) : SC := .seq (.reg l k) n
abbrev cX (t i : Nat) (n : SC) : SC := .seq (.cond (.t t) .skip (.exit i)) n
abbrev bL (i : Nat) (l : SC) : SC := .block i (.loop l)
abbrev cT (t : Nat) (a b : SC) : SC := .cond (.t t) a b
theorem Qbw4 : Int.toNat 0 = 0 := rfl
theorem Qbw5 : Int.toNat 1 = 1 := rfl
theorem Qbu2 : Int.toNat 2000 = 2000 := rfl
attribute [go_sem] sJ fB zJ hJ pT pF xJ vJ mJ fJ lJ tJ nJ kJ oJ iJ bJ cJ gTm gFm gTf gFf gTl gFl aJ fI eI gT gF kI false_implies Qbw4 Qbw5 Qbu2
variable {P:Program}{H:Heap}{g:G}{w:World}{e:Env}
def Obj.used:Obj→Bool
 |.none=>false
 |_=>true
def Heap.frz (H:Heap)(S:Nat→Bool):Heap:=fun l=>if S l then .none else H l
def G.frz (g:G)(H:Heap)(S:Nat→Bool):G:=
 { g with
  per:=fun b=>g.per b || (match g.own b with
   |some (l,_)=>S l&&(H l).used
   |none=>false)
  own:=fun b=>match g.own b with
   |some (l,p)=>if S l&&(H l).used then none else some (l,p)
   |none=>none }
theorem Qbr4 (H:Heap)(S:Nat→Bool)(g:G)(w:World):Le g w (g.frz H S) w:=
 ⟨fun b h=>⟨by simp[G.frz,h],rfl⟩,fun _ _ h=>h,Jau _,fun _ _ _ h=>h,rfl,rfl,rfl⟩
theorem Qs4 {S:Nat→Bool}{m:Nat}(hm:¬(S m=true∧(H m).used=true)):Q43 g w (g.frz H S) w m:=by
 intro b q hb;refine⟨?_,rfl⟩;have:¬(S m&&(H m).used)=true:=by simpa using hm
 simp only[G.frz,hb];rw[if_neg this]
theorem Qawi (hs:Sat H g w)(S:Nat→Bool):Stp H g w (H.frz S) (g.frz H S) w:=by
 have hle:=Qbr4 H S g w;refine⟨hle,fun m hm hn=>?_,⟨fun b hb=>?_,hs.names,fun b x hb=>?_,fun b m p hb=>?_,fun m=>?_⟩⟩
 ·refine⟨by simp only[Heap.frz,hn];split <;> rfl,?_⟩;exact Qs4 (by rw[hn];simp[Obj.used])
 ·obtain⟨h1,h2⟩:=hs.fresh b hb;simp[G.frz,h1,h2]
 ·have hb':(match g.own b with
   |some (l,p)=>if S l&&(H l).used then none else some (l,p)
   |none=>none)=some x:=hb
  show (g.per b || (match g.own b with
   |some (l,_)=>S l&&(H l).used
   |none=>false))=false
  cases ho:g.own b with
  |none=>rw[ho]at hb';simp at hb'
  |some y=>
   obtain⟨l,p⟩:=y;rw[ho]at hb';simp only at hb'⊢;have:=hs.excl b _ ho;by_cases hx:(S l&&(H l).used)=true
   ·rw[if_pos hx]at hb';simp at hb'
   ·simp[this,hx]
 ·have hb':(match g.own b with
   |some (l,p)=>if S l&&(H l).used then none else some (l,p)
   |none=>none)=some (m,p):=hb
  cases ho:g.own b with
  |none=>rw[ho]at hb';simp at hb'
  |some y=>
   obtain⟨l,q⟩:=y;rw[ho]at hb';simp only at hb';by_cases hx:(S l&&(H l).used)=true
   ·rw[if_pos hx]at hb';simp at hb'
   ·rw[if_neg hx]at hb';simp at hb';obtain⟨rfl,rfl⟩:=hb';exact hs.named b _ _ ho
 ·by_cases hS:S m=true
  ·simp[Heap.frz,hS,SatObj]
  ·have hH':H.frz S m=H m:=by simp[Heap.frz,hS]
   have hk:Q43 g w (g.frz H S) w m:=Qs4 (by simp[hS]);refine SatObj.keep (H':=H.frz S) hs hle hk hH' fun m' v left cur hc v' es hv=>?_;by_cases hS':S m'=true
   ·simp[Heap.frz,hS']at hv
   ·have:H.frz S m'=H m':=(by simp[Heap.frz,hS']);rw[this]at hv;exact .inl ⟨hv,Qs4 (by simp[hS'])⟩
inductive FrzC (H:Heap)(S:Nat→Bool):C→C→Prop
 |same (c:C) (h:c.isOw=false):FrzC H S c c
 |sl (fl:Bool) (sz:Nat) (rows rows':List (List C)) (hl:rows'.length=rows.length) (hr:∀(i:Nat) (r r':List C),rows[i]? = some r→rows'[i]? = some r'→r'.length=r.length)
   (hc:∀(i:Nat) (r r':List C) (j:Nat) (c c':C),rows[i]? = some r→rows'[i]? = some r'→r[j]? = some c→r'[j]? = some c'→FrzC H S c c'):FrzC H S (.sl fl sz rows) (.sl false sz rows')
 |pp (cells cells':List C) (hl:cells'.length=cells.length) (hc:∀(j:Nat) (c c':C),cells[j]? = some c→cells'[j]? = some c'→FrzC H S c c'):FrzC H S (.pp cells) (.pp cells')
 |vsl (l sz st n:Nat) (all rows rows':List (List C)) (hS:S l=true) (hH:H l=.vec sz all) (hb:st+n≤all.length) (hrows:rows=(all.drop st).take n)
   (hl:rows'.length=rows.length) (hr:∀(i:Nat) (r r':List C),rows[i]? = some r→rows'[i]? = some r'→r'.length=r.length)
   (hc:∀(i:Nat) (r r':List C) (j:Nat) (c c':C),rows[i]? = some r→rows'[i]? = some r'→r[j]? = some c→r'[j]? = some c'→FrzC H S c c'):FrzC H S (.vsl l sz st n) (.sl false sz rows')
 |ptr (l k:Nat) (all cells cells':List C) (hS:S l=true) (hH:H l=.st all) (hcells:cells=all.drop k) (hl:cells'.length=cells.length)
   (hc:∀(j:Nat) (c c':C),cells[j]? = some c→cells'[j]? = some c'→FrzC H S c c'):FrzC H S (.ptr l k) (.pp cells')
 |ow (sz:Nat) (rows rows':List (List C)) (hl:rows'.length=rows.length) (hr:∀(i:Nat) (r r':List C),rows[i]? = some r→rows'[i]? = some r'→r'.length=r.length)
   (hc:∀(i:Nat) (r r':List C) (j:Nat) (c c':C),rows[i]? = some r→rows'[i]? = some r'→r[j]? = some c→r'[j]? = some c'→FrzC H S c c'):FrzC H S (.ow sz rows) (.sl false sz rows')
theorem Qah {α:Type}{l l':List α}(h:l'.length=l.length){i:Nat}{x:α}(hx:l'[i]? = some x):∃y,l[i]? = some y:=by
 have:i<l'.length:=(Jt.1 hx).1;exact⟨l[i]'(by omega),Jv (by omega)⟩
theorem Qa4w {S:Nat→Bool}{b l:Nat}{p:List Nat}(ho:g.own b=some (l,p))(hS:S l=true)(hu:(H l).used=true):(g.frz H S).per b=true:=by
 simp[G.frz,ho,hS,hu]
theorem Qa4x (hs:Sat H g w){S:Nat→Bool}{c c':C}(h:FrzC H S c c') :
  (∀v,RepC w g c v→RepC w (g.frz H S) c' v)∧∀l p v,S l=true→(H l).used=true→RepO w g l p c v→RepC w (g.frz H S) c' v:=by
 have hle:=Qbr4 H S g w
 induction h with
 |same c h=>
  refine⟨fun v hv=>hv.mono hle,fun l p v _ _ hv=>?_⟩;exact (hv.plain_of fun sz rows hc=>by subst hc;simp[C.isOw]at h).mono hle
 |sl fl sz rows rows' hl hr hc ih=>
  have key:∀v,RepC w g (.sl fl sz rows) v→RepC w (g.frz H S) (.sl false sz rows') v:=by
   intro v hv
   cases hv with
   |slnil _ _ ad=>
    have:rows'=[]:=Jw.1 (by simpa using hl);subst this;exact .slnil _ _ _
   |sl _ _ _ b off cap val h1 h2 h3 h4 h5 h6 h7=>
    rw[←hl]at h1 h2 h3⊢;refine .sl false sz rows' b off cap val h1 (by simp) h3 (hle.per b h4).1 (fun i r' hr'=>?_) (fun i r' j c' hr' hc'=>?_) (fun i r' j c' hr' hc'=>?_)
    ·obtain⟨r,hr0⟩:=Qah hl hr';rw[hr i r r' hr0 hr'];exact h5 i r hr0
    ·obtain⟨r,hr0⟩:=Qah hl hr';obtain⟨c,hc0⟩:=Qah (hr i r r' hr0 hr') hc';exact h6 i r j c hr0 hc0
    ·obtain⟨r,hr0⟩:=Qah hl hr';obtain⟨c,hc0⟩:=Qah (hr i r r' hr0 hr') hc';exact (ih i r r' j c c' hr0 hr' hc0 hc').1 _ (h7 i r j c hr0 hc0)
  exact⟨key,fun l p v _ _ hv=>key v (hv.plain_of fun _ _ hc=>by simp at hc)⟩
 |pp cells cells' hl hc ih=>
  have key:∀v,RepC w g (.pp cells) v→RepC w (g.frz H S) (.pp cells') v:=by
   intro v hv
   cases hv with
   |pp _ b off val h1 h2 h3=>
    refine .pp cells' b off val (hle.per b h1).1 (fun j c' hc'=>?_) (fun j c' hc'=>?_)
    ·obtain⟨c,hc0⟩:=Qah hl hc';exact h2 j c hc0
    ·obtain⟨c,hc0⟩:=Qah hl hc';exact (ih j c c' hc0 hc').1 _ (h3 j c hc0)
  exact⟨key,fun l p v _ _ hv=>key v (hv.plain_of fun _ _ hc=>by simp at hc)⟩
 |vsl l sz st n all rows rows' hS hH hb hrows hl hr hc ih=>
  have key:∀v,RepC w g (.vsl l sz st n) v→RepC w (g.frz H S) (.sl false sz rows') v:=by
   intro v hv;have hlen:rows.length=n:=by rw[hrows];simp;omega
   cases hv with
   |vslnil _ _ _ ad=>
    have:rows'=[]:=Jw.1 (by omega);subst this;exact .slnil _ _ _
   |vsl _ _ _ _ cap b base T m h1 h2 h3 h4=>
    have hob:=hs.objs l;rw[hH]at hob;obtain⟨b',base',T',cs,val,r1,r2,r3,r4,r5,r6,r7,r8⟩:=SatVec.of hob h1;rw[h1]at r1;simp only[Jh,Jaw,true_and]at r1;obtain⟨rfl,rfl⟩:=r1;have hper:=Qa4w (g:=g) (H:=H) r2 hS (by rw[hH];rfl);have hget:∀(i:Nat) (r:List C),rows[i]? = some r→all[st+i]? = some r:=by
     intro i r hi;rw[hrows,List.getElem?_take]at hi;split at hi
     ·rw[Jao]at hi;exact hi
     ·simp at hi
    have hn:n=rows'.length:=(by omega);rw[hn]at h2⊢;refine .sl false sz rows' b (base+st * sz) cap (fun i j=>val (st+i) j) (by omega) (by simp) h2 hper (fun i r' hr'=>?_) (fun i r' j c' hr' hc'=>?_) (fun i r' j c' hr' hc'=>?_)
    ·obtain⟨r,hr0⟩:=Qah hl hr';rw[hr i r r' hr0 hr'];exact r6 _ r (hget i r hr0)
    ·obtain⟨r,hr0⟩:=Qah hl hr';obtain⟨c,hc0⟩:=Qah (hr i r r' hr0 hr') hc';rw[Qch r3,show base+st * sz+i * sz+j=base+(st+i) * sz+j by rw[Nat.add_mul];omega];exact r7 _ r j c (hget i r hr0) hc0
    ·obtain⟨r,hr0⟩:=Qah hl hr';obtain⟨c,hc0⟩:=Qah (hr i r r' hr0 hr') hc';exact (ih i r r' j c c' hr0 hr' hc0 hc').2 l _ _ hS (by rw[hH];rfl) (r8 _ r j c (hget i r hr0) hc0)
  exact⟨key,fun l p v _ _ hv=>key v (hv.plain_of fun _ _ hc=>by simp at hc)⟩
 |ptr l k all cells cells' hS hH hcells hl hc ih=>
  have key:∀v,RepC w g (.ptr l k) v→RepC w (g.frz H S) (.pp cells') v:=by
   intro v hv
   cases hv with
   |ptr _ _ b sz base h1=>
    have hob:=hs.objs l;rw[hH]at hob;obtain⟨b',sz',T,cs,r1,r2,r3,r4,r5⟩:=hob;rw[h1]at r1;simp only[Jh,Jaw]at r1;obtain⟨rfl,rfl,rfl⟩:=r1;have hper:=Qa4w (g:=g) (H:=H) r2 hS (by rw[hH];rfl);have hget:∀(j:Nat) (c:C),cells[j]? = some c→all[k+j]? = some c:=by
     intro j c hj;rw[hcells,Jao]at hj;exact hj
    have hcs:∀(j:Nat) (c:C),all[j]? = some c→cs[j]? = some (cs.getD j undef):=by
     intro j c hj;have hlt:j<cs.size:=(by rw[r4];exact (Jt.1 hj).1);rw[Js hlt,Jf,Js hlt];rfl
    refine .pp cells' b (0+k) (fun j=>cs.getD (k+j) undef) hper (fun j c' hc'=>?_) (fun j c' hc'=>?_)
    ·obtain⟨c,hc0⟩:=Qah hl hc';rw[Qch r3,show 0+k+j=k+j by omega];exact hcs _ c (hget j c hc0)
    ·obtain⟨c,hc0⟩:=Qah hl hc';exact (ih j c c' hc0 hc').2 l _ _ hS (by rw[hH];rfl) (r5 _ c _ (hget j c hc0) (hcs _ c (hget j c hc0)))
  exact⟨key,fun l p v _ _ hv=>key v (hv.plain_of fun _ _ hc=>by simp at hc)⟩
 |ow sz rows rows' hl hr hc ih=>
  refine⟨fun v hv=>(by cases hv),fun l p v hS hu hv=>?_⟩
  cases hv with
  |plain _ _ _ h=>cases h
  |ownil _ _ ad=>
   have:rows'=[]:=Jw.1 (by simpa using hl);subst this;exact .slnil _ _ _
  |ow _ _ _ b off cap T cs val h1 h2 h3 h4 h5 h6 h7 h8=>
   have hper:=Qa4w (g:=g) (H:=H) h3 hS hu;rw[←hl]at h1 h2⊢;refine .sl false sz rows' b off cap val h1 (by simp) h2 hper (fun i r' hr'=>?_) (fun i r' j c' hr' hc'=>?_) (fun i r' j c' hr' hc'=>?_)
   ·obtain⟨r,hr0⟩:=Qah hl hr';rw[hr i r r' hr0 hr'];exact h6 i r hr0
   ·obtain⟨r,hr0⟩:=Qah hl hr';obtain⟨c,hc0⟩:=Qah (hr i r r' hr0 hr') hc';rw[Qch h4];exact h7 i r j c hr0 hc0
   ·obtain⟨r,hr0⟩:=Qah hl hr';obtain⟨c,hc0⟩:=Qah (hr i r r' hr0 hr') hc';exact (ih i r r' j c c' hr0 hr' hc0 hc').2 l _ _ hS hu (h8 i r j c hr0 hc0)
inductive FrzV (H:Heap)(S:Nat→Bool):V→V→Prop
 |c (a b:C) (h:FrzC H S a b):FrzV H S (.c a) (.c b)
 |ag (cs cs':List C) (hl:cs'.length=cs.length) (h:∀(j:Nat) (c c':C),cs[j]? = some c→cs'[j]? = some c'→FrzC H S c c'):FrzV H S (.ag cs) (.ag cs')
 |tup (xs xs':List V) (hl:xs'.length=xs.length) (h:∀(j:Nat) (x x':V),xs[j]? = some x→xs'[j]? = some x'→FrzV H S x x'):FrzV H S (.tup xs) (.tup xs')
 |unk (x:V):FrzV H S x .unk
theorem Qadu (hs:Sat H g w){S:Nat→Bool}{x x':V}(h:FrzV H S x x'):∀v,RepV w g x v→RepV w (g.frz H S) x' v:=by
 induction h with
 |c a b h=>
  intro v hv;exact .c _ _ ((Qa4x hs h).1 v hv.c_inv)
 |ag cs cs' hl h=>
  intro v hv
  cases hv with
  |ag _ vs h1 h2=>
   refine .ag cs' vs (by omega) fun j c' u hc' hu=>?_;obtain⟨c,hc⟩:=Qah hl hc';exact (Qa4x hs (h j c c' hc hc')).1 u (h2 j c u hc hu)
 |tup xs xs' hl h ih=>
  intro v hv
  cases hv with
  |tup _ vs h1 h2=>
   refine .tup xs' vs (by omega) fun j x' u hx' hu=>?_;obtain⟨x,hx⟩:=Qah hl hx';exact ih j x x' hx hx' u (h2 j x u hx hu)
 |unk x=>exact fun v _=>.unk v
abbrev frzK (K:V→Heap→Prop):V→Heap→Prop
 |.pn v,H'=>∃S,K (.pn v) (H'.frz S)
 |x,H'=>∃S x',FrzV H' S x x'∧K x' (H'.frz S)
theorem Qbnm {K:V→Heap→Prop}{x:V}{v:Value}(h:frzK K x H)(hr:RepV w g x v):∃S x',FrzV H S x x'∧K x' (H.frz S):=by
 cases hr <;> exact h
theorem Qbho {f:Nat}{args:List V}{K:V→Heap→Prop}(h:Qr P f args H (frzK K)):Qr P f args H K:=by
 refine⟨h.1,fun g w vs hs hl hv=>?_⟩;refine Calls.mono (h.2 g w vs hs hl hv) ?_;rintro e w' (⟨v,x,H',g',he,hx,hst,hr⟩|⟨v,H',g',he,hx,hst⟩)
 ·obtain⟨S,x',hf,hk⟩:=Qbnm hx hr;exact .inl ⟨v,x',H'.frz S,g'.frz H' S,he,hk,hst.trans (Qawi hst.sat S),Qadu hst.sat hf v hr⟩
 ·obtain⟨S,hk⟩:∃S,K (.pn v) (H'.frz S):=hx;exact .inr ⟨v,H'.frz S,g'.frz H' S,he,hk,hst.trans (Qawi hst.sat S)⟩
theorem Qbdn {f:Nat}{args:List V}{K K':V→Heap→Prop}(h:Qr P f args H K)(hk:∀x H',K x H'→K' x H'):Qr P f args H K':=by
 refine⟨h.1,fun g w vs hs hl hv=>?_⟩;refine Calls.mono (h.2 g w vs hs hl hv) ?_;rintro e w' (⟨v,x,H',g',he,hx,hst,hr⟩|⟨v,H',g',he,hx,hst⟩)
 ·exact .inl ⟨v,x,H',g',he,hk x H' hx,hst,hr⟩
 ·exact .inr ⟨v,H',g',he,hk _ H' hx,hst⟩
theorem Qbie {e e':Env}(S:Nat→Bool)(h:∀t,FrzV H S (lk t e) (lk t e')):Qbm3 e H e' (H.frz S):=by
 intro g w tmps hs hr;exact⟨g.frz H S,Qawi hs S,fun t=>Qadu hs (h t) _ (hr t)⟩
def FrzK (H:Heap)(S:Nat→Bool)(c c':C):Prop:=c'=c∨(c.isOw=false∧FrzC H S c c')
inductive FrzO (H:Heap)(S:Nat→Bool):Obj→Obj→Prop
 |same (o:Obj):FrzO H S o o
 |st (cells cells':List C) (hl:cells'.length=cells.length) (h:∀(j:Nat) (c c':C),cells[j]? = some c→cells'[j]? = some c'→FrzK H S c c'):FrzO H S (.st cells) (.st cells')
 |vec (sz:Nat) (rows rows':List (List C)) (hl:rows'.length=rows.length) (hr:∀(i:Nat) (r r':List C),rows[i]? = some r→rows'[i]? = some r'→r'.length=r.length)
   (h:∀(i:Nat) (r r':List C) (j:Nat) (c c':C),rows[i]? = some r→rows'[i]? = some r'→r[j]? = some c→r'[j]? = some c'→FrzK H S c c'):FrzO H S (.vec sz rows) (.vec sz rows')
def FrzH (H:Heap)(S:Nat→Bool)(H':Heap):Prop:=∀m,(S m=true∧H' m=.none)∨(S m=false∧FrzO H S (H m) (H' m))
theorem Qd1 (H:Heap)(S:Nat→Bool):FrzH H S (H.frz S):=fun m=>by
 cases h:S m with
 |true=>exact .inl ⟨rfl,by simp[Heap.frz,h]⟩
 |false=>exact .inr ⟨rfl,by simp[Heap.frz,h];exact .same _⟩
theorem FrzH.set {S:Nat→Bool}{H':Heap}(h:FrzH H S H'){l:Nat}{o:Obj}(hl:S l=false)(ho:FrzO H S (H l) o):FrzH H S (H'.set l o):=fun m=>by
 by_cases hm:m=l
 ·subst hm;rw[Heap.set_same];exact .inr ⟨hl,ho⟩
 ·rw[Heap.set_other _ _ hm];exact h m
theorem Qbc9 (hs:Sat H g w){S:Nat→Bool}{H':Heap}(h:FrzH H S H'):Stp H g w H' (g.frz H S) w:=by
 have h0:=Qawi hs S;have hle:=h0.le;have hkk:∀m,S m=false→Q43 g w (g.frz H S) w m:=fun m hm=>Qs4 (by simp[hm]);have hmv:∀(l:Nat) (p:List Nat) (c c':C) (v:Value),S l=false→FrzK H S c c'→RepO w g l p c v→RepO w (g.frz H S) l p c' v:=by
  intro l p c c' v hl hk hr;rcases hk with rfl|⟨h1,h2⟩
  ·exact hr.move hle fun q b hb=>⟨(hkk l hl b _ hb).1,rfl⟩
  ·exact .plain _ _ _ _ ((Qa4x hs h2).1 v (hr.plain_of fun sz rows hc=>by subst hc;simp[C.isOw]at h1))
 refine⟨hle,fun m hm hn=>?_,⟨h0.sat.fresh,h0.sat.names,h0.sat.excl,h0.sat.named,fun m=>?_⟩⟩
 ·refine⟨?_,Qs4 (by rw[hn];simp[Obj.used])⟩;rcases h m with ⟨_,h1⟩|⟨_,h1⟩
  ·exact h1
  ·rw[hn]at h1;generalize H' m=o at h1;cases h1;rfl
 ·rcases h m with ⟨_,h1⟩|⟨hS,h1⟩
  ·rw[h1];exact trivial
  ·have ho:=hs.objs m;generalize hA:H m=A at h1 ho;generalize hB:H' m=B at h1
   cases h1 with
   |same=>
    have:=SatObj.keep (H':=H') hs hle (hkk m hS) (hB.trans hA.symm) fun m' v left cur hc v' es hv=>?_
    ·rw[hB]at this;exact this
    ·rcases h m' with ⟨_,h2⟩|⟨hS',h2⟩
     ·rw[h2]at hv;simp at hv
     ·rw[hv]at h2;generalize hA':H m'=A' at h2;cases h2;exact .inl ⟨rfl,hkk m' hS'⟩
   |st cells cells' hl hc=>
    obtain⟨b,sz,T,cs,r1,r2,r3,r4,r5⟩:=ho;refine⟨b,sz,T,cs,r1,(hkk m hS b _ r2).1,r3,by rw[hl];exact r4,fun k c' v hc' hv=>?_⟩;obtain⟨c,hc0⟩:=Qah hl hc';exact hmv _ _ c c' v hS (hc k c c' hc0 hc') (r5 k c v hc0 hv)
   |vec sz rows rows' hl hr hc=>
    rcases ho with ⟨r1,r2⟩|⟨b,base,T,cs,val,r1,r2,r3,r4,r5,r6,r7,r8⟩
    ·refine .inl ⟨?_,r2⟩;subst r1;exact Jw.1 hl
    ·refine .inr ⟨b,base,T,cs,val,r1,(hkk m hS b _ r2).1,r3,by rw[hl];exact r4,by rw[hl];exact r5,fun i r' hr'=>?_,fun i r' j c' hr' hc'=>?_,fun i r' j c' hr' hc'=>?_⟩
     ·obtain⟨r,hr0⟩:=Qah hl hr';rw[hr i r r' hr0 hr'];exact r6 i r hr0
     ·obtain⟨r,hr0⟩:=Qah hl hr';obtain⟨c,hc0⟩:=Qah (hr i r r' hr0 hr') hc';exact r7 i r j c hr0 hc0
     ·obtain⟨r,hr0⟩:=Qah hl hr';obtain⟨c,hc0⟩:=Qah (hr i r r' hr0 hr') hc';exact hmv _ _ c c' _ hS (hc i r r' j c c' hr0 hr' hc0 hc') (r8 i r j c hr0 hc0)
abbrev finK (K:V→Heap→Prop):V→Heap→Prop
 |.pn v,H'=>K (.pn v) H'
 |x,H'=>∃S x' H2,FrzV H' S x x'∧FrzH H' S H2∧K x' H2
theorem Qbvy {K:V→Heap→Prop}{x:C}:finK K (.c x) H=∃S x' H2,FrzV H S (.c x) x'∧FrzH H S H2∧K x' H2:=rfl
theorem Qbs7 {K:V→Heap→Prop}{x:List C}:finK K (.ag x) H=∃S x' H2,FrzV H S (.ag x) x'∧FrzH H S H2∧K x' H2:=rfl
theorem Qbnk {K:V→Heap→Prop}{x:List V}:finK K (.tup x) H=∃S x' H2,FrzV H S (.tup x) x'∧FrzH H S H2∧K x' H2:=rfl
theorem Qbs8 {K:V→Heap→Prop}{v:Value}:finK K (.pn v) H=K (.pn v) H:=rfl
attribute [go_sem] Qbvy Qbs7 Qbnk Qbs8
theorem Qbnl {K:V→Heap→Prop}{x:V}{v:Value}(h:finK K x H)(hr:RepV w g x v):∃S x' H2,FrzV H S x x'∧FrzH H S H2∧K x' H2:=by
 cases hr <;> exact h
theorem Qem {f:Nat}{args:List V}{K:V→Heap→Prop}(h:Qr P f args H (finK K)):Qr P f args H K:=by
 refine⟨h.1,fun g w vs hs hl hv=>?_⟩;refine Calls.mono (h.2 g w vs hs hl hv) ?_;rintro e w' (⟨v,x,H',g',he,hx,hst,hr⟩|⟨v,H',g',he,hx,hst⟩)
 ·obtain⟨S,x',H2,hf,hh,hk⟩:=Qbnl hx hr;exact .inl ⟨v,x',H2,g'.frz H' S,he,hk,hst.trans (Qbc9 hst.sat hh),Qadu hst.sat hf v hr⟩
 ·exact .inr ⟨v,H',g',he,hx,hst⟩
theorem Qgc {e e':Env}(S:Nat→Bool){H2:Heap}(h:∀t,FrzV H S (lk t e) (lk t e'))(hh:FrzH H S H2):Qbm3 e H e' H2:=by
 intro g w tmps hs hr;exact⟨g.frz H S,Qbc9 hs hh,fun t=>Qadu hs (h t) _ (hr t)⟩
def un (H:Heap)(m:Nat):Bool:=!(H m).used
theorem Qba8 {m:Nat}(h:H m≠.none):un H m=false:=by
 unfold un;cases hm:H m <;> first|rfl|exact absurd hm h
theorem Qj1 {m:Nat}(h:H m=.none):un H m=true:=by simp[un,h,Obj.used]
theorem Qbib {H':Heap}{m:Nat}(h:H m≠.none):H'.frz (un H) m=H' m:=by simp[Heap.frz,Qba8 h]
def C.plain:C→Bool
 |.int _ _|.bool _|.str _|.sl _ _ _|.pp _|.pnil|.mnil|.fnil|.unk=>true
 |_=>false
theorem Qi {S:Nat→Bool}{c:C}(h:c.plain=true):FrzC H S c c:=.same c (by cases c <;> simp_all[C.plain,C.isOw])
theorem Qasi {S:Nat→Bool}{l sz n:Nat}{rows:List (List C)}(hS:S l=true)(hH:H l=.vec sz rows)(hn:n=rows.length)(hr:∀r∈rows,∀c∈r,c.isOw=false):FrzC H S (.vsl l sz 0 n) (.sl false sz rows):=by
 subst hn;refine .vsl l sz 0 rows.length rows rows rows hS hH (by omega) (by simp) rfl (fun i r r' h1 h2=>by rw[h1]at h2;simp at h2;rw[h2]) (fun i r r' j c c' h1 h2 h3 h4=>?_);rw[h1]at h2;simp at h2;subst h2;rw[h3]at h4;simp at h4;subst h4;exact .same _ (hr r (Ja h1) c (Ja h3))
theorem Q5m {S:Nat→Bool}{fl:Bool}{sz:Nat}{rows:List (List C)}(hr:∀r∈rows,∀c∈r,c.isOw=false):FrzC H S (.sl fl sz rows) (.sl false sz rows):=by
 refine .sl fl sz rows rows rfl (fun i r r' h1 h2=>by rw[h1]at h2;simp at h2;rw[h2]) (fun i r r' j c c' h1 h2 h3 h4=>?_);rw[h1]at h2;simp at h2;subst h2;rw[h3]at h4;simp at h4;subst h4;exact .same _ (hr r (Ja h1) c (Ja h3))
inductive FrzL (H:Heap)(S:Nat→Bool):List C→List C→Prop
 |nil:FrzL H S [] []
 |cons {c c':C} {l l':List C} (h:FrzC H S c c') (t:FrzL H S l l'):FrzL H S (c::l) (c'::l')
theorem FrzL.spec {S:Nat→Bool}{l l':List C}(h:FrzL H S l l'):l'.length=l.length∧∀(j:Nat) (c c':C),l[j]? = some c→l'[j]? = some c'→FrzC H S c c':=by
 induction h with
 |nil=>exact⟨rfl,fun j c c' h=>by simp at h⟩
 |cons h t ih=>
  refine⟨by simp[ih.1],fun j c c' h1 h2=>?_⟩
  cases j with
  |zero=>simp at h1 h2;subst h1;subst h2;exact h
  |succ j=>simp at h1 h2;exact ih.2 j c c' h1 h2
theorem FrzL.ag {S:Nat→Bool}{l l':List C}(h:FrzL H S l l'):FrzV H S (.ag l) (.ag l'):=.ag _ _ h.spec.1 h.spec.2
inductive FrzKL (H:Heap)(S:Nat→Bool):List C→List C→Prop
 |nil:FrzKL H S [] []
 |same {c:C} {l l':List C} (t:FrzKL H S l l'):FrzKL H S (c::l) (c::l')
 |cons {c c':C} {l l':List C} (h:c.isOw=false) (h':FrzC H S c c') (t:FrzKL H S l l'):FrzKL H S (c::l) (c'::l')
theorem FrzKL.st {S:Nat→Bool}{l l':List C}(h:FrzKL H S l l'):FrzO H S (.st l) (.st l'):=by
 have:l'.length=l.length∧∀(j:Nat) (c c':C),l[j]? = some c→l'[j]? = some c'→FrzK H S c c':=by
  induction h with
  |nil=>exact⟨rfl,fun j c c' h=>by simp at h⟩
  |same t ih=>
   refine⟨by simp[ih.1],fun j c c' h1 h2=>?_⟩
   cases j with
   |zero=>simp at h1 h2;subst h1;subst h2;exact .inl rfl
   |succ j=>simp at h1 h2;exact ih.2 j c c' h1 h2
  |cons h h' t ih=>
   refine⟨by simp[ih.1],fun j c c' h1 h2=>?_⟩
   cases j with
   |zero=>simp at h1 h2;subst h1;subst h2;exact .inr ⟨h,h'⟩
   |succ j=>simp at h1 h2;exact ih.2 j c c' h1 h2
 exact .st _ _ this.1 this.2
end Go.AE
namespace Go.AE
variable {P:Program}{H0 H H':Heap}{E L:List (Nat×Obj)}
structure Kn (H0 H:Heap)(E L:List (Nat×Obj)):Prop where
 get:∀p∈E++L,H p.1=p.2∧p.2≠.none
 ext:∀p∈E,H0 p.1≠.none
 loc:∀p∈L,H0 p.1=.none
 dE:(E.map Prod.fst).Nodup
 dL:(L.map Prod.fst).Nodup
 chg:∀m,H0 m≠.none→m∉E.map Prod.fst→H m=H0 m
def Upd (H H':Heap)(U:List (Nat×Obj)):Prop:=(∀p∈U,H' p.1=p.2)∧∀m,H m≠.none→m∉U.map Prod.fst→H' m=H m
theorem Kn.start0 (H:Heap):Kn H H [] []:=⟨by simp,by simp,by simp,by simp,by simp,fun _ _ _=>rfl⟩
theorem Kn.start1 {l:Nat}{o:Obj}(h:H l=o)(ho:o≠.none):Kn H H [(l,o)] []:=
 ⟨by simp[h,ho],by simp[h,ho],by simp,by simp,by simp,fun _ _ _=>rfl⟩
theorem Kn.start2 {l m:Nat}{o q:Obj}(h:H l=o)(ho:o≠.none)(h2:H m=q)(hq:q≠.none)(hn:l≠m):Kn H H [(l,o),(m,q)] []:=
 ⟨by simp[h,ho,h2,hq],by simp[h,ho,h2,hq],by simp,by simp[hn],by simp,fun _ _ _=>rfl⟩
theorem Kn.e (hk:Kn H0 H E L)(i:Nat){l:Nat}{o:Obj}(h:E[i]? = some (l,o)):H l=o:=
 (hk.get (l,o) (Jc _ (Ja h))).1
theorem Kn.l (hk:Kn H0 H E L)(i:Nat){l:Nat}{o:Obj}(h:L[i]? = some (l,o)):H l=o:=
 (hk.get (l,o) (Jd _ (Ja h))).1
theorem Kn.free (hk:Kn H0 H E L)(i:Nat){l:Nat}{o:Obj}(h:L[i]? = some (l,o)):H0 l=.none:=hk.loc (l,o) (Ja h)
theorem Kn.un (hk:Kn H0 H E L)(i:Nat){l:Nat}{o:Obj}(h:L[i]? = some (l,o)):un H0 l=true:=Qj1 (hk.free i h)
theorem Kn.usedE (hk:Kn H0 H E L)(i:Nat){l:Nat}{o:Obj}(h:E[i]? = some (l,o)):H0 l≠.none:=hk.ext (l,o) (Ja h)
theorem Kn.ne (hk:Kn H0 H E L)(i j:Nat){l m:Nat}{o q:Obj}(h:E[i]? = some (l,o))(h2:L[j]? = some (m,q)):l≠m:=fun hh=>by
 subst hh;exact hk.usedE i h (hk.free j h2)
theorem Qa6 {L:List (Nat×Obj)}{p:Nat×Obj}(h:p∈L):p.1∈L.map Prod.fst:=List.mem_map_of_mem h
theorem Qdd {L:List (Nat×Obj)}(hd:(L.map Prod.fst).Nodup){i j:Nat}{p q:Nat×Obj}(hi:L[i]? = some p)(hj:L[j]? = some q)(h:p.1=q.1):i=j:=by
 have h1:(L.map Prod.fst)[i]? = some p.1:=by simp[hi]
 have h2:(L.map Prod.fst)[j]? = some q.1:=by simp[hj]
 have hlt:i<(L.map Prod.fst).length:=(Jt.1 h1).1;exact (List.getElem?_inj hlt hd).1 (by rw[h1,h2,h])
theorem Kn.neL (hk:Kn H0 H E L)(i j:Nat){l m:Nat}{o q:Obj}(h:L[i]? = some (l,o))(h2:L[j]? = some (m,q))(hij:i≠j):l≠m:=fun hh=>
 hij (Qdd hk.dL h h2 hh)
theorem Kn.newFree (hk:Kn H0 H E L){x:Nat}(hx:H x=.none):H0 x=.none∧x∉E.map Prod.fst∧x∉L.map Prod.fst:=by
 have hno:∀p∈E++L,p.1≠x:=fun p hp hh=>by
  obtain⟨h1,h2⟩:=hk.get p hp;rw[hh,hx]at h1;exact h2 h1.symm
 have hE:x∉E.map Prod.fst:=fun h=>by
  obtain⟨p,hp,hh⟩:=Jj.1 h;exact hno p (Jc _ hp) hh
 refine⟨?_,hE,fun h=>?_⟩
 ·cases h0:H0 x with
  |none=>rfl
  |_=>have:=hk.chg x (by rw[h0];simp) hE;rw[hx,h0]at this;simp at this
 ·obtain⟨p,hp,hh⟩:=Jj.1 h;exact hno p (Jd _ hp) hh
theorem Kn.alloc (hk:Kn H0 H E L){x:Nat}{o:Obj}(hx:H x=.none)(ho:o≠.none):Kn H0 (H.set x o) E (L++[(x,o)]):=by
 obtain⟨h1,h2,h3⟩:=hk.newFree hx;refine⟨fun p hp=>?_,hk.ext,fun p hp=>?_,hk.dE,?_,fun m hm hn=>?_⟩
 ·rw[←Jk]at hp;rcases Jb.1 hp with hp|hp
  ·have:p.1≠x:=fun hh=>by
    rcases Jb.1 hp with hp|hp
    ·exact h2 (hh▸Qa6 hp)
    ·exact h3 (hh▸Qa6 hp)
   rw[Heap.set_other _ _ this];exact hk.get p hp
  ·simp at hp;subst hp;exact⟨Heap.set_same _ _ _,ho⟩
 ·rcases Jb.1 hp with hp|hp
  ·exact hk.loc p hp
  ·simp at hp;subst hp;exact h1
 ·rw[Jm];refine Ji.2 ⟨hk.dL,by simp,fun a ha b hb=>?_⟩;simp at hb;subst hb;exact fun hh=>h3 (hh▸ha)
 ·have:m≠x:=fun hh=>by subst hh;exact hm h1
  rw[Heap.set_other _ _ this];exact hk.chg m hm hn
theorem Qb7 {L:List (Nat×Obj)}{i:Nat}{x:Nat}{o o':Obj}(h:L[i]? = some (x,o)):(L.set i (x,o')).map Prod.fst=L.map Prod.fst:=by
 rw[J8];refine List.ext_getElem? fun j=>?_;rw[J5];split
 ·rename_i hij
  subst hij;have hlt:=(Jt.1 h).1;rw[if_pos (by simpa using hlt)];simp[h]
 ·rfl
theorem Qbl {α:Type}{L:List α}{i:Nat}{x p:α}(h:p∈L.set i x):p=x∨∃j,j≠i∧L[j]? = some p:=by
 obtain⟨j,hj⟩:=List.getElem?_of_mem h;rw[J5]at hj;split at hj
 ·split at hj
  ·simp at hj;exact .inl hj.symm
  ·simp at hj
 ·rename_i hn;exact .inr ⟨j,fun h=>hn h.symm,hj⟩
theorem Kn.setL (hk:Kn H0 H E L)(i:Nat){x:Nat}{o o':Obj}(h:L[i]? = some (x,o))(ho:o'≠.none):Kn H0 (H.set x o') E (L.set i (x,o')):=by
 have hf:=hk.free i h;refine⟨fun p hp=>?_,hk.ext,fun p hp=>?_,hk.dE,by rw[Qb7 h];exact hk.dL,fun m hm hn=>?_⟩
 ·rcases Jb.1 hp with hp|hp
  ·have:p.1≠x:=fun hh=>hk.ext p hp (hh▸hf);rw[Heap.set_other _ _ this];exact hk.get p (Jc _ hp)
  ·rcases Qbl hp with rfl|⟨j,hj,hp⟩
   ·exact⟨Heap.set_same _ _ _,ho⟩
   ·have:p.1≠x:=fun hh=>hj (Qdd hk.dL hp h hh);rw[Heap.set_other _ _ this];exact hk.get p (Jd _ (Ja hp))
 ·rcases Qbl hp with rfl|⟨j,hj,hp⟩
  ·exact hf
  ·exact hk.loc p (Ja hp)
 ·have:m≠x:=fun hh=>by subst hh;exact hm hf
  rw[Heap.set_other _ _ this];exact hk.chg m hm hn
theorem Kn.setE (hk:Kn H0 H E L)(i:Nat){x:Nat}{o o':Obj}(h:E[i]? = some (x,o))(ho:o'≠.none):Kn H0 (H.set x o') (E.set i (x,o')) L:=by
 have hf:=hk.usedE i h;refine⟨fun p hp=>?_,fun p hp=>?_,hk.loc,by rw[Qb7 h];exact hk.dE,hk.dL,fun m hm hn=>?_⟩
 ·rcases Jb.1 hp with hp|hp
  ·rcases Qbl hp with rfl|⟨j,hj,hp⟩
   ·exact⟨Heap.set_same _ _ _,ho⟩
   ·have:p.1≠x:=fun hh=>hj (Qdd hk.dE hp h hh);rw[Heap.set_other _ _ this];exact hk.get p (Jc _ (Ja hp))
  ·have:p.1≠x:=fun hh=>hf (hh▸hk.loc p hp);rw[Heap.set_other _ _ this];exact hk.get p (Jd _ hp)
 ·rcases Qbl hp with rfl|⟨j,hj,hp⟩
  ·exact hf
  ·exact hk.ext p (Ja hp)
 ·rw[Qb7 h]at hn;have:m≠x:=fun hh=>by subst hh;exact hn (Qa6 (p:=(m,o)) (Ja h))
  rw[Heap.set_other _ _ this];exact hk.chg m hm hn
theorem Kn.app (hk:Kn H0 H E L)(i:Nat){y y':Nat}{o o':Obj}(h:L[i]? = some (y,o))(hy:(H.set y .none) y'=.none)(ho:o'≠.none) :
  Kn H0 ((H.set y .none).set y' o') E (L.set i (y',o')):=by
 have hf:=hk.free i h;have hyf:H0 y'=.none∧y'∉E.map Prod.fst∧∀(j:Nat) (p:Nat×Obj),j≠i→L[j]? = some p→p.1≠y':=by
  by_cases hyy:y'=y
  ·subst hyy;refine⟨hf,fun hh=>?_,fun j p hj hp hh=>hj (Qdd hk.dL hp h hh)⟩;obtain⟨p,hp,hh⟩:=Jj.1 hh;exact hk.ext p hp (hh▸hf)
  ·rw[Heap.set_other _ _ hyy]at hy;obtain⟨h1,h2,h3⟩:=hk.newFree hy;exact⟨h1,h2,fun j p hj hp hh=>h3 (hh▸Qa6 (Ja hp))⟩
 obtain⟨h1,h2,h3⟩:=hyf;refine⟨fun p hp=>?_,hk.ext,fun p hp=>?_,hk.dE,?_,fun m hm hn=>?_⟩
 ·rcases Jb.1 hp with hp|hp
  ·have a1:p.1≠y:=fun hh=>hk.ext p hp (hh▸hf);have a2:p.1≠y':=fun hh=>hk.ext p hp (hh▸h1);rw[Heap.set_other _ _ a2,Heap.set_other _ _ a1];exact hk.get p (Jc _ hp)
  ·rcases Qbl hp with rfl|⟨j,hj,hp⟩
   ·exact⟨Heap.set_same _ _ _,ho⟩
   ·have a1:p.1≠y:=fun hh=>hj (Qdd hk.dL hp h hh);rw[Heap.set_other _ _ (h3 j p hj hp),Heap.set_other _ _ a1];exact hk.get p (Jd _ (Ja hp))
 ·rcases Qbl hp with rfl|⟨j,hj,hp⟩
  ·exact h1
  ·exact hk.loc p (Ja hp)
 ·rw[J8];refine Jad.2 fun a b ha hb hab=>?_;rw[List.length_set,J3]at ha hb;have gl:∀(j:Nat) (hj:j<L.length),j≠i→L[j].1≠y':=fun j hj hji=>h3 j L[j] hji (Jv hj);have hd:=Jad.1 hk.dL a b (by simpa using ha) (by simpa using hb) hab;simp only[J9,List.getElem_map]at hd⊢;by_cases e1:i=a
  ·subst e1;rw[if_pos rfl,if_neg (by omega)];exact fun hh=>gl b hb (by omega) hh.symm
  ·rw[if_neg e1];by_cases e2:i=b
   ·subst e2;rw[if_pos rfl];exact gl a ha (by omega)
   ·rw[if_neg e2];exact hd
 ·have a1:m≠y:=fun hh=>by subst hh;exact hm hf
  have a2:m≠y':=fun hh=>by subst hh;exact hm h1
  rw[Heap.set_other _ _ a2,Heap.set_other _ _ a1];exact hk.chg m hm hn
theorem Kn.callg (hk:Kn H0 H E L){U E2 L2:List (Nat×Obj)}(hu:Upd H H' U)(hE:E2.map Prod.fst=E.map Prod.fst)(hL:L2.map Prod.fst=L.map Prod.fst)
  (h:∀p∈E2++L2,p.2≠.none∧(p∈U∨(p∈E++L∧p.1∉U.map Prod.fst))) (hU:∀u∈U,u.1∈E.map Prod.fst∨u.1∈L.map Prod.fst):Kn H0 H' E2 L2:=by
 have hin:∀{A B:List (Nat×Obj)} {p:Nat×Obj},B.map Prod.fst=A.map Prod.fst→p∈B→∃q∈A,q.1=p.1:=fun hAB hp=>by
  have:=Qa6 hp;rw[hAB]at this;obtain⟨q,h1,h2⟩:=Jj.1 this;exact⟨q,h1,h2⟩
 refine⟨fun p hp=>?_,fun p hp=>?_,fun p hp=>?_,by rw[hE];exact hk.dE,by rw[hL];exact hk.dL,fun m hm hn=>?_⟩
 ·obtain⟨h1,h2⟩:=h p hp;refine⟨?_,h1⟩;rcases h2 with h2|⟨h2,h3⟩
  ·exact hu.1 p h2
  ·obtain⟨a1,a2⟩:=hk.get p h2;rw[hu.2 p.1 (by rw[a1];exact a2) h3,a1]
 ·obtain⟨q,hq,hh⟩:=hin hE hp;rw[←hh];exact hk.ext q hq
 ·obtain⟨q,hq,hh⟩:=hin hL hp;rw[←hh];exact hk.loc q hq
 ·rw[hE]at hn;have h0:=hk.chg m hm hn;rw[hu.2 m (by rw[h0];exact hm) (fun hh=>?_),h0];obtain⟨u,hu1,hu2⟩:=Jj.1 hh;rcases hU u hu1 with a|a
  ·exact hn (hu2▸a)
  ·obtain⟨q,hq,hh⟩:=Jj.1 a;exact hm (by rw[←hu2,←hh];exact hk.loc q hq)
theorem Kn.call0 (hk:Kn H0 H E L)(hu:Upd H H' []):Kn H0 H' E L:=hk.callg hu rfl rfl (fun p hp=>⟨(hk.get p hp).2,.inr ⟨hp,by simp⟩⟩) (by simp)
theorem Kn.callE (hk:Kn H0 H E L)(i:Nat){l:Nat}{o o':Obj}(h:E[i]? = some (l,o))(hu:Upd H H' [(l,o')])(ho:o'≠.none):Kn H0 H' (E.set i (l,o')) L:=by
 refine hk.callg hu (Qb7 h) rfl (fun p hp=>?_) (fun u hu=>by simp at hu;subst hu;exact .inl (Qa6 (p:=(l,o)) (Ja h)));rcases Jb.1 hp with hp|hp
 ·rcases Qbl hp with rfl|⟨j,hj,hp⟩
  ·exact⟨ho,.inl (by simp)⟩
  ·have hm:=Jc L (Ja hp);exact⟨(hk.get p hm).2,.inr ⟨hm,by simp;exact fun hh=>hj (Qdd hk.dE hp h hh)⟩⟩
 ·have hm:=Jd E hp;exact⟨(hk.get p hm).2,.inr ⟨hm,by simp;exact fun hh=>hk.usedE i h (hh▸hk.loc p hp)⟩⟩
theorem Kn.callL (hk:Kn H0 H E L)(i:Nat){l:Nat}{o o':Obj}(h:L[i]? = some (l,o))(hu:Upd H H' [(l,o')])(ho:o'≠.none):Kn H0 H' E (L.set i (l,o')):=by
 refine hk.callg hu rfl (Qb7 h) (fun p hp=>?_) (fun u hu=>by simp at hu;subst hu;exact .inr (Qa6 (p:=(l,o)) (Ja h)));rcases Jb.1 hp with hp|hp
 ·have hm:=Jc L hp;exact⟨(hk.get p hm).2,.inr ⟨hm,by simp;exact fun hh=>hk.ext p hp (hh▸hk.free i h)⟩⟩
 ·rcases Qbl hp with rfl|⟨j,hj,hp⟩
  ·exact⟨ho,.inl (by simp)⟩
  ·have hm:=Jd E (Ja hp);exact⟨(hk.get p hm).2,.inr ⟨hm,by simp;exact fun hh=>hj (Qdd hk.dL hp h hh)⟩⟩
theorem Kn.callEE (hk:Kn H0 H E L)(i j:Nat){l m:Nat}{o o' q q':Obj}(h:E[i]? = some (l,o))(h2:E[j]? = some (m,q))(hij:i≠j)(hu:Upd H H' [(l,o'),(m,q')])(ho:o'≠.none)(hq:q'≠.none) :
  Kn H0 H' ((E.set i (l,o')).set j (m,q')) L:=by
 have h2':(E.set i (l,o'))[j]? = some (m,q):=by rw[J5];rw[if_neg hij];exact h2
 refine hk.callg hu ((Qb7 h2').trans (Qb7 h)) rfl (fun p hp=>?_) (fun u hu=>?_)
 ·rcases Jb.1 hp with hp|hp
  ·rcases Qbl hp with rfl|⟨b,hb,hp⟩
   ·exact⟨hq,.inl (by simp)⟩
   ·rcases Qbl (Ja hp)with rfl|⟨c,hc,hp'⟩
    ·exact⟨ho,.inl (by simp)⟩
    ·have hm:=Jc L (Ja hp');rw[J5]at hp;split at hp
     ·rename_i hib
      split at hp
      ·simp at hp;subst hp;exact⟨ho,.inl (by simp)⟩
      ·simp at hp
     ·rename_i hib
      refine⟨(hk.get p hm).2,.inr ⟨hm,?_⟩⟩;simp only[Jq,J7,Jg,Jaa,or_false,not_or];exact⟨fun hh=>hib (Qdd hk.dE hp h hh).symm,fun hh=>hb (Qdd hk.dE hp h2 hh)⟩
  ·have hm:=Jd E hp;refine⟨(hk.get p hm).2,.inr ⟨hm,?_⟩⟩;simp only[Jq,J7,Jg,Jaa,or_false,not_or];exact⟨fun hh=>hk.usedE i h (hh▸hk.loc p hp),fun hh=>hk.usedE j h2 (hh▸hk.loc p hp)⟩
 ·simp at hu;rcases hu with rfl|rfl
  ·exact .inl (Qa6 (p:=(l,o)) (Ja h))
  ·exact .inl (Qa6 (p:=(m,q)) (Ja h2))
theorem Kn.fin (hk:Kn H0 H E L):Upd H0 (H.frz (Go.AE.un H0)) E:=by
 refine⟨fun p hp=>?_,fun m hm hn=>?_⟩
 ·rw[Qbib (hk.ext p hp)];exact (hk.get p (Jc _ hp)).1
 ·rw[Qbib hm];exact hk.chg m hm hn
abbrev unK (H:Heap)(K:V→Heap→Prop):V→Heap→Prop
 |.pn v,H'=>K (.pn v) (H'.frz (un H))
 |x,H'=>∃x',FrzV H' (un H) x x'∧K x' (H'.frz (un H))
theorem Qbyj {K:V→Heap→Prop}{H0:Heap}{x:C}:unK H0 K (.c x) H=∃x',FrzV H (un H0) (.c x) x'∧K x' (H.frz (un H0)):=rfl
theorem Qbw9 {K:V→Heap→Prop}{H0:Heap}{x:List C}:unK H0 K (.ag x) H=∃x',FrzV H (un H0) (.ag x) x'∧K x' (H.frz (un H0)):=rfl
theorem Qbu3 {K:V→Heap→Prop}{H0:Heap}{x:List V}:unK H0 K (.tup x) H=∃x',FrzV H (un H0) (.tup x) x'∧K x' (H.frz (un H0)):=rfl
theorem Qbu4 {K:V→Heap→Prop}{H0:Heap}:unK H0 K .unk H=∃x',FrzV H (un H0) .unk x'∧K x' (H.frz (un H0)):=rfl
theorem Qbxa {K:V→Heap→Prop}{H0:Heap}{v:Value}:unK H0 K (.pn v) H=K (.pn v) (H.frz (un H0)):=rfl
attribute [go_sem] Qbyj Qbw9 Qbu3 Qbu4 Qbxa
theorem Q3 {f:Nat}{args:List V}{K:V→Heap→Prop}(h:Qr P f args H (unK H K)):Qr P f args H K:=
 Qbho (Qbdn h fun x H' hx=>by
  cases x with
  |pn v=>exact⟨un H,hx⟩
  |_=>
   obtain⟨x',h1,h2⟩:=hx;exact⟨un H,x',h1,h2⟩)
theorem Kn.al (hk:Kn H0 H E L){x:Nat}{o:Obj}(hx:H x=.none)(h1:H'=H.set x o)(ho:o≠.none:=by nofun):Kn H0 H' E (L++[(x,o)]):=h1▸hk.alloc hx ho
theorem Kn.stL (hk:Kn H0 H E L)(i:Nat){x:Nat}{o o':Obj}(h:L[i]? = some (x,o))(h1:H'=H.set x o')(ho:o'≠.none:=by nofun):Kn H0 H' E (L.set i (x,o')):=h1▸hk.setL i h ho
theorem Kn.stE (hk:Kn H0 H E L)(i:Nat){x:Nat}{o o':Obj}(h:E[i]? = some (x,o))(h1:H'=H.set x o')(ho:o'≠.none:=by nofun):Kn H0 H' (E.set i (x,o')) L:=h1▸hk.setE i h ho
theorem Kn.ap (hk:Kn H0 H E L)(i:Nat){y y':Nat}{o o':Obj}(h:L[i]? = some (y,o))(hy:(H.set y .none) y'=.none)(h1:H'=(H.set y .none).set y' o')(ho:o'≠.none:=by nofun):Kn H0 H' E (L.set i (y',o')):=h1▸hk.app i h hy ho
end Go.AE
namespace Go.AE.Y
theorem Qs {x:Int}(h1:-(2^63)≤x)(h2:x<2^63):inR .i64 x:=by
 unfold inR;have a1:IntKind.min .i64=-(2^63):=by decide
 have a2:IntKind.max .i64=2^63-1:=by decide
 rw[a1,a2];omega
theorem Qh4 (b:UInt8):inR .i64 (b.toNat:Int):=Qs (by omega) (by have:=b.toNat_lt;omega)
def Qbs (bs:List UInt8):List (List C):=bs.map fun b=>[.int .u8 b.toNat]
theorem Qa0 (bs:List UInt8):(Qbs bs).length=bs.length:=by simp[Qbs]
theorem Q73 (bs:List UInt8)(i:Nat)(h:i<bs.length):(Qbs bs).getD i []=[.int .u8 (bs.getD i 0).toNat]:=by
 simp[Qbs,Je,h]
theorem Qbvb {a b:Int}(ha:0≤a)(hb:0≤b)(ha':a<2^62)(hb':b<2^62):0≤Qbdr .xor .i64 a b:=by
 obtain⟨m,rfl⟩:=Jaf ha;obtain⟨n,rfl⟩:=Jaf hb;have hm:m<2^62:=by omega
 have hn:n<2^62:=by omega
 have hx:m ^^^ n<2^62:=Nat.xor_lt_two_pow hm hn;have h1:(BitVec.ofInt (IntKind.bits .i64) (m:Int) ^^^ BitVec.ofInt (IntKind.bits .i64) (n:Int)).toNat=m ^^^ n:=by
  have hb:IntKind.bits .i64=64:=rfl;rw[hb,BitVec.toNat_xor];have e1:(BitVec.ofInt 64 (m:Int)).toNat=m:=by simp;omega
  have e2:(BitVec.ofInt 64 (n:Int)).toNat=n:=by simp;omega
  rw[e1,e2]
 simp only[Qbdr];rw[h1];simp only[IntKind.wrap];have hb:IntKind.bits .i64=64:=rfl;have hm:((m ^^^ n:Nat):Int) % 2 ^ 64=(m ^^^ n:Nat):=Int.emod_eq_of_lt (by omega) (by omega);rw[hb,hm];rw[if_neg]
 ·omega
 ·simp only[Jl,decide_eq_true_eq,not_and];intro _;omega
structure Rdr where
 l:Nat
 fl:Bool
 bs:List UInt8
def Rdr.o (R:Rdr)(k:Nat):Obj:=.st [.sl R.fl 1 (Qbs R.bs),.int .i64 k]
theorem Rdr.o_ne (R:Rdr)(k:Nat):R.o k≠.none:=by simp[Rdr.o]
def Qb (ns:List Int):List (List C):=ns.map fun n=>[.int .i64 n]
theorem Qf (ns:List Int):(Qb ns).length=ns.length:=by simp[Qb]
theorem Qu (ns:List Int)(i:Nat)(h:i<ns.length):(Qb ns).getD i []=[.int .i64 (ns.getD i 0)]:=by
 simp[Qb,Je,h]
theorem Qb1 (a b:List Int):Qb (a++b)=Qb a++Qb b:=by simp[Qb]
theorem Qz (ns:List Int):∀r∈Qb ns,noOw r=true:=by
 intro r hr;simp[Qb]at hr;obtain⟨n,_,rfl⟩:=hr;rfl
def Qbu (ss:List (List UInt8)):List (List C):=ss.map fun s=>[.str s]
theorem Qaz (ss:List (List UInt8)):(Qbu ss).length=ss.length:=by simp[Qbu]
theorem Qjy (ss:List (List UInt8))(i:Nat)(h:i<ss.length):(Qbu ss).getD i []=[.str (ss.getD i [])]:=by
 simp[Qbu,Je,h]
theorem Qar2:Qbu []=[]:=rfl
theorem Qba5 (a:List (List UInt8))(n:List UInt8):Qbu a++[[.str n]]=Qbu (a++[n]):=by simp[Qbu]
theorem Qo1 (ns:List (List UInt8)):∀r∈Qbu ns,noOw r=true:=by
 intro r hr;simp[Qbu]at hr;obtain⟨n,_,rfl⟩:=hr;rfl
theorem noOw_mem {rows:List (List C)}(h:∀r∈rows,noOw r=true):∀r∈rows,∀c∈r,c.isOw=false:=fun r hr c hc=>by
 have:=h r hr;simp only[noOw,Jar]at this;simpa using this c hc
theorem Qbpm {a b:List (List C)}(ha:∀r∈a,noOw r=true)(hb:∀r∈b,noOw r=true):∀r∈a++b,noOw r=true:=fun r hr=>by
 rcases Jb.1 hr with h|h
 ·exact ha r h
 ·exact hb r h
inductive Ex where
 |mk (op n:Int) (name:List UInt8) (kids:List Ex)
def Ex.op:Ex→Int|.mk op _ _ _=>op
def Ex.n:Ex→Int|.mk _ n _ _=>n
def Ex.name:Ex→List UInt8|.mk _ _ s _=>s
def Ex.kids:Ex→List Ex|.mk _ _ _ k=>k
mutual
def Ex.cells:Ex→List C
 |.mk op n name kids=>[.int .i64 op,.int .i64 n,.str name,.sl false 4 (Qbz kids)]
def Qbz:List Ex→List (List C)
 |[]=>[]
 |x::r=>x.cells::Qbz r
end
theorem Ex.cells_eq (x:Ex):x.cells=[.int .i64 x.op,.int .i64 x.n,.str x.name,.sl false 4 (Qbz x.kids)]:=by
 cases x;simp[Ex.cells,Ex.op,Ex.n,Ex.name,Ex.kids]
theorem Q2j (l:List Ex):Qbz l=l.map Ex.cells:=by
 induction l with
 |nil=>simp[Qbz]
 |cons x r ih=>simp[Qbz,ih]
theorem Qba (l:List Ex):(Qbz l).length=l.length:=by simp[Q2j]
theorem Qf7 (l:List Ex)(i:Nat)(h:i<l.length):(Qbz l).getD i []=(l[i]'h).cells:=by
 simp[Q2j,Je,h]
theorem Qbd3 (a:List Ex)(x:Ex):Qbz a++[x.cells]=Qbz (a++[x]):=by simp[Q2j]
theorem Ex.noOw (x:Ex):Go.AE.noOw x.cells=true:=by rw[x.cells_eq];rfl
theorem Ql0 (l:List Ex):∀r∈Qbz l,Go.AE.noOw r=true:=by
 intro r hr;rw[Q2j]at hr;obtain⟨x,_,rfl⟩:=Jj.1 hr;exact x.noOw
theorem Ex.cells_len (x:Ex):x.cells.length=4:=by rw[x.cells_eq];rfl
mutual
def Ex.size:Ex→Nat
 |.mk _ _ _ kids=>1+Qan kids
def Qan:List Ex→Nat
 |[]=>0
 |x::r=>x.size+Qan r
end
mutual
def Ex.ok:Ex→Prop
 |.mk op _ _ kids=>(op=10→kids.length=2)∧Qep kids
def Qep:List Ex→Prop
 |[]=>True
 |x::r=>x.ok∧Qep r
end
theorem Qaee {l:List Ex}(h:Qep l):∀x∈l,x.ok:=by
 induction l with
 |nil=>simp
 |cons y r ih=>
  simp only[Qep]at h;intro x hx;rcases Jg.1 hx with rfl|hx
  ·exact h.1
  ·exact ih h.2 x hx
theorem Qbh5 {a b:List Ex}(ha:Qep a)(hb:Qep b):Qep (a++b):=by
 induction a with
 |nil=>exact hb
 |cons x r ih=>simp only[Qep]at ha;exact⟨ha.1,ih ha.2⟩
theorem Q0u (a b:List Ex):Qan (a++b)=Qan a+Qan b:=by
 induction a with
 |nil=>simp[Qan]
 |cons x r ih=>simp[Qan,ih];omega
theorem Ex.size_pos (x:Ex):1≤x.size:=by cases x;simp[Ex.size]
theorem Qf8 {l:List Ex}{x:Ex}(h:x∈l):x.size≤Qan l:=by
 induction l with
 |nil=>simp at h
 |cons y r ih=>
  simp only[Qan];rcases Jg.1 h with rfl|h
  ·omega
  ·have:=ih h;omega
theorem Ex.size_kids (x:Ex):x.size=1+Qan x.kids:=by cases x;simp[Ex.size,Ex.kids]
theorem Ex.ok_kids {x:Ex}(h:x.ok):Qep x.kids:=by cases x;simp only[Ex.ok]at h;exact h.2
theorem Ex.ok_and {x:Ex}(h:x.ok)(h1:x.op=10):x.kids.length=2:=by cases x;simp only[Ex.ok]at h;exact h.1 h1
theorem Ex.frz {H:Heap}{S:Nat→Bool}{fl:Bool}(x:Ex):FrzV H S (.ag [.int .i64 x.op,.int .i64 x.n,.str x.name,.sl fl 4 (Qbz x.kids)]) (.ag x.cells):=by
 rw[x.cells_eq];exact (FrzL.cons (Qi rfl) (FrzL.cons (Qi rfl) (FrzL.cons (Qi rfl) (FrzL.cons (Q5m (noOw_mem (Ql0 _))) FrzL.nil)))).ag
variable {H:Heap}{S:Nat→Bool}
inductive FrzR (H:Heap)(S:Nat→Bool):List (List C)→List (List C)→Prop
 |nil:FrzR H S [] []
 |cons {r r':List C} {l l':List (List C)} (h:FrzL H S r r') (t:FrzR H S l l'):FrzR H S (r::l) (r'::l')
theorem FrzR.spec {l l':List (List C)}(h:FrzR H S l l'):l'.length=l.length∧∀(i:Nat) (r r':List C),l[i]? = some r→l'[i]? = some r'→FrzL H S r r':=by
 induction h with
 |nil=>exact⟨rfl,fun j c c' h=>by simp at h⟩
 |cons h t ih=>
  refine⟨by simp[ih.1],fun j c c' h1 h2=>?_⟩
  cases j with
  |zero=>simp at h1 h2;subst h1;subst h2;exact h
  |succ j=>simp at h1 h2;exact ih.2 j c c' h1 h2
theorem FrzR.sl {fl:Bool}{sz:Nat}{l l':List (List C)}(h:FrzR H S l l'):FrzC H S (.sl fl sz l) (.sl false sz l'):=
 .sl fl sz l l' h.spec.1 (fun i r r' h1 h2=>(h.spec.2 i r r' h1 h2).spec.1) fun i r r' j c c' h1 h2 h3 h4=>(h.spec.2 i r r' h1 h2).spec.2 j c c' h3 h4
theorem FrzR.vsl {l sz n:Nat}{rows rows':List (List C)}(hS:S l=true)(hH:H l=.vec sz rows)(hn:n=rows.length)(h:FrzR H S rows rows'):FrzC H S (.vsl l sz 0 n) (.sl false sz rows'):=by
 subst hn;exact .vsl l sz 0 rows.length rows rows rows' hS hH (by omega) (by simp) h.spec.1 (fun i r r' h1 h2=>(h.spec.2 i r r' h1 h2).spec.1) fun i r r' j c c' h1 h2 h3 h4=>(h.spec.2 i r r' h1 h2).spec.2 j c c' h3 h4
end Go.AE.Y
namespace Go.AE
open Go.AE.Y
variable {H:Heap}{S:Nat→Bool}
theorem FrzL.same {l:List C}(h:noOw l=true):FrzL H S l l:=by
 induction l with
 |nil=>exact .nil
 |cons c r ih=>
  simp only[noOw,J2,Jl,Jae]at h ih;exact .cons (.same _ h.1) (ih (by simpa using h.2))
end Go.AE
namespace Go.AE.Y
variable {H:Heap}{S:Nat→Bool}
theorem FrzR.same {l:List (List C)}(h:∀r∈l,noOw r=true):FrzR H S l l:=by
 induction l with
 |nil=>exact .nil
 |cons c r ih=>exact .cons (.same (h _ J0)) (ih fun x hx=>h x (Ju _ hx))
theorem FrzR.app {a a' b b':List (List C)}(h:FrzR H S a a')(k:FrzR H S b b'):FrzR H S (a++b) (a'++b'):=by
 induction h with
 |nil=>exact k
 |cons h t ih=>exact .cons h ih
end Go.AE.Y
namespace Go.AE
open Go.AE.Y
variable {H:Heap}{S:Nat→Bool}
theorem Upd.set2 {H H':Heap}{a b:Nat}{oa ob o:Obj}(h:Upd H H' [(a,oa),(b,ob)])(hn:a≠b):Upd H (H'.set b o) [(a,oa),(b,o)]:=by
 refine⟨fun p hp=>?_,fun m hm hx=>?_⟩
 ·simp at hp;rcases hp with rfl|rfl
  ·show (H'.set b o) a=oa;rw[Heap.set_other _ _ hn];exact h.1 (a,oa) (by simp)
  ·exact Heap.set_same _ _ _
 ·have:m≠b:=by simp at hx;exact hx.2
  rw[Heap.set_other _ _ this];exact h.2 m hm (by simpa using hx)
end Go.AE
namespace Go.AE.Y
variable {H:Heap}{S:Nat→Bool}
inductive St where
 |mk (op:Int) (name:List UInt8) (args:List Ex) (body els:List St)
def St.op:St→Int|.mk op _ _ _ _=>op
def St.name:St→List UInt8|.mk _ s _ _ _=>s
def St.args:St→List Ex|.mk _ _ a _ _=>a
def St.body:St→List St|.mk _ _ _ b _=>b
def St.els:St→List St|.mk _ _ _ _ e=>e
mutual
def St.cells:St→List C
 |.mk op name args body els=>[.int .i64 op,.str name,.sl false 4 (Qbz args),.sl false 5 (Qa7 body),.sl false 5 (Qa7 els)]
def Qa7:List St→List (List C)
 |[]=>[]
 |x::r=>x.cells::Qa7 r
end
theorem St.cells_eq (x:St):x.cells=[.int .i64 x.op,.str x.name,.sl false 4 (Qbz x.args),.sl false 5 (Qa7 x.body),.sl false 5 (Qa7 x.els)]:=by
 cases x;simp[St.cells,St.op,St.name,St.args,St.body,St.els]
theorem Q4y (l:List St):Qa7 l=l.map St.cells:=by
 induction l with
 |nil=>simp[Qa7]
 |cons x r ih=>simp[Qa7,ih]
theorem Qbg (l:List St):(Qa7 l).length=l.length:=by simp[Q4y]
theorem Qgm (l:List St)(i:Nat)(h:i<l.length):(Qa7 l).getD i []=(l[i]'h).cells:=by
 simp[Q4y,Je,h]
theorem Qamc (a b:List St):Qa7 a++Qa7 b=Qa7 (a++b):=by simp[Q4y]
theorem St.noOw (x:St):Go.AE.noOw x.cells=true:=by rw[x.cells_eq];rfl
theorem Qin (l:List St):∀r∈Qa7 l,Go.AE.noOw r=true:=by
 intro r hr;rw[Q4y]at hr;obtain⟨x,_,rfl⟩:=Jj.1 hr;exact x.noOw
theorem St.cells_len (x:St):x.cells.length=5:=by rw[x.cells_eq];rfl
mutual
def St.size:St→Nat
 |.mk _ _ args body els=>1+Qan args+Q8 body+Q8 els
def Q8:List St→Nat
 |[]=>0
 |x::r=>x.size+Q8 r
end
mutual
def St.ok:St→Prop
 |.mk _ _ args body els=>0<args.length∧Qep args∧Qdh body∧Qdh els
def Qdh:List St→Prop
 |[]=>True
 |x::r=>x.ok∧Qdh r
end
theorem Qbmq {l:List St}(h:Qdh l):∀x∈l,x.ok:=by
 induction l with
 |nil=>simp
 |cons y r ih=>
  simp only[Qdh]at h;intro x hx;rcases Jg.1 hx with rfl|hx
  ·exact h.1
  ·exact ih h.2 x hx
theorem Qamd {a b:List St}(ha:Qdh a)(hb:Qdh b):Qdh (a++b):=by
 induction a with
 |nil=>exact hb
 |cons x r ih=>simp only[Qdh]at ha;exact⟨ha.1,ih ha.2⟩
theorem Qjz (a b:List St):Q8 (a++b)=Q8 a+Q8 b:=by
 induction a with
 |nil=>simp[Q8]
 |cons x r ih=>simp[Q8,ih];omega
theorem St.size_eq (x:St):x.size=1+Qan x.args+Q8 x.body+Q8 x.els:=by cases x;simp[St.size,St.args,St.body,St.els]
theorem St.ok_eq (x:St):x.ok=(0<x.args.length∧Qep x.args∧Qdh x.body∧Qdh x.els):=by cases x;simp[St.ok,St.args,St.body,St.els]
theorem Qo2 {l:List St}{x:St}(h:x∈l):x.size≤Q8 l:=by
 induction l with
 |nil=>simp at h
 |cons y r ih=>
  simp only[Q8];rcases Jg.1 h with rfl|h
  ·omega
  ·have:=ih h;omega
structure Fn where
 name:List UInt8
 params:List (List UInt8)
 body:List St
def Fn.cells (f:Fn):List C:=[.str f.name,.sl false 1 (Qbu f.params),.sl false 5 (Qa7 f.body)]
def Qcj (l:List Fn):List (List C):=l.map Fn.cells
theorem Qbp (l:List Fn):(Qcj l).length=l.length:=by simp[Qcj]
theorem Qil (l:List Fn)(i:Nat)(h:i<l.length):(Qcj l).getD i []=(l[i]'h).cells:=by
 simp[Qcj,Je,h]
theorem Qaq7 (a:List Fn)(x:Fn):Qcj a++[x.cells]=Qcj (a++[x]):=by simp[Qcj]
theorem Fn.noOw (x:Fn):Go.AE.noOw x.cells=true:=rfl
theorem Fn.cells_len (x:Fn):x.cells.length=3:=rfl
theorem Qaq6 (l:List Fn):∀r∈Qcj l,Go.AE.noOw r=true:=by
 intro r hr;obtain⟨x,_,rfl⟩:=Jj.1 hr;exact x.noOw
structure GS where
 fns:List Fn
 ffl:C×List (Nat×Obj)
 vars:List (List UInt8)
 vfl:Bool
 next:Int
 left:Int
def GS.o (s:GS)(R:Rdr):Obj:=.st [.ptr R.l 0,s.ffl.1,.sl s.vfl 1 (Qbu s.vars),.int .i64 s.next,.int .i64 s.left]
theorem GS.o_ne (s:GS)(R:Rdr):s.o R≠.none:=by simp[GS.o]
structure GS.ok (s:GS)(k:Nat):Prop where
 n0:-1≤s.next
 n1:s.next≤k+10
 l0:-(4 * (k:Int)+10)≤s.left
 l1:s.left≤100
 v:s.vars.length≤k+10
 f:∀f∈s.fns,f.params.length≤3
 fn:s.fns.length≤3
theorem GS.ok.mono {s:GS}{k k':Nat}(h:s.ok k)(hk:k≤k'):s.ok k':=
 ⟨h.n0,by have:=h.n1;omega,by have:=h.l0;omega,h.l1,by have:=h.v;omega,h.f,h.fn⟩
end Go.AE.Y
namespace Go.AE
variable {H0 H H':Heap}{E L B:List (Nat×Obj)}
theorem Upd.drop2 {H H':Heap}{a b:Nat}{oa ob:Obj}(h:Upd H H' [(a,oa),(b,ob)])(hb:H b=ob):Upd H H' [(a,oa)]:=by
 refine⟨fun p hp=>h.1 p (by simp at hp;subst hp;simp),fun m hm hx=>?_⟩;by_cases hmb:m=b
 ·subst hmb;rw[hb];exact h.1 (m,ob) (by simp)
 ·exact h.2 m hm (by simp at hx⊢;exact⟨hx,hmb⟩)
theorem Upd.drop1 {H H':Heap}{a:Nat}{oa:Obj}(h:Upd H H' [(a,oa)])(ha:H a=oa):Upd H H' []:=by
 refine⟨by simp,fun m hm hx=>?_⟩;by_cases hmb:m=a
 ·subst hmb;rw[ha];exact h.1 (m,oa) (by simp)
 ·exact h.2 m hm (by simpa using hmb)
theorem Kn.perm {L':List (Nat×Obj)}(h:Kn H0 H E L)(hp:L.Perm L'):Kn H0 H E L':=
 ⟨fun p hp'=>h.get p (by
   rcases Jb.1 hp' with a|a
   ·exact Jc _ a
   ·exact Jd _ (hp.mem_iff.2 a)),h.ext,fun p hp'=>h.loc p (hp.mem_iff.2 hp'),h.dE,(hp.map Prod.fst).nodup_iff.1 h.dL,h.chg⟩
def Gr (Lg:List (Nat×Obj))(sz:Nat)(rows:List (List C))(c:C):Prop:=
 (c=.sl true sz []∧rows=[]∧Lg=[])∨∃y,c=.vsl y sz 0 rows.length∧Lg=[(y,.vec sz rows)]
theorem Gr.nil (sz:Nat):Gr [] sz [] (.sl true sz []):=.inl ⟨rfl,rfl,rfl⟩
theorem Gr.mk (y sz:Nat)(rows:List (List C)){n:Nat}(hn:n=rows.length):Gr [(y,.vec sz rows)] sz rows (.vsl y sz 0 n):=.inr ⟨y,by rw[hn],rfl⟩
variable {sz:Nat}{rows:List (List C)}{c:C}{Lg:List (Nat×Obj)}
theorem Gr.isOw (h:Gr Lg sz rows c):c.isOw=false:=by rcases h with ⟨rfl,_⟩|⟨y,rfl,_⟩ <;> rfl
theorem Gr.elemSz (h:Gr Lg sz rows c):c.elemSz=sz:=by rcases h with ⟨rfl,_⟩|⟨y,rfl,_⟩ <;> rfl
theorem Gr.lenC (h:Gr Lg sz rows c):lenC c=rows.length:=by
 rcases h with ⟨rfl,rfl,_⟩|⟨y,rfl,_⟩ <;> rfl
theorem Gr.get (h:Gr Lg sz rows c)(kn:Kn H0 H E (B++Lg)):okSl H c∧rowsOf H c=rows:=by
 rcases h with ⟨rfl,rfl,_⟩|⟨y,rfl,rfl⟩
 ·exact⟨trivial,rfl⟩
 ·have hy:H y=.vec sz rows:=(kn.get (y,.vec sz rows) (by simp)).1;refine⟨?_,?_⟩
  ·simp[okSl,hy]
  ·simp[rowsOf,hy]
theorem Gr.okSl (h:Gr Lg sz rows c)(kn:Kn H0 H E (B++Lg)):Go.AE.okSl H c:=(h.get kn).1
theorem Gr.rowsOf (h:Gr Lg sz rows c)(kn:Kn H0 H E (B++Lg)):Go.AE.rowsOf H c=rows:=(h.get kn).2
theorem Gr.frz (h:Gr Lg sz rows c)(kn:Kn H0 H E (B++Lg))(hr:∀r∈rows,noOw r=true):FrzC H (un H0) c (.sl false sz rows):=by
 rcases h with ⟨rfl,rfl,_⟩|⟨y,rfl,rfl⟩
 ·exact Y.FrzR.nil.sl
 ·exact (Y.FrzR.same hr).vsl (Qj1 (kn.loc (y,.vec sz rows) (by simp))) (kn.get (y,.vec sz rows) (by simp)).1 rfl
theorem Gr.frzR {rows':List (List C)}(h:Gr Lg sz rows c)(kn:Kn H0 H E (B++Lg))(hr:Y.FrzR H (un H0) rows rows'):FrzC H (un H0) c (.sl false sz rows'):=by
 rcases h with ⟨rfl,rfl,_⟩|⟨y,rfl,rfl⟩
 ·cases hr;exact Y.FrzR.nil.sl
 ·exact hr.vsl (Qj1 (kn.loc (y,.vec sz rows) (by simp))) (kn.get (y,.vec sz rows) (by simp)).1 rfl
structure Slc (H:Heap)(sz:Nat)(rws:List (List C))(b:C):Prop where
 ok:okSl H b
 sz:b.elemSz=sz
 rows:rowsOf H b=rws
 len:Go.AE.lenC b=rws.length
theorem Slc.mk' (H:Heap)(fl:Bool)(sz:Nat)(rows:List (List C)):Slc H sz rows (.sl fl sz rows):=⟨trivial,rfl,rfl,rfl⟩
theorem Kn.grow {K:V→Heap→Prop}{new:List (List C)}{b:C}(kn:Kn H0 H E (B++Lg))(hc:Gr Lg sz rows c)(hb:Slc H sz new b)
  (h1:∀r∈new,noOw r=true) (h2:rows.length+new.length≤LIM)
  (h:∀y' H',Kn H0 H' E (B++[(y',.vec sz (rows++new))])→K (.c (.vsl y' sz 0 (rows.length+new.length))) H'):appQ H sz c b K:=by
 refine⟨hb.ok,hb.sz,?_⟩;rcases hc with ⟨rfl,rfl,rfl⟩|⟨y,rfl,rfl⟩
 ·simp only[hb.rows,hb.len,Jr,Jal,Jaq];refine⟨trivial,.inl trivial,h1,by simpa using h2,fun l hl H' hH'=>?_⟩;rw[Jaj]at kn;have:=h l H' (by simpa using kn.al hl hH');simpa using this
 ·have hy:H y=.vec sz rows:=(kn.get (y,.vec sz rows) (by simp)).1;simp only[hy,hb.rows,hb.len,Jac,List.take_length];refine⟨trivial,trivial,by omega,h1,h2,fun l' hl' H' hH'=>?_⟩;refine h l' H' ?_;have:=kn.ap B.length (y:=y) (o:=.vec sz rows) (by simp) hl' hH';simpa using this
end Go.AE
namespace Go.AE.Y
variable {H H':Heap}{R:Rdr}{gl:Nat}{s s':GS}{L:List (Nat×Obj)}{o q:Obj}
def FnsOk (H:Heap)(R:Rdr)(gl:Nat)(s:GS):Prop:=Gr s.ffl.2 3 (Qcj s.fns) s.ffl.1∧∀p∈s.ffl.2,H p.1=p.2∧p.1≠R.l∧p.1≠gl
theorem FnsOk.keep (h:FnsOk H R gl s)(kn:Kn H H' [(R.l,o),(gl,q)] L)(h1:s'.fns=s.fns)(h2:s'.ffl=s.ffl):FnsOk H' R gl s':=by
 refine⟨by rw[h1,h2];exact h.1,fun p hp=>?_⟩;rw[h2]at hp;obtain⟨a1,a2,a3⟩:=h.2 p hp;refine⟨?_,a2,a3⟩;have hn:p.2≠.none:=by
  rcases h.1 with ⟨_,_,hx⟩|⟨y,_,hx⟩
  ·rw[hx]at hp;simp at hp
  ·rw[hx]at hp;simp at hp;subst hp;simp
 rw[kn.chg p.1 (by rw[a1];exact hn) (by simp[a2,a3]),a1]
theorem FnsOk.rd (h:FnsOk H R gl s):okSl H s.ffl.1=True∧rowsOf H s.ffl.1=Qcj s.fns:=by
 rcases h.1 with ⟨h1,h2,h3⟩|⟨y,h1,h3⟩
 ·rw[h1,h2];exact⟨rfl,rfl⟩
 ·have hy:H y=.vec 3 (Qcj s.fns):=(h.2 (y,.vec 3 (Qcj s.fns)) (by rw[h3];simp)).1;rw[h1];exact⟨by simp[okSl,hy],by simp[rowsOf,hy]⟩
theorem FnsOk.ok (h:FnsOk H R gl s)(kn:Kn H H' [(R.l,o),(gl,q)] L):okSl H' s.ffl.1=True:=(h.keep kn rfl rfl).rd.1
theorem FnsOk.rows (h:FnsOk H R gl s)(kn:Kn H H' [(R.l,o),(gl,q)] L):rowsOf H' s.ffl.1=Qcj s.fns:=(h.keep kn rfl rfl).rd.2
theorem FnsOk.len (h:FnsOk H R gl s):lenC s.ffl.1=s.fns.length:=by rw[h.1.lenC,Qbp]
theorem FnsOk.esz (h:FnsOk H R gl s):s.ffl.1.elemSz=3:=h.1.elemSz
theorem FnsOk.ow (h:FnsOk H R gl s):s.ffl.1.isOw=false:=h.1.isOw
end Go.AE.Y
namespace Go.AE
variable {H0 H H':Heap}{E L B E0 L0 Lg:List (Nat×Obj)}
def New (H H':Heap)(N:List (Nat×Obj)):Prop:=∀p∈N,H p.1=.none∧H' p.1=p.2
theorem Kn.add1 (kn0:Kn H0 H E0 L0)(kn:Kn H0 H' E L)(hE:E.map Prod.fst=E0.map Prod.fst)(hL:L.map Prod.fst=L0.map Prod.fst){x:Nat}{o:Obj}(hx:H x=.none)(hx':H' x=o)(ho:o≠.none):Kn H0 H' E (L++[(x,o)]):=by
 obtain⟨h1,h2,h3⟩:=kn0.newFree hx;refine⟨fun p hp=>?_,kn.ext,fun p hp=>?_,kn.dE,?_,kn.chg⟩
 ·rw[←Jk]at hp;rcases Jb.1 hp with hp|hp
  ·exact kn.get p hp
  ·simp at hp;subst hp;exact⟨hx',ho⟩
 ·rcases Jb.1 hp with hp|hp
  ·exact kn.loc p hp
  ·simp at hp;subst hp;exact h1
 ·rw[Jm];refine Ji.2 ⟨kn.dL,by simp,fun a ha b hb=>?_⟩;simp at hb;subst hb;rw[hL]at ha;exact fun hh=>h3 (hh▸ha)
theorem Kn.addGr {sz:Nat}{rows:List (List C)}{c:C}(kn0:Kn H0 H E0 L0)(kn:Kn H0 H' E L)(hE:E.map Prod.fst=E0.map Prod.fst)(hL:L.map Prod.fst=L0.map Prod.fst)(hg:Gr Lg sz rows c)(hn:New H H' Lg):Kn H0 H' E (L++Lg):=by
 rcases hg with ⟨_,_,rfl⟩|⟨y,_,rfl⟩
 ·simpa using kn
 ·obtain⟨h1,h2⟩:=hn (y,.vec sz rows) (by simp);exact kn0.add1 kn hE hL h1 h2 (by simp)
def unx (H:Heap)(Lg:List (Nat×Obj))(m:Nat):Bool:=un H m&&!(Lg.map Prod.fst).contains m
theorem Qbdf {m:Nat}(h:H m≠.none):unx H Lg m=false:=by simp[unx,Qba8 h]
theorem Qbu6 {p:Nat×Obj}(h:p∈Lg):unx H Lg p.1=false:=by
 have:p.1∈Lg.map Prod.fst:=Qa6 h;simp only[unx,Bool.and_eq_false_iff,Bool.not_eq_false'];exact .inr (Jak.2 this)
theorem Kn.unx (hk:Kn H0 H E (B++Lg)){p:Nat×Obj}(h:p∈B):Go.AE.unx H0 Lg p.1=true:=by
 have h1:=hk.loc p (Jc _ h);have h2:p.1∉Lg.map Prod.fst:=fun hh=>by
  have:=hk.dL;rw[Jm]at this;exact (Ji.1 this).2.2 _ (Qa6 h) _ hh rfl
 simp only[Go.AE.unx,Qj1 h1,Jav,Jae,Bool.eq_false_iff];intro hh;exact h2 (Jak.1 hh)
theorem Kn.finx (hk:Kn H0 H E (B++Lg)):Upd H0 (H.frz (Go.AE.unx H0 Lg)) E∧New H0 (H.frz (Go.AE.unx H0 Lg)) Lg:=by
 refine⟨⟨fun p hp=>?_,fun m hm hn=>?_⟩,fun p hp=>⟨hk.loc p (Jd _ hp),?_⟩⟩
 ·have:H.frz (Go.AE.unx H0 Lg) p.1=H p.1:=by simp[Heap.frz,Qbdf (hk.ext p hp)]
  rw[this];exact (hk.get p (Jc _ hp)).1
 ·have:H.frz (Go.AE.unx H0 Lg) m=H m:=by simp[Heap.frz,Qbdf hm]
  rw[this];exact hk.chg m hm hn
 ·have:H.frz (Go.AE.unx H0 Lg) p.1=H p.1:=by simp only[Heap.frz];rw[Qbu6 hp];rfl
  rw[this];exact (hk.get p (Jd _ (Jd _ hp))).1
end Go.AE
namespace Go.AE.Y
theorem Qh8 {b:Bool}(h:(!b)=false):b=true:=by simpa using h
theorem Qtc {b:Bool}(h:(!b)=true):b=false:=by simpa using h
theorem Ex.ne_nil (x:Ex):(x.cells=[])=False:=by rw[x.cells_eq];simp
theorem Ex.take4 (x:Ex):x.cells.take 4=x.cells:=Jy (by rw[x.cells_len];omega)
theorem Ex.allOw (x:Ex):(x.cells.all fun c=>!c.isOw)=true:=x.noOw
theorem St.take5 (x:St):x.cells.take 5=x.cells:=Jy (by rw[x.cells_len];omega)
theorem St.allOw (x:St):(x.cells.all fun c=>!c.isOw)=true:=x.noOw
theorem Fn.take3 (x:Fn):x.cells.take 3=x.cells:=Jy (by rw[x.cells_len];omega)
theorem Fn.allOw (x:Fn):(x.cells.all fun c=>!c.isOw)=true:=x.noOw
end Go.AE.Y
namespace Go.AE
variable {H0 H H':Heap}{E L B A:List (Nat×Obj)}{P:Program}
theorem c_gh {b:SC}{Q:X→Env→Heap→Prop}{e e':Env}(h:Qbm3 e H e' H')(hb:Qam P b Q e' H'):Qam P (.seq .gh b) Q e H:=⟨e',H',h,hb⟩
theorem Kn.drop (kn:Kn H0 H E (A++B)):Kn H0 H E A:=
 ⟨fun p hp=>kn.get p (by
   rcases Jb.1 hp with h|h
   ·exact Jc _ h
   ·exact Jd _ (Jc _ h)),kn.ext,fun p hp=>kn.loc p (Jc _ hp),kn.dE,by
   have:=kn.dL;rw[Jm]at this;exact (Ji.1 this).1,kn.chg⟩
theorem Kn.freeze {z gl:Nat}{o og og':Obj}(kn:Kn H0 H E (B++[(z,o)]))(i:Nat)(hB:B[i]? = some (gl,og))(hO:FrzO H (fun m=>m == z) og og')(hn:og'≠.none) :
  FrzH H (fun m=>m == z) ((H.frz fun m=>m == z).set gl og')∧Kn H0 ((H.frz fun m=>m == z).set gl og') E (B.set i (gl,og')):=by
 have hzf:H0 z=.none:=kn.loc (z,o) (by simp);have hnd:=kn.dL;rw[Jm]at hnd;have hne:∀p∈B,p.1≠z:=fun p hp hh=>(Ji.1 hnd).2.2 _ (Qa6 hp) z (by simp) hh;have hneE:∀p∈E,p.1≠z:=fun p hp hh=>kn.ext p hp (hh▸hzf);have hgl:=hne _ (Ja hB);have hH:H gl=og:=(kn.get (gl,og) (Jd _ (Jc _ (Ja hB)))).1;refine⟨(Qd1 _ _).set (by simpa using hgl) (by rw[hH];exact hO),?_⟩;have kn1:Kn H0 (H.frz fun m=>m == z) E B:=by
  refine⟨fun p hp=>?_,kn.ext,fun p hp=>kn.loc p (Jc _ hp),kn.dE,(Ji.1 hnd).1,fun m hm hx=>?_⟩
  ·have:p.1≠z:=by
    rcases Jb.1 hp with h|h
    ·exact hneE p h
    ·exact hne p h
   have h2:(H.frz fun m=>m == z) p.1=H p.1:=by simp[Heap.frz,this]
   rw[h2];refine kn.get p ?_;rcases Jb.1 hp with h|h
   ·exact Jc _ h
   ·exact Jd _ (Jc _ h)
  ·have:m≠z:=fun h=>hm (h▸hzf);have h2:(H.frz fun m=>m == z) m=H m:=by simp[Heap.frz,this]
   rw[h2];exact kn.chg m hm hx
 exact kn1.setL i hB hn
theorem Kn.callEL (hk:Kn H0 H E L)(i j:Nat){l m:Nat}{o o' q q':Obj}(h:E[i]? = some (l,o))(h2:L[j]? = some (m,q))(hu:Upd H H' [(l,o'),(m,q')])(ho:o'≠.none)(hq:q'≠.none) :
  Kn H0 H' (E.set i (l,o')) (L.set j (m,q')):=by
 refine hk.callg hu (Qb7 h) (Qb7 h2) (fun p hp=>?_) (fun u hu=>?_)
 ·rcases Jb.1 hp with hp|hp
  ·rcases Qbl hp with rfl|⟨b,hb,hp⟩
   ·exact⟨ho,.inl (by simp)⟩
   ·have hm:=Jc L (Ja hp);refine⟨(hk.get p hm).2,.inr ⟨hm,?_⟩⟩;simp only[Jq,J7,Jg,Jaa,or_false,not_or];exact⟨fun hh=>hb (Qdd hk.dE hp h hh),fun hh=>hk.ext p (Ja hp) (hh▸hk.free j h2)⟩
  ·rcases Qbl hp with rfl|⟨b,hb,hp⟩
   ·exact⟨hq,.inl (by simp)⟩
   ·have hm:=Jd E (Ja hp);refine⟨(hk.get p hm).2,.inr ⟨hm,?_⟩⟩;simp only[Jq,J7,Jg,Jaa,or_false,not_or];exact⟨fun hh=>hk.usedE i h (hh▸hk.loc p (Ja hp)),fun hh=>hb (Qdd hk.dL hp h2 hh)⟩
 ·simp at hu;rcases hu with rfl|rfl
  ·exact .inl (Qa6 (p:=(l,o)) (Ja h))
  ·exact .inr (Qa6 (p:=(m,q)) (Ja h2))
end Go.AE
namespace Go.AE.Y
structure Blk where
 ic:C
 irows:List (List C)
 lg:List (Nat×Obj)
 jump:Int
 on:Int
 nfl:Bool
 next:List Int
def Blk.row (b:Blk):List C:=[.sl true 2 [],b.ic,.int .i64 b.jump,.int .i64 b.on,.sl b.nfl 1 (Qb b.next)]
structure LS where
 fns:List Fn
 pfl:Bool
 params:Int
 regs:Int
 bc:C
 lb:List (Nat×Obj)
 blocks:List Blk
 at_:Nat
 vc:C
 lv:List (Nat×Obj)
 vars:List (List C)
 next:Int
def LS.o (s:LS):Obj:=.st [.sl s.pfl 3 (Qcj s.fns),.int .i64 s.params,.int .i64 s.regs,s.bc,.int .i64 s.at_,s.vc,.int .i64 s.next,.sl true 1 []]
def LS.L (s:LS)(w:Nat):List (Nat×Obj):=[(w,s.o)]++(s.lb++(s.lv++s.blocks.flatMap Blk.lg))
def InsRow (r:List C):Prop:=∃(op to n:Int) (fl:Bool) (args:List Int),r=[.int .i64 op,.int .i64 to,.sl fl 1 (Qb args),.int .i64 n]
def VarRow (r:List C):Prop:=∃(s:List UInt8) (a b:Int),r=[.str s,.int .i64 a,.int .i64 b]
def VGr (lv:List (Nat×Obj))(vars:List (List C))(c:C):Prop:=
 (c=.sl true 3 []∧vars=[]∧lv=[])∨∃y all n,c=.vsl y 3 0 n∧n≤all.length∧vars=all.take n∧lv=[(y,.vec 3 all)]
structure LInv (F H:Heap)(w:Nat)(s:LS):Prop where
 kn:Kn F H [] (s.L w)
 gb:Gr s.lb 5 (s.blocks.map Blk.row) s.bc
 gv:VGr s.lv s.vars s.vc
 gi:∀b∈s.blocks,Gr b.lg 4 b.irows b.ic
 ri:∀b∈s.blocks,∀r∈b.irows,InsRow r
 rv:∀r∈s.vars,VarRow r
structure LS.ok (s:LS)(N:Nat):Prop where
 r0:0≤s.regs
 r1:s.regs≤N
 n0:0≤s.next
 n1:s.next≤N
 b1:s.blocks.length≤N
 i1:∀b∈s.blocks,b.irows.length≤N
 v1:s.vars.length≤N
theorem LS.ok.mono {s:LS}{N M:Nat}(h:s.ok N)(hm:N≤M):s.ok M:=
 ⟨h.r0,by have:=h.r1;omega,h.n0,by have:=h.n1;omega,by have:=h.b1;omega,fun b hb=>by have:=h.i1 b hb;omega,by have:=h.v1;omega⟩
theorem InsRow.noOw {r:List C}(h:InsRow r):Go.AE.noOw r=true:=by obtain⟨_,_,_,_,_,rfl⟩:=h;rfl
theorem VarRow.noOw {r:List C}(h:VarRow r):Go.AE.noOw r=true:=by obtain⟨_,_,_,rfl⟩:=h;rfl
theorem VGr.isOw {lv:List (Nat×Obj)}{vars:List (List C)}{c:C}(h:VGr lv vars c):c.isOw=false:=by
 rcases h with ⟨rfl,_⟩|⟨_,_,_,rfl,_⟩ <;> rfl
theorem VGr.elemSz {lv:List (Nat×Obj)}{vars:List (List C)}{c:C}(h:VGr lv vars c):c.elemSz=3:=by
 rcases h with ⟨rfl,_⟩|⟨_,_,_,rfl,_⟩ <;> rfl
theorem VGr.lenC {lv:List (Nat×Obj)}{vars:List (List C)}{c:C}(h:VGr lv vars c):Go.AE.lenC c=vars.length:=by
 rcases h with ⟨rfl,rfl,_⟩|⟨_,_,_,rfl,h,rfl,_⟩
 ·rfl
 ·simp[Go.AE.lenC];omega
variable {F H H':Heap}{w:Nat}{s:LS}
theorem LInv.hw (h:LInv F H w s):H w=s.o:=h.kn.l 0 rfl
theorem LInv.vget (h:LInv F H w s):okSl H s.vc=True∧rowsOf H s.vc=s.vars:=by
 rcases h.gv with ⟨h1,h2,_⟩|⟨y,all,n,h1,h2,h3,h4⟩
 ·rw[h1,h2];exact⟨rfl,rfl⟩
 ·have hy:H y=.vec 3 all:=(h.kn.get (y,.vec 3 all) (by simp[LS.L,h4])).1;rw[h1];refine⟨eq_true ?_,?_⟩
  ·simp only[Go.AE.okSl,hy];exact⟨trivial,by omega⟩
  ·simp only[Go.AE.rowsOf,hy,Jac,h3]
theorem LInv.bvec (h:LInv F H w s)(hb:0<s.blocks.length):∃y,s.bc=.vsl y 5 0 s.blocks.length∧s.lb=[(y,.vec 5 (s.blocks.map Blk.row))]∧H y=.vec 5 (s.blocks.map Blk.row):=by
 rcases h.gb with ⟨_,h2,_⟩|⟨y,h1,h2⟩
 ·simp at h2;rw[h2]at hb;simp at hb
 ·refine⟨y,by rw[h1];simp,h2,?_⟩;exact (h.kn.get (y,.vec 5 (s.blocks.map Blk.row)) (by simp[LS.L,h2])).1
theorem LInv.setw {s':LS}(h:LInv F H w s)(h1:H'=H.set w s'.o)(a1:s'.lb=s.lb)(a2:s'.lv=s.lv)(a3:s'.blocks=s.blocks)(a4:s'.bc=s.bc)(a5:VGr s.lv s'.vars s'.vc)(a6:∀r∈s'.vars,VarRow r):LInv F H' w s':=by
 refine⟨?_,by rw[a1,a3,a4];exact h.gb,by rw[a2];exact a5,by rw[a3];exact h.gi,by rw[a3];exact h.ri,a6⟩;have:=h.kn.stL 0 (x:=w) (o:=s.o) rfl h1 (by simp[LS.o]);simp only[LS.L,a1,a2,a3];exact this
theorem Qbps {α:Type}{A X Y:List α}:(A++(X++Y)).Perm ((A++Y)++X):=by
 rw[Jk];exact .append_left _ Jp
theorem LInv.addBlk {K:V→Heap→Prop}{fl:Bool}{b:Blk}(h:LInv F H w s)(hl:s.blocks.length+1≤LIM)(b1:b.lg=[])(b2:b.ic=.sl true 4 [])(b3:b.irows=[])
  (hK:∀(y:Nat) (H1:Heap),H1 w=s.o→(∀H2,H2=H1.set w (LS.o { s with bc:=.vsl y 5 0 (s.blocks.length+1) })→
   LInv F H2 w { s with bc:=.vsl y 5 0 (s.blocks.length+1),lb:=[(y,.vec 5 ((s.blocks++[b]).map Blk.row))],blocks:=s.blocks++[b] })→K (.c (.vsl y 5 0 (s.blocks.length+1))) H1) :
  appQ H 5 s.bc (.sl fl 5 [b.row]) K:=by
 have kn:=h.kn;have kn:Kn F H [] (([(w,s.o)]++(s.lv++s.blocks.flatMap Blk.lg))++s.lb):=kn.perm Qbps;refine kn.grow h.gb (.mk' _ _ _ _) (by
  intro r hr;simp only[J4]at hr;subst hr;simp only[Blk.row,b2];rfl) (by simpa using hl) fun y H1 kn=>?_
 have e1:(s.blocks.map Blk.row).length+[b.row].length=s.blocks.length+1:=by simp
 rw[e1];refine hK y H1 (kn.l 0 rfl) fun H2 h2=>⟨?_,?_,h.gv,?_,?_,h.rv⟩
 ·have:=kn.stL 0 (x:=w) (o:=s.o) rfl h2 (by simp[LS.o]);simp only[LS.L,Jan,List.flatMap_cons,List.flatMap_nil,b1,Jaj,Jm,Jq,J7];simp only[Jx,Jr,Jap]at this⊢;refine this.perm (.cons _ ?_);exact Jp
 ·exact .mk _ _ _ (by simp)
 ·intro b' hb';rcases Jb.1 hb' with hb'|hb'
  ·exact h.gi b' hb'
  ·simp at hb';subst hb';rw[b1,b2,b3];exact .nil 4
 ·intro b' hb';rcases Jb.1 hb' with hb'|hb'
  ·exact h.ri b' hb'
  ·simp at hb';subst hb';rw[b3];simp
theorem Qiq {α β:Type}(f:α→List β)(l:List α)(i:Nat)(hi:i<l.length):(l.flatMap f).Perm (f l[i]++(l.eraseIdx i).flatMap f):=by
 have h1:(l[i]::l.eraseIdx i).Perm l:=by
  rw[List.eraseIdx_eq_take_drop_succ];refine List.perm_middle.symm.trans ?_;rw[←List.drop_eq_getElem_cons hi,List.take_append_drop]
 have h2:=h1.symm.flatMap_right f;simpa using h2
theorem Qgo {α β:Type}(f:α→List β)(l:List α)(i:Nat)(x:α)(hi:i<l.length):((l.set i x).flatMap f).Perm (f x++(l.eraseIdx i).flatMap f):=by
 have:=Qiq f (l.set i x) i (by simpa using hi);simpa[List.eraseIdx_set_eq]using this
theorem Qafe (l:List Blk)(i:Nat)(b:Blk):(l.map Blk.row).set i b.row=(l.set i b).map Blk.row:=by rw[J8]
theorem Qge {l:List Blk}{i:Nat}{b x:Blk}(h:x∈l.set i b):x=b∨x∈l:=by
 rcases Qbl h with h|⟨j,_,h⟩
 ·exact .inl h
 ·exact .inr (Ja h)
theorem LInv.setBlk {b':Blk}{y i:Nat}(h:LInv F H w s)(hi:i<s.blocks.length)(hbc:s.bc=.vsl y 5 0 s.blocks.length)(hlb:s.lb=[(y,.vec 5 (s.blocks.map Blk.row))])
  (h1:H'=H.set y (.vec 5 ((s.blocks.set i b').map Blk.row))) (a1:b'.lg=s.blocks[i].lg) (a2:b'.ic=s.blocks[i].ic) (a3:b'.irows=s.blocks[i].irows) :
  LInv F H' w { s with lb:=[(y,.vec 5 ((s.blocks.set i b').map Blk.row))],blocks:=s.blocks.set i b' }:=by
 have hm:=Jah hi;refine⟨?_,?_,h.gv,fun b hb=>?_,fun b hb=>?_,h.rv⟩
 ·have kn:=h.kn;simp only[LS.L,hlb]at kn;have kn:=kn.stL 1 (x:=y) rfl h1;refine kn.perm ?_;simp only[LS.L,Jx,Jr,Jap,List.set_cons_succ];refine .cons _ (.cons _ (.append_left _ ?_));refine (Qiq Blk.lg s.blocks i hi).trans ?_;rw[←a1];exact (Qgo Blk.lg s.blocks i b' hi).symm
 ·simp only[hbc];exact .mk _ _ _ (by simp)
 ·rcases Qge hb with rfl|hb
  ·rw[a1,a2,a3];exact h.gi _ hm
  ·exact h.gi b hb
 ·rcases Qge hb with rfl|hb
  ·rw[a3];exact h.ri _ hm
  ·exact h.ri b hb
theorem LInv.addIns {K:V→Heap→Prop}{y i:Nat}{fl:Bool}{r:List C}(h:LInv F H w s)(hi:i<s.blocks.length)(hbc:s.bc=.vsl y 5 0 s.blocks.length)(hlb:s.lb=[(y,.vec 5 (s.blocks.map Blk.row))])
  (hr:InsRow r) (hl:s.blocks[i].irows.length+1≤LIM)
  (hK:∀(z:Nat) (H1:Heap),H1 w=s.o→H1 y=.vec 5 (s.blocks.map Blk.row)→
   (∀H2,H2=H1.set y (.vec 5 ((s.blocks.map Blk.row).set i (Blk.row { s.blocks[i]with ic:=.vsl z 4 0 (s.blocks[i].irows.length+1) })))→
    ∃b':Blk,b'.irows.length=s.blocks[i].irows.length+1∧LInv F H2 w { s with lb:=[(y,.vec 5 ((s.blocks.set i b').map Blk.row))],blocks:=s.blocks.set i b' })→K (.c (.vsl z 4 0 (s.blocks[i].irows.length+1))) H1) :
  appQ H 4 s.blocks[i].ic (.sl fl 4 [r]) K:=by
 have hm:=Jah hi;have kn:=h.kn;simp only[LS.L]at kn;have kn:Kn F H [] (([(w,s.o)]++(s.lb++(s.lv++(s.blocks.eraseIdx i).flatMap Blk.lg)))++s.blocks[i].lg):=kn.perm (by
  have h1:(s.blocks.flatMap Blk.lg).Perm ((s.blocks.eraseIdx i).flatMap Blk.lg++s.blocks[i].lg):=(Qiq Blk.lg s.blocks i hi).trans Jp;refine ((h1.append_left _).append_left _ |>.append_left _).trans ?_;simp only[Jk];exact .refl _)
 refine kn.grow (h.gi _ hm) (.mk' _ _ _ _) (by intro r' hr';simp only[J4]at hr';subst hr';exact hr.noOw) (by simpa using hl) fun z H1 kn=>?_;have e1:s.blocks[i].irows.length+[r].length=s.blocks[i].irows.length+1:=by simp
 rw[e1];simp only[hlb]at kn;refine hK z H1 (kn.l 0 rfl) (kn.l 1 rfl) fun H2 h2=>?_;refine⟨{ s.blocks[i]with ic:=.vsl z 4 0 (s.blocks[i].irows.length+1),irows:=s.blocks[i].irows++[r],lg:=[(z,.vec 4 (s.blocks[i].irows++[r]))] },by simp,?_⟩;have hrow:Blk.row { s.blocks[i]with ic:=.vsl z 4 0 (s.blocks[i].irows.length+1) }=Blk.row { s.blocks[i]with ic:=.vsl z 4 0 (s.blocks[i].irows.length+1),irows:=s.blocks[i].irows++[r],lg:=[(z,.vec 4 (s.blocks[i].irows++[r]))] }:=rfl;rw[hrow,Qafe]at h2;refine⟨?_,?_,h.gv,fun b hb=>?_,fun b hb=>?_,h.rv⟩
 ·have kn:=kn.stL 1 (x:=y) rfl h2;refine kn.perm ?_;simp only[LS.L];have h1:=(Qgo Blk.lg s.blocks i { s.blocks[i]with ic:=.vsl z 4 0 (s.blocks[i].irows.length+1),irows:=s.blocks[i].irows++[r],lg:=[(z,.vec 4 (s.blocks[i].irows++[r]))] } hi).symm;have h3:=(Jp.trans h1).append_left ([(w,s.o)]++([(y,Obj.vec 5 ((s.blocks.set i { s.blocks[i]with ic:=.vsl z 4 0 (s.blocks[i].irows.length+1),irows:=s.blocks[i].irows++[r],lg:=[(z,.vec 4 (s.blocks[i].irows++[r]))] }).map Blk.row))]++s.lv));refine List.Perm.trans ?_ (h3.trans ?_)
  ·simp only[List.set,Jx,Jr,Jk];exact .refl _
  ·simp only[Jx,Jr,Jk];exact .refl _
 ·simp only[hbc];exact .mk _ _ _ (by simp)
 ·rcases Qge hb with rfl|hb
  ·exact .mk _ _ _ (by simp)
  ·exact h.gi b hb
 ·rcases Qge hb with rfl|hb
  ·intro r' hr';rcases Jb.1 hr' with hr'|hr'
   ·exact h.ri _ hm r' hr'
   ·simp at hr';subst hr';exact hr
  ·exact h.ri b hb
theorem LInv.addVar {K:V→Heap→Prop}{fl:Bool}{r:List C}(h:LInv F H w s)(hr:VarRow r)(hl:s.vars.length+1≤LIM)
  (hK:∀(y:Nat) (H1:Heap),H1 w=s.o→(∀H2,H2=H1.set w (LS.o { s with vc:=.vsl y 3 0 (s.vars.length+1) })→
   LInv F H2 w { s with vc:=.vsl y 3 0 (s.vars.length+1),lv:=[(y,.vec 3 (s.vars++[r]))],vars:=s.vars++[r] })→K (.c (.vsl y 3 0 (s.vars.length+1))) H1) :
  appQ H 3 s.vc (.sl fl 3 [r]) K:=by
 have hrv:∀r'∈s.vars++[r],VarRow r':=fun r' hr'=>by
  rcases Jb.1 hr' with h1|h1
  ·exact h.rv r' h1
  ·simp at h1;subst h1;exact hr
 have kn:=h.kn;have kn:Kn F H [] (([(w,s.o)]++(s.lb++s.blocks.flatMap Blk.lg))++s.lv):=kn.perm (by
  simp only[LS.L];refine List.Perm.trans (.append_left _ (.append_left _ Jp)) ?_;simp only[Jk];exact .refl _)
 have fin:∀(y:Nat) (H1:Heap),Kn F H1 [] (([(w,s.o)]++(s.lb++s.blocks.flatMap Blk.lg))++[(y,.vec 3 (s.vars++[r]))])→K (.c (.vsl y 3 0 (s.vars.length+1))) H1:=by
  intro y H1 kn;refine hK y H1 (kn.l 0 rfl) fun H2 h2=>⟨?_,h.gb,.inr ⟨y,s.vars++[r],s.vars.length+1,rfl,by simp,by rw[Jy (by simp)],rfl⟩,h.gi,h.ri,hrv⟩;have kn:=kn.stL 0 (x:=w) (o:=s.o) rfl h2 (by simp[LS.o]);refine kn.perm ?_;simp only[LS.L,List.set,Jx,Jr,Jk];refine .cons _ (.append_left _ ?_);exact Jp
 refine⟨trivial,rfl,?_⟩;rcases h.gv with ⟨h1,h2,h3⟩|⟨y,all,n,h1,h2,h3,h4⟩
 ·rw[h1];rw[h3,Jaj]at kn;simp only[rowsOf,Go.AE.lenC,Jr,Jal,Jaq,Jam];refine⟨trivial,.inl trivial,by intro r' hr';simp only[J4]at hr';subst hr';exact hr.noOw,by simp only[LIM];omega,fun l hl H' hH'=>?_⟩;have:=fin l H' (by rw[h2];simpa using kn.al hl hH');rw[h2]at this;exact this
 ·rw[h4]at kn;have hy:H y=.vec 3 all:=(kn.get (y,.vec 3 all) (by simp)).1;have hn:s.vars.length=n:=by rw[h3];simp;omega
  rw[h1];simp only[hy,rowsOf,Go.AE.lenC,Jac,Jam];refine⟨trivial,trivial,by omega,by intro r' hr';simp only[J4]at hr';subst hr';exact hr.noOw,by omega,fun l' hl' H' hH'=>?_⟩;rw[←hn]at hH'⊢;rw[hn,←h3]at hH';refine fin l' H' ?_;have:=kn.ap ([(w,s.o)]++(s.lb++s.blocks.flatMap Blk.lg)).length (y:=y) (o:=.vec 3 all) (by simp) hl' hH';simpa using this
end Go.AE.Y
namespace Go.AE.Y
structure InsD where
 op:Int
 to:Int
 args:List Int
 n:Int
def InsD.cells (x:InsD):List C:=[.int .i64 x.op,.int .i64 x.to,.sl false 1 (Qb x.args),.int .i64 x.n]
structure PhiD where
 to:Int
 args:List Int
def PhiD.cells (x:PhiD):List C:=[.int .i64 x.to,.sl false 1 (Qb x.args)]
def Qag (l:List InsD):List (List C):=l.map InsD.cells
def Q7 (l:List PhiD):List (List C):=l.map PhiD.cells
structure BlkD where
 phis:List PhiD
 ins:List InsD
 jump:Int
 on:Int
 next:List Int
def BlkD.cells (x:BlkD):List C:=[.sl false 2 (Q7 x.phis),.sl false 4 (Qag x.ins),.int .i64 x.jump,.int .i64 x.on,.sl false 1 (Qb x.next)]
def Qn (l:List BlkD):List (List C):=l.map BlkD.cells
structure CodeD where
 params:Int
 regs:Int
 blocks:List BlkD
def CodeD.cells (x:CodeD):List C:=[.int .i64 x.params,.int .i64 x.regs,.sl false 5 (Qn x.blocks)]
def Qj (l:List CodeD):List (List C):=l.map CodeD.cells
theorem Q4 (l:List InsD):(Qag l).length=l.length:=by simp[Qag]
theorem Qv (l:List PhiD):(Q7 l).length=l.length:=by simp[Q7]
theorem Ql (l:List BlkD):(Qn l).length=l.length:=by simp[Qn]
theorem Qo (l:List CodeD):(Qj l).length=l.length:=by simp[Qj]
theorem Qbd (l:List InsD)(i:Nat)(h:i<l.length):(Qag l).getD i []=(l[i]'h).cells:=by simp[Qag,Je,h]
theorem Qau (l:List PhiD)(i:Nat)(h:i<l.length):(Q7 l).getD i []=(l[i]'h).cells:=by simp[Q7,Je,h]
theorem Q1 (l:List BlkD)(i:Nat)(h:i<l.length):(Qn l).getD i []=(l[i]'h).cells:=by simp[Qn,Je,h]
theorem Q0 (l:List CodeD)(i:Nat)(h:i<l.length):(Qj l).getD i []=(l[i]'h).cells:=by simp[Qj,Je,h]
theorem Qed (l:List InsD):∀r∈Qag l,noOw r=true:=by intro r hr;obtain⟨x,_,rfl⟩:=Jj.1 hr;rfl
theorem Q07 (l:List PhiD):∀r∈Q7 l,noOw r=true:=by intro r hr;obtain⟨x,_,rfl⟩:=Jj.1 hr;rfl
theorem Q0s (l:List BlkD):∀r∈Qn l,noOw r=true:=by intro r hr;obtain⟨x,_,rfl⟩:=Jj.1 hr;rfl
theorem Qbe (l:List CodeD):∀r∈Qj l,noOw r=true:=by intro r hr;obtain⟨x,_,rfl⟩:=Jj.1 hr;rfl
theorem Qawy (a:List CodeD)(x:CodeD):Qj a++[x.cells]=Qj (a++[x]):=by simp[Qj]
theorem Qbee (a:List InsD)(x:InsD):Qag a++[x.cells]=Qag (a++[x]):=by simp[Qag]
variable {H:Heap}{S:Nat→Bool}
theorem Gr.frzM {Lg:List (Nat×Obj)}{sz:Nat}{rows rows':List (List C)}{c:C}(h:Gr Lg sz rows c)(hm:∀p∈Lg,H p.1=p.2∧S p.1=true)(hr:FrzR H S rows rows'):FrzC H S c (.sl false sz rows'):=by
 rcases h with ⟨rfl,rfl,rfl⟩|⟨y,rfl,rfl⟩
 ·cases hr;exact FrzR.nil.sl
 ·obtain⟨h1,h2⟩:=hm (y,.vec sz rows) (by simp);exact hr.vsl h2 h1 rfl
theorem InsRow.frz {r:List C}(h:InsRow r):∃d:InsD,FrzL H S r d.cells:=by
 obtain⟨op,to,n,fl,args,rfl⟩:=h;exact⟨⟨op,to,args,n⟩,.cons (Qi rfl) (.cons (Qi rfl) (.cons (FrzR.same (Qz _)).sl (.cons (Qi rfl) .nil)))⟩
def CodeD.fits (c:CodeD):Prop:=∀b∈c.blocks,b.ins.length≤2^38∧b.phis.length≤2^38
theorem Qae0:∀(l:List (List C)),(∀r∈l,InsRow r)→∃ds:List InsD,FrzR H S l (Qag ds)
 |[],_=>⟨[],.nil⟩
 |r::l,h=>by
  obtain⟨d,hd⟩:=(h r J0).frz (H:=H) (S:=S);obtain⟨ds,hds⟩:=Qae0 l fun r' hr'=>h r' (Ju _ hr');exact⟨d::ds,.cons hd hds⟩
theorem Qbbd:∀(l:List Blk),(∀b∈l,Gr b.lg 4 b.irows b.ic∧(∀r∈b.irows,InsRow r)∧(∀p∈b.lg,H p.1=p.2∧S p.1=true)∧b.irows.length≤2^38)→
  ∃bs:List BlkD,FrzR H S (l.map Blk.row) (Qn bs)∧bs.length=l.length∧∀b∈bs,b.ins.length≤2^38∧b.phis.length≤2^38
 |[],_=>⟨[],.nil,rfl,by simp⟩
 |b::l,h=>by
  obtain⟨g1,g2,g3,g4⟩:=h b J0;obtain⟨bs,h1,h2,h3⟩:=Qbbd l fun r' hr'=>h r' (Ju _ hr');obtain⟨ds,hds⟩:=Qae0 (H:=H) (S:=S) b.irows g2;have hdl:=hds.spec.1;rw[Q4]at hdl;refine⟨⟨[],ds,b.jump,b.on,b.next⟩::bs,.cons ?_ h1,by simp[h2],fun b' hb'=>?_⟩
  ·exact .cons FrzR.nil.sl (.cons (Gr.frzM g1 g3 hds) (.cons (Qi rfl) (.cons (Qi rfl) (.cons (FrzR.same (Qz _)).sl .nil))))
  ·rcases Jg.1 hb' with rfl|hb'
   ·exact⟨by show ds.length≤_;omega,by simp⟩
   ·exact h3 b' hb'
end Go.AE.Y
namespace Go.AE
variable {H0 H H' F:Heap}{E L B A:List (Nat×Obj)}
theorem Kn.toFrame {y:Nat}{o:Obj}(kn:Kn F H [] (L++[(y,o)])):Kn (F.set y o) H [] L:=by
 have hnd:=kn.dL;rw[Jm]at hnd;have hne:∀p∈L,p.1≠y:=fun p hp hh=>(Ji.1 hnd).2.2 _ (Qa6 hp) y (by simp) hh;refine⟨fun p hp=>kn.get p (by simp only[Jr]at hp⊢;exact Jc _ hp),by simp,fun p hp=>?_,by simp,(Ji.1 hnd).1,fun m hm _=>?_⟩
 ·rw[Heap.set_other _ _ (hne p hp)];exact kn.loc p (Jc _ hp)
 ·by_cases h:m=y
  ·subst h;rw[Heap.set_same];exact (kn.get (m,o) (by simp)).1
  ·rw[Heap.set_other _ _ h]at hm⊢;exact kn.chg m hm (by simp)
theorem Kn.ofFrame {y:Nat}{o:Obj}(kn:Kn (F.set y o) H [] L)(hF:F y=.none)(ho:o≠.none):Kn F H [] (L++[(y,o)]):=by
 have hy:H y=o:=by have:=kn.chg y (by rw[Heap.set_same];exact ho) (by simp);rw[this,Heap.set_same]
 have hne:∀p∈L,p.1≠y:=fun p hp hh=>by have:=kn.loc p hp;rw[hh,Heap.set_same]at this;exact ho this
 refine⟨fun p hp=>?_,by simp,fun p hp=>?_,by simp,?_,fun m hm _=>?_⟩
 ·simp only[Jr]at hp;rcases Jb.1 hp with hp|hp
  ·exact kn.get p (by simpa using hp)
  ·simp at hp;subst hp;exact⟨hy,ho⟩
 ·rcases Jb.1 hp with hp|hp
  ·have:=kn.loc p hp;rw[Heap.set_other _ _ (hne p hp)]at this;exact this
  ·simp at hp;subst hp;exact hF
 ·rw[Jm];refine Ji.2 ⟨kn.dL,by simp,fun a ha b hb=>?_⟩;simp at hb;subst hb;obtain⟨p,hp,rfl⟩:=Jj.1 ha;exact hne p hp
 ·have hmy:m≠y:=fun h=>by subst h;exact hm hF
  have:=kn.chg m (by rw[Heap.set_other _ _ hmy];exact hm) (by simp);rw[this,Heap.set_other _ _ hmy]
theorem Kn.frz1 {z:Nat}{o:Obj}(kn:Kn H0 H E (B++[(z,o)])):Kn H0 (H.frz fun m=>m == z) E B:=by
 have hzf:H0 z=.none:=kn.loc (z,o) (by simp);have hnd:=kn.dL;rw[Jm]at hnd;have hne:∀p∈B,p.1≠z:=fun p hp hh=>(Ji.1 hnd).2.2 _ (Qa6 hp) z (by simp) hh;have hneE:∀p∈E,p.1≠z:=fun p hp hh=>kn.ext p hp (hh▸hzf);refine⟨fun p hp=>?_,kn.ext,fun p hp=>kn.loc p (Jc _ hp),kn.dE,(Ji.1 hnd).1,fun m hm hx=>?_⟩
 ·have:p.1≠z:=by
   rcases Jb.1 hp with h|h
   ·exact hneE p h
   ·exact hne p h
  have h2:(H.frz fun m=>m == z) p.1=H p.1:=by simp[Heap.frz,this]
  rw[h2];refine kn.get p ?_;rcases Jb.1 hp with h|h
  ·exact Jc _ h
  ·exact Jd _ (Jc _ h)
 ·have:m≠z:=fun h=>hm (h▸hzf);have h2:(H.frz fun m=>m == z) m=H m:=by simp[Heap.frz,this]
  rw[h2];exact kn.chg m hm hx
theorem Gr.freeze {Lg:List (Nat×Obj)}{sz:Nat}{rows:List (List C)}{c:C}(h:Gr Lg sz rows c)(kn:Kn H0 H E (B++Lg))(hr:∀r∈rows,noOw r=true) :
  ∃S H2,FrzC H S c (.sl false sz rows)∧FrzH H S H2∧Kn H0 H2 E B:=by
 rcases h with ⟨rfl,rfl,rfl⟩|⟨y,rfl,rfl⟩
 ·refine⟨fun _=>false,H,Y.FrzR.nil.sl,fun m=>.inr ⟨rfl,.same _⟩,by simpa using kn⟩
 ·exact⟨fun m=>m == y,_,(Y.FrzR.same hr).vsl (by simp) (kn.get (y,.vec sz rows) (by simp)).1 rfl,Qd1 _ _,kn.frz1⟩
end Go.AE
namespace Go.AE.Y
variable {F H H':Heap}{w:Nat}{s:LS}{Lg:List (Nat×Obj)}{sz:Nat}{rows:List (List C)}{c:C}
theorem LInv.re {H2:Heap}(h:LInv F H w s)(kn:Kn F H2 [] (s.L w)):LInv F H2 w s:=⟨kn,h.gb,h.gv,h.gi,h.ri,h.rv⟩
theorem LInv.beside (h:LInv F H w s)(kn:Kn F H [] (s.L w++Lg))(hg:Gr Lg sz rows c) :
  ∃F',LInv F' H w s∧∀(s':LS) (H':Heap),LInv F' H' w s'→LInv F H' w s'∧Kn F H' [] (s'.L w++Lg):=by
 rcases hg with ⟨_,_,rfl⟩|⟨y,_,rfl⟩
 ·exact⟨F,h,fun s' H' h'=>⟨h',by simpa using h'.kn⟩⟩
 ·refine⟨F.set y (.vec sz rows),⟨kn.toFrame,h.gb,h.gv,h.gi,h.ri,h.rv⟩,fun s' H' h'=>?_⟩;have k2:=h'.kn.ofFrame (kn.loc (y,.vec sz rows) (by simp)) (by simp);exact⟨⟨k2.drop,h'.gb,h'.gv,h'.gi,h'.ri,h'.rv⟩,k2⟩
end Go.AE.Y
namespace Go.AE
variable {H0 H H':Heap}{E L N B:List (Nat×Obj)}
theorem Kn.comp0 (kn:Kn H0 H E L)(k2:Kn H H' [] N):Kn H0 H' E (L++N):=by
 have hne:∀p∈E++L,H p.1≠.none:=fun p hp=>by obtain⟨a,b⟩:=kn.get p hp;rw[a];exact b
 refine⟨fun p hp=>?_,kn.ext,fun p hp=>?_,kn.dE,?_,fun m hm hx=>?_⟩
 ·rw[←Jk]at hp;rcases Jb.1 hp with hp|hp
  ·obtain⟨a,b⟩:=kn.get p hp;exact⟨by rw[k2.chg p.1 (hne p hp) (by simp),a],b⟩
  ·exact k2.get p (by simpa using hp)
 ·rcases Jb.1 hp with hp|hp
  ·exact kn.loc p hp
  ·exact (kn.newFree (k2.loc p hp)).1
 ·rw[Jm];refine Ji.2 ⟨kn.dL,k2.dL,fun a ha b hb hab=>?_⟩;obtain⟨p,hp,rfl⟩:=Jj.1 ha;obtain⟨q,hq,rfl⟩:=Jj.1 hb;exact hne p (Jd _ hp) (by rw[hab];exact k2.loc q hq)
 ·have:=kn.chg m hm hx;rw[k2.chg m (by rw[this];exact hm) (by simp),this]
theorem Kn.compE (kn:Kn H0 H E L)(i:Nat){l:Nat}{o o':Obj}(h:E[i]? = some (l,o))(k2:Kn H H' [(l,o')] N):Kn H0 H' (E.set i (l,o')) (L++N):=by
 have hne:∀p∈E++L,H p.1≠.none:=fun p hp=>by obtain⟨a,b⟩:=kn.get p hp;rw[a];exact b
 have hl:H' l=o'∧o'≠.none:=k2.get (l,o') (by simp);have hu:Upd H H' [(l,o')]:=⟨fun p hp=>by simp at hp;subst hp;exact hl.1,fun m hm hx=>k2.chg m hm hx⟩;have k3:=kn.callE i h hu hl.2;refine⟨fun p hp=>?_,k3.ext,fun p hp=>?_,k3.dE,?_,k3.chg⟩
 ·rw[←Jk]at hp;rcases Jb.1 hp with hp|hp
  ·exact k3.get p hp
  ·exact k2.get p (Jd _ hp)
 ·rcases Jb.1 hp with hp|hp
  ·exact kn.loc p hp
  ·exact (kn.newFree (k2.loc p hp)).1
 ·rw[Jm];refine Ji.2 ⟨kn.dL,k2.dL,fun a ha b hb hab=>?_⟩;obtain⟨p,hp,rfl⟩:=Jj.1 ha;obtain⟨q,hq,rfl⟩:=Jj.1 hb;exact hne p (Jd _ hp) (by rw[hab];exact k2.loc q hq)
theorem Kn.finK (hk:Kn H0 H E (B++N)):Kn H0 (H.frz (Go.AE.unx H0 N)) E N:=by
 obtain⟨h1,h2⟩:=hk.finx;have hd:=hk.dL;rw[Jm]at hd;refine⟨fun p hp=>?_,hk.ext,fun p hp=>hk.loc p (Jd _ hp),hk.dE,(Ji.1 hd).2.1,h1.2⟩;rcases Jb.1 hp with hp|hp
 ·exact⟨h1.1 p hp,(hk.get p (Jc _ hp)).2⟩
 ·exact⟨(h2 p hp).2,(hk.get p (Jd _ (Jd _ hp))).2⟩
end Go.AE
namespace Go.AE.Y
structure OInts where
 ns:List Int
 y:Nat
def OInts.c (x:OInts):C:=.vsl x.y 1 0 x.ns.length
def OInts.lg (x:OInts):List (Nat×Obj):=[(x.y,.vec 1 (Qb x.ns))]
structure OPhi where
 to:Int
 ns:List Int
 ac:C
 lg:List (Nat×Obj)
def OPhi.row (x:OPhi):List C:=[.int .i64 x.to,x.ac]
def OPhi.ok (x:OPhi):Prop:=(∃y,x.ac=.vsl y 1 0 x.ns.length∧x.lg=[(y,.vec 1 (Qb x.ns))])∨(∃fl,x.ac=.sl fl 1 (Qb x.ns)∧x.lg=[])
def OPhi.own (x:OPhi):Prop:=∃y,x.ac=.vsl y 1 0 x.ns.length∧x.lg=[(y,.vec 1 (Qb x.ns))]
structure OIns where
 op:Int
 to:Int
 a:OInts
 n:Int
def OIns.row (x:OIns):List C:=[.int .i64 x.op,.int .i64 x.to,x.a.c,.int .i64 x.n]
def OIns.lg (x:OIns):List (Nat×Obj):=x.a.lg
structure OBlk where
 phis:List OPhi
 pc:C
 pl:List (Nat×Obj)
 ins:List OIns
 ic:C
 il:List (Nat×Obj)
 jump:Int
 on:Int
 nx:OInts
def OBlk.row (x:OBlk):List C:=[x.pc,x.ic,.int .i64 x.jump,.int .i64 x.on,x.nx.c]
def OBlk.lg (x:OBlk):List (Nat×Obj):=x.nx.lg++(x.phis.flatMap OPhi.lg++(x.pl++(x.ins.flatMap OIns.lg++x.il)))
structure OBlk.ok (x:OBlk):Prop where
 p:Gr x.pl 2 (x.phis.map OPhi.row) x.pc
 i:Gr x.il 4 (x.ins.map OIns.row) x.ic
 a:∀p∈x.phis,p.ok
structure OCode where
 params:Int
 regs:Int
 blocks:List OBlk
 bc:C
 bl:List (Nat×Obj)
def OCode.row (x:OCode):List C:=[.int .i64 x.params,.int .i64 x.regs,x.bc]
def OCode.lg (x:OCode):List (Nat×Obj):=x.blocks.flatMap OBlk.lg++x.bl
structure OCode.ok (x:OCode):Prop where
 b:Gr x.bl 5 (x.blocks.map OBlk.row) x.bc
 bs:∀b∈x.blocks,b.ok
def OPhi.d (x:OPhi):PhiD:=⟨x.to,x.ns⟩
def OIns.d (x:OIns):InsD:=⟨x.op,x.to,x.a.ns,x.n⟩
def OBlk.d (x:OBlk):BlkD:=⟨x.phis.map OPhi.d,x.ins.map OIns.d,x.jump,x.on,x.nx.ns⟩
def OCode.d (x:OCode):CodeD:=⟨x.params,x.regs,x.blocks.map OBlk.d⟩
theorem OPhi.noOw (x:OPhi)(h:x.ok):Go.AE.noOw x.row=true:=by
 rcases h with ⟨y,h,_⟩|⟨fl,h,_⟩ <;> simp only[Go.AE.noOw,OPhi.row,h] <;> rfl
theorem OIns.noOw (x:OIns):Go.AE.noOw x.row=true:=rfl
theorem OBlk.noOw (x:OBlk)(h:x.ok):Go.AE.noOw x.row=true:=by
 simp only[Go.AE.noOw,OBlk.row,OInts.c,J2,J6,h.p.isOw,h.i.isOw];rfl
theorem OCode.noOw (x:OCode)(h:x.ok):Go.AE.noOw x.row=true:=by
 simp only[Go.AE.noOw,OCode.row,J2,J6,h.b.isOw];rfl
variable {H:Heap}{S:Nat→Bool}
def Held (H:Heap)(S:Nat→Bool)(l:List (Nat×Obj)):Prop:=∀p∈l,H p.1=p.2∧S p.1=true
theorem Held.l {a b:List (Nat×Obj)}(h:Held H S (a++b)):Held H S a:=fun p hp=>h p (Jc _ hp)
theorem Held.r {a b:List (Nat×Obj)}(h:Held H S (a++b)):Held H S b:=fun p hp=>h p (Jd _ hp)
theorem Held.m {α:Type}{f:α→List (Nat×Obj)}{l:List α}(h:Held H S (l.flatMap f)){x:α}(hx:x∈l):Held H S (f x):=fun p hp=>h p (List.mem_flatMap.2 ⟨x,hx,hp⟩)
theorem OInts.frz (x:OInts)(h:Held H S x.lg):FrzC H S x.c (.sl false 1 (Qb x.ns)):=by
 obtain⟨h1,h2⟩:=h (x.y,.vec 1 (Qb x.ns)) (by simp[OInts.lg]);exact (FrzR.same (Qz _)).vsl h2 h1 (by simp[Qb])
theorem OPhi.frz (x:OPhi)(hok:x.ok)(h:Held H S x.lg):FrzL H S x.row (PhiD.mk x.to x.ns).cells:=by
 refine .cons (Qi rfl) (.cons ?_ .nil);rcases hok with ⟨y,h1,h2⟩|⟨fl,h1,h2⟩
 ·obtain⟨h3,h4⟩:=h (y,.vec 1 (Qb x.ns)) (by rw[h2];simp);rw[h1];exact (FrzR.same (Qz _)).vsl h4 h3 (by simp[Qb])
 ·rw[h1];exact (FrzR.same (Qz _)).sl
theorem OIns.frz (x:OIns)(h:Held H S x.lg):FrzL H S x.row (InsD.mk x.op x.to x.a.ns x.n).cells:=.cons (Qi rfl) (.cons (Qi rfl) (.cons (x.a.frz h) (.cons (Qi rfl) .nil)))
theorem Qa4v {α β:Type}{f:α→List C}{g:β→List C}:∀(l:List α),(∀x∈l,∃y,FrzL H S (f x) (g y))→∃l':List β,FrzR H S (l.map f) (l'.map g)∧l'.length=l.length
 |[],_=>⟨[],.nil,rfl⟩
 |x::l,h=>by
  obtain⟨y,hy⟩:=h x J0;obtain⟨l',hl',hn⟩:=Qa4v l fun z hz=>h z (Ju _ hz);exact⟨y::l',.cons hy hl',by simp[hn]⟩
theorem Qxy {α β:Type}{P:β→Prop}{f:α→List C}{g:β→List C}:∀(l:List α),(∀x∈l,∃y,FrzL H S (f x) (g y)∧P y)→∃l':List β,FrzR H S (l.map f) (l'.map g)∧l'.length=l.length∧∀y∈l',P y
 |[],_=>⟨[],.nil,rfl,by simp⟩
 |x::l,h=>by
  obtain⟨y,hy,hp⟩:=h x J0;obtain⟨l',hl',hn,hps⟩:=Qxy l fun z hz=>h z (Ju _ hz);refine⟨y::l',.cons hy hl',by simp[hn],fun z hz=>?_⟩;rcases Jg.1 hz with rfl|hz
  ·exact hp
  ·exact hps z hz
theorem OBlk.frz (x:OBlk)(hok:x.ok)(h:Held H S x.lg):∃d:BlkD,FrzL H S x.row d.cells∧d.next=x.nx.ns∧d.ins.length=x.ins.length∧d.phis.length=x.phis.length:=by
 obtain⟨ps,hps,hpn⟩:=Qa4v (H:=H) (S:=S) (f:=OPhi.row) (g:=PhiD.cells) x.phis fun p hp=>⟨_,p.frz (hok.a p hp) (h.r.l.m hp)⟩;obtain⟨is,his,hin⟩:=Qa4v (H:=H) (S:=S) (f:=OIns.row) (g:=InsD.cells) x.ins fun p hp=>⟨_,p.frz (h.r.r.r.l.m hp)⟩;exact⟨⟨ps,is,x.jump,x.on,x.nx.ns⟩,.cons (Gr.frzM hok.p h.r.r.l hps) (.cons (Gr.frzM hok.i h.r.r.r.r his) (.cons (Qi rfl) (.cons (Qi rfl) (.cons (x.nx.frz h.l) .nil)))),rfl,hin,hpn⟩
end Go.AE.Y
namespace Go.AE.Y
theorem Qax5 {α:Type}{A L1 L2:List α}:(A++L1++L2).Perm (A++L2++L1):=by
 rw[Jk,Jk];exact .append_left _ Jp
structure BlkD.sm (b:BlkD):Prop where
 n:b.next.length≤2
 i:b.ins.length≤1000
 p:b.phis.length≤1000
 ia:∀x∈b.ins,x.args.length≤1000
 pa:∀x∈b.phis,x.args.length≤1000
structure CodeD.sm (c:CodeD):Prop where
 b0:0<c.blocks.length
 b:c.blocks.length≤160
 bs:∀b∈c.blocks,b.sm
 p0:0≤c.params
 p1:c.params≤1000
structure OBlk.sm (b:OBlk)(N:Nat):Prop where
 n:b.nx.ns.length≤2
 i:b.ins.length≤1000
 p:b.phis.length≤N
 ia:∀x∈b.ins,x.a.ns.length≤N
structure OCode.sm (c:OCode)(N:Nat):Prop where
 b0:0<c.blocks.length
 b:c.blocks.length≤160
 bs:∀b∈c.blocks,b.sm N
 p0:0≤c.params
 p1:c.params≤1000
theorem OBlk.sm.mono {b:OBlk}{N M:Nat}(h:b.sm N)(hm:N≤M):b.sm M:=⟨h.n,h.i,by have:=h.p;omega,fun x hx=>by have:=h.ia x hx;omega⟩
theorem OCode.sm.mono {c:OCode}{N M:Nat}(h:c.sm N)(hm:N≤M):c.sm M:=⟨h.b0,h.b,fun b hb=>(h.bs b hb).mono hm,h.p0,h.p1⟩
structure CodeD.gd (c:CodeD):Prop where
 b0:0<c.blocks.length
 b1:c.blocks.length≤160
 n:∀b∈c.blocks,b.next.length≤2
 f:c.fits
theorem CodeD.sm.fits {c:CodeD}(h:c.sm):c.fits:=fun b hb=>⟨by have:=(h.bs b hb).i;omega,by have:=(h.bs b hb).p;omega⟩
theorem CodeD.sm.gd {c:CodeD}(h:c.sm):c.gd:=⟨h.b0,h.b,fun b hb=>(h.bs b hb).n,h.fits⟩
structure BlkD.sg (b:BlkD):Prop where
 n:b.next.length≤1000000
 i:b.ins.length≤1000000
 p:b.phis.length≤1000000
 ia:∀x∈b.ins,x.args.length≤1000000
 pa:∀x∈b.phis,x.args.length≤1000000
structure CodeD.sg (c:CodeD):Prop where
 b:c.blocks.length≤1000000
 bs:∀b∈c.blocks,b.sg
theorem BlkD.sm.sg {b:BlkD}(h:b.sm):b.sg:=⟨by have:=h.n;omega,by have:=h.i;omega,by have:=h.p;omega,fun x hx=>by have:=h.ia x hx;omega,fun x hx=>by have:=h.pa x hx;omega⟩
theorem CodeD.sm.sg {c:CodeD}(h:c.sm):c.sg:=⟨by have:=h.b;omega,fun b hb=>(h.bs b hb).sg⟩
theorem BlkD.sm.o {o:OBlk}(h:o.d.sm):o.sm 1000:=
 ⟨h.n,by have:=h.i;simp only[OBlk.d,J3]at this;exact this,by have:=h.p;simp only[OBlk.d,J3]at this;exact this,fun x hx=>h.ia x.d (Jj.2 ⟨x,hx,rfl⟩)⟩
theorem CodeD.sm.o {o:OCode}(h:o.d.sm):o.sm 1000:=
 ⟨by have:=h.b0;simp only[OCode.d,J3]at this;exact this,by have:=h.b;simp only[OCode.d,J3]at this;exact this,fun b hb=>(h.bs b.d (Jj.2 ⟨b,hb,rfl⟩)).o,h.p0,h.p1⟩
variable {H:Heap}{S:Nat→Bool}
theorem OCode.frz (x:OCode){N:Nat}(hN:N≤100000)(hok:x.ok)(hs:x.sm N)(h:Held H S x.lg):∃d:CodeD,FrzL H S x.row d.cells∧d.gd:=by
 obtain⟨bs,hbs,hbn,hbp⟩:=Qxy (H:=H) (S:=S) (P:=fun d:BlkD=>d.next.length≤2∧d.ins.length≤2^38∧d.phis.length≤2^38) (f:=OBlk.row) (g:=BlkD.cells) x.blocks fun b hb=>by
  obtain⟨d,h1,h2,h3,h4⟩:=b.frz (hok.bs b hb) (h.l.m hb);have hsb:=hs.bs b hb;exact⟨d,h1,by rw[h2];exact hsb.n,by have:=hsb.i;omega,by have:=hsb.p;omega⟩
 have hb0:=hs.b0;have hb1:=hs.b;exact⟨⟨x.params,x.regs,bs⟩,.cons (Qi rfl) (.cons (Qi rfl) (.cons (Gr.frzM hok.b h.r hbs) .nil)),by show 0<bs.length;omega,by show bs.length≤_;omega,fun b hb=>(hbp b hb).1,fun b hb=>(hbp b hb).2⟩
theorem OCodes.frz {N:Nat}(hN:N≤100000){us:List OCode}{cc:C}{cl:List (Nat×Obj)}(hg:Gr cl 3 (us.map OCode.row) cc)(hu:∀u∈us,u.ok∧u.sm N)(h:Held H S (us.flatMap OCode.lg++cl)) :
  ∃cs:List CodeD,FrzC H S cc (.sl false 3 (Qj cs))∧cs.length=us.length∧∀c∈cs,c.gd:=by
 obtain⟨cs,h1,h2,h3⟩:=Qxy (H:=H) (S:=S) (P:=CodeD.gd) (f:=OCode.row) (g:=CodeD.cells) us fun u hu2=>u.frz hN (hu u hu2).1 (hu u hu2).2 (h.l.m hu2);exact⟨cs,Gr.frzM hg h.r h1,h2,h3⟩
end Go.AE.Y
namespace Go.AE
variable {P:Program}
theorem Qd3 {a b:SC}{Q:X→Env→Heap→Prop}{e:Env}{H:Heap}(T:Env→Heap→Prop)(h1:∀Q':X→Env→Heap→Prop,(∀e H,T e H→Q' .nrm e H)→(∀e H,Q .ret e H→Q' .ret e H)→(∀i e H,Q (.exit i) e H→Q' (.exit i) e H)→Qam P a Q' e H)
  (h2:∀e H,T e H→Qam P b Q e H):Qam P (.seq a b) Q e H:=h1 (X.sq P b Q) h2 (fun _ _ h=>h) (fun _ _ _ h=>h)
end Go.AE
namespace Go.AE.Y
structure UPhi where
 to:Int
 ns:List Int
 ac:C
 al:List (Nat×Obj)
def UPhi.row (x:UPhi):List C:=[.int .i64 x.to,x.ac]
structure UBlk where
 phis:List UPhi
 pc:C
 pl:List (Nat×Obj)
 ins:List InsD
 ic:C
 il:List (Nat×Obj)
 jump:Int
 on:Int
 nfl:Bool
 next:List Int
def UBlk.row (x:UBlk):List C:=[x.pc,x.ic,.int .i64 x.jump,.int .i64 x.on,.sl x.nfl 1 (Qb x.next)]
def UBlk.lg (x:UBlk):List (Nat×Obj):=x.il++(x.phis.flatMap UPhi.al++x.pl)
structure UBlk.ok (x:UBlk):Prop where
 p:Gr x.pl 2 (x.phis.map UPhi.row) x.pc
 i:Gr x.il 4 (Qag x.ins) x.ic
 a:∀p∈x.phis,Gr p.al 1 (Qb p.ns) p.ac
structure UBlk.sm (b:UBlk)(N:Nat):Prop where
 n:b.next.length≤2
 i:b.ins.length≤1000
 p:b.phis.length≤N
 ia:∀x∈b.ins,x.args.length≤1000
 pa:∀x∈b.phis,x.ns.length≤1000
structure UCode where
 params:Int
 regs:Int
 blocks:List UBlk
 bc:C
 bl:List (Nat×Obj)
def UCode.row (x:UCode):List C:=[.int .i64 x.params,.int .i64 x.regs,x.bc]
def UCode.lg (x:UCode):List (Nat×Obj):=x.blocks.flatMap UBlk.lg++x.bl
structure UCode.ok (x:UCode):Prop where
 b:Gr x.bl 5 (x.blocks.map UBlk.row) x.bc
 bs:∀b∈x.blocks,b.ok
 p0:0≤x.params
 p1:x.params≤3
structure UCode.sm (c:UCode)(N:Nat):Prop where
 b0:0<c.blocks.length
 b:c.blocks.length≤160
 bs:∀b∈c.blocks,b.sm N
theorem UPhi.noOw (x:UPhi)(h:Gr x.al 1 (Qb x.ns) x.ac):Go.AE.noOw x.row=true:=by
 simp only[Go.AE.noOw,UPhi.row,J2,J6,h.isOw];rfl
theorem UBlk.noOw (x:UBlk)(h:x.ok):Go.AE.noOw x.row=true:=by
 simp only[Go.AE.noOw,UBlk.row,J2,J6,h.p.isOw,h.i.isOw];rfl
theorem UCode.noOw (x:UCode)(h:x.ok):Go.AE.noOw x.row=true:=by
 simp only[Go.AE.noOw,UCode.row,J2,J6,h.b.isOw];rfl
theorem UBlk.len5 (x:UBlk):x.row.length=5:=rfl
theorem UCode.len3 (x:UCode):x.row.length=3:=rfl
theorem UBlk.sm.mono {b:UBlk}{N M:Nat}(h:b.sm N)(hm:N≤M):b.sm M:=⟨h.n,h.i,by have:=h.p;omega,h.ia,h.pa⟩
theorem UCode.sm.mono {c:UCode}{N M:Nat}(h:c.sm N)(hm:N≤M):c.sm M:=⟨h.b0,h.b,fun b hb=>(h.bs b hb).mono hm⟩
variable {H:Heap}{S:Nat→Bool}
theorem UBlk.frz (x:UBlk){N:Nat}(hN:N≤1000)(hok:x.ok)(hs:x.sm N)(h:Held H S x.lg):∃d:BlkD,FrzL H S x.row d.cells∧d.sm:=by
 obtain⟨ps,hps,hpn,hpp⟩:=Qxy (H:=H) (S:=S) (P:=fun p:PhiD=>p.args.length≤1000) (f:=UPhi.row) (g:=PhiD.cells) x.phis fun p hp=>
  ⟨⟨p.to,p.ns⟩,.cons (Qi rfl) (.cons (Gr.frzM (hok.a p hp) (h.r.l.m hp) (FrzR.same (Qz _))) .nil),hs.pa p hp⟩
 have h1:=hs.n;have h2:=hs.i;have h3:=hs.p;exact⟨⟨ps,x.ins,x.jump,x.on,x.next⟩,.cons (Gr.frzM hok.p h.r.r hps) (.cons (Gr.frzM hok.i h.l (FrzR.same (Qed _))) (.cons (Qi rfl) (.cons (Qi rfl) (.cons (FrzR.same (Qz _)).sl .nil)))),
  h1,h2,by show ps.length≤_;omega,hs.ia,hpp⟩
theorem UCode.frz (x:UCode){N:Nat}(hN:N≤1000)(hok:x.ok)(hs:x.sm N)(h:Held H S x.lg):∃d:CodeD,FrzL H S x.row d.cells∧d.sm:=by
 obtain⟨bs,hbs,hbn,hbp⟩:=Qxy (H:=H) (S:=S) (P:=BlkD.sm) (f:=UBlk.row) (g:=BlkD.cells) x.blocks fun b hb=>b.frz hN (hok.bs b hb) (hs.bs b hb) (h.l.m hb);have hb0:=hs.b0;have hb1:=hs.b;exact⟨⟨x.params,x.regs,bs⟩,.cons (Qi rfl) (.cons (Qi rfl) (.cons (Gr.frzM hok.b h.r hbs) .nil)),by show 0<bs.length;omega,by show bs.length≤_;omega,hbp,hok.p0,by have:=hok.p1;show x.params≤_;omega⟩
theorem UCodes.frz {us:List UCode}{N:Nat}(hN:N≤1000){cc:C}{cl:List (Nat×Obj)}(hg:Gr cl 3 (us.map UCode.row) cc)(hu:∀u∈us,u.ok∧u.sm N)(h:Held H S (us.flatMap UCode.lg++cl)) :
  ∃cs:List CodeD,FrzC H S cc (.sl false 3 (Qj cs))∧cs.length=us.length∧∀c∈cs,c.sm:=by
 obtain⟨cs,h1,h2,h3⟩:=Qxy (H:=H) (S:=S) (P:=CodeD.sm) (f:=UCode.row) (g:=CodeD.cells) us fun u hu2=>u.frz hN (hu u hu2).1 (hu u hu2).2 (h.l.m hu2);exact⟨cs,Gr.frzM hg h.r h1,h2,h3⟩
end Go.AE.Y
namespace Go.AE.Y
theorem Qp {α:Type}{l1 l2:List α}(h:∀f:List α→Nat,(∀a b,f (a++b)=f a+f b)→f []=0→(∀x l,f (x::l)=f [x]+f l)→(∀a b:List α,a.Perm b→f a=f b)→f l1=f l2):l1.Perm l2:=by
 classical
 exact List.perm_iff_count.2 fun a=>h (List.count a) (fun _ _=>List.count_append) rfl (fun x l=>by rw[Jat,Jat];simp;omega) (fun _ _ hp=>hp.count_eq a)
def UBlk.core (x:UBlk):List (Nat×Obj):=x.il++x.phis.flatMap UPhi.al
def Qawq (us:List UCode)(ci bi:Nat)(hc:ci<us.length):List (Nat×Obj):=(us[ci].blocks.eraseIdx bi).flatMap UBlk.lg++(us.eraseIdx ci).flatMap UCode.lg
theorem Qbrz (us:List UCode)(ci bi:Nat)(hc:ci<us.length)(hb:bi<us[ci].blocks.length) :
  (us.flatMap UCode.lg).Perm (us[ci].bl++(us[ci].blocks[bi].pl++(us[ci].blocks[bi].core++Qawq us ci bi hc))):=by
 refine Qp fun f hf h0 hc1 hp=>?_;rw[hp _ _ (Qiq UCode.lg us ci hc)];simp only[hf,UCode.lg,Qawq];rw[hp _ _ (Qiq UBlk.lg us[ci].blocks bi hb)];simp only[hf,UBlk.lg,UBlk.core];omega
def UCode.put (u:UCode)(bi:Nat)(b:UBlk)(bl:List (Nat×Obj)):UCode:={ u with blocks:=u.blocks.set bi b,bl:=bl }
theorem Qbu8 (us:List UCode)(ci bi:Nat)(hc:ci<us.length)(hb:bi<us[ci].blocks.length)(b:UBlk)(bl:List (Nat×Obj)) :
  ((us.set ci (us[ci].put bi b bl)).flatMap UCode.lg).Perm (bl++(b.pl++(b.core++Qawq us ci bi hc))):=by
 refine Qp fun f hf h0 hc1 hp=>?_;rw[hp _ _ (Qgo UCode.lg us ci _ hc)];simp only[hf,UCode.lg,Qawq,UCode.put];rw[hp _ _ (Qgo UBlk.lg us[ci].blocks bi _ hb)];simp only[hf,UBlk.lg,UBlk.core];omega
theorem UBlk.core_snoc (b:UBlk)(p:UPhi)(pc:C)(pl:List (Nat×Obj)):UBlk.core { b with phis:=b.phis++[p],pc:=pc,pl:=pl }=b.core++p.al:=by
 simp[UBlk.core,Jan]
theorem UCode.put_row (u:UCode)(bi:Nat)(b:UBlk)(bl:List (Nat×Obj)):(u.put bi b bl).row=u.row:=rfl
theorem Qbu9 (us:List UCode)(ci:Nat)(hc:ci<us.length)(u:UCode)(h:u.row=us[ci].row):(us.set ci u).map UCode.row=us.map UCode.row:=by
 rw[J8,h];refine Jag (by simp) fun i h1 h2=>?_;rw[J9];split
 ·rename_i h;subst h;simp
 ·rfl
theorem UCode.put_ok {u:UCode}{bi:Nat}{b:UBlk}{y:Nat}(h:u.ok)(hb:b.ok)(hbl:u.bl=[(y,.vec 5 (u.blocks.map UBlk.row))]):(u.put bi b [(y,.vec 5 ((u.blocks.set bi b).map UBlk.row))]).ok:=by
 refine⟨?_,fun b' hb'=>?_,h.p0,h.p1⟩
 ·rcases h.b with ⟨h1,h2,h3⟩|⟨y',h1,h2⟩
  ·rw[hbl]at h3;simp at h3
  ·rw[hbl]at h2;have:y=y':=by simpa using h2
   subst this;exact .inr ⟨y,by show u.bc=_;rw[h1];simp[UCode.put],rfl⟩
 ·rcases Jo hb' with hb'|rfl
  ·exact h.bs _ hb'
  ·exact hb
theorem UCode.put_sm {u:UCode}{bi N:Nat}{b:UBlk}{bl:List (Nat×Obj)}(h:u.sm N)(hb:b.sm (N+1)):(u.put bi b bl).sm (N+1):=by
 refine⟨by show 0<(u.blocks.set bi b).length;simpa using h.b0,by show (u.blocks.set bi b).length≤_;simpa using h.b,fun b' hb'=>?_⟩;rcases Jo hb' with hb'|rfl
 ·exact (h.bs _ hb').mono (by omega)
 ·exact hb
theorem UCode.bvec {u:UCode}(h:u.ok)(h0:0<u.blocks.length):∃y,u.bc=.vsl y 5 0 u.blocks.length∧u.bl=[(y,.vec 5 (u.blocks.map UBlk.row))]:=by
 rcases h.b with ⟨h1,h2,h3⟩|⟨y,h1,h2⟩
 ·have:=Jab.1 h2;rw[this]at h0;simp at h0
 ·exact⟨y,by rw[h1];simp,h2⟩
def Qamh (us:List OCode)(ci bi:Nat)(hc:ci<us.length):List (Nat×Obj):=(us[ci].blocks.eraseIdx bi).flatMap OBlk.lg++(us.eraseIdx ci).flatMap OCode.lg
theorem Qbpq (us:List OCode)(ci bi:Nat)(hc:ci<us.length)(hb:bi<us[ci].blocks.length) :
  (us.flatMap OCode.lg).Perm (us[ci].bl++(us[ci].blocks[bi].lg++Qamh us ci bi hc)):=by
 refine Qp fun f hf h0 hc1 hp=>?_;rw[hp _ _ (Qiq OCode.lg us ci hc)];simp only[hf,OCode.lg,Qamh];rw[hp _ _ (Qiq OBlk.lg us[ci].blocks bi hb)];simp only[hf];omega
def OCode.put (u:OCode)(bi:Nat)(b:OBlk)(bl:List (Nat×Obj)):OCode:={ u with blocks:=u.blocks.set bi b,bl:=bl }
theorem Qbue (us:List OCode)(ci bi:Nat)(hc:ci<us.length)(hb:bi<us[ci].blocks.length)(b:OBlk)(bl:List (Nat×Obj)) :
  ((us.set ci (us[ci].put bi b bl)).flatMap OCode.lg).Perm (bl++(b.lg++Qamh us ci bi hc)):=by
 refine Qp fun f hf h0 hc1 hp=>?_;rw[hp _ _ (Qgo OCode.lg us ci _ hc)];simp only[hf,OCode.lg,Qamh,OCode.put];rw[hp _ _ (Qgo OBlk.lg us[ci].blocks bi _ hb)];simp only[hf];omega
theorem Qbuf (us:List OCode)(ci:Nat)(hc:ci<us.length)(u:OCode)(h:u.row=us[ci].row):(us.set ci u).map OCode.row=us.map OCode.row:=by
 rw[J8,h];refine Jag (by simp) fun i h1 h2=>?_;rw[J9];split
 ·rename_i h;subst h;simp
 ·rfl
theorem OCode.put_ok {u:OCode}{bi:Nat}{b:OBlk}{y:Nat}(h:u.ok)(hb:b.ok)(hbl:u.bl=[(y,.vec 5 (u.blocks.map OBlk.row))]):(u.put bi b [(y,.vec 5 ((u.blocks.set bi b).map OBlk.row))]).ok:=by
 refine⟨?_,fun b' hb'=>?_⟩
 ·rcases h.b with ⟨h1,h2,h3⟩|⟨y',h1,h2⟩
  ·rw[hbl]at h3;simp at h3
  ·rw[hbl]at h2;have:y=y':=by simpa using h2
   subst this;exact .inr ⟨y,by show u.bc=_;rw[h1];simp[OCode.put],rfl⟩
 ·rcases Jo hb' with hb'|rfl
  ·exact h.bs _ hb'
  ·exact hb
theorem OCode.put_sm {u:OCode}{bi:Nat}{b:OBlk}{bl:List (Nat×Obj)}{N:Nat}(h:u.sm N)(hb:b.sm (N+1)):(u.put bi b bl).sm (N+1):=by
 refine⟨by show 0<(u.blocks.set bi b).length;simpa using h.b0,by show (u.blocks.set bi b).length≤_;simpa using h.b,fun b' hb'=>?_,h.p0,h.p1⟩;rcases Jo hb' with hb'|rfl
 ·exact (h.bs _ hb').mono (by omega)
 ·exact hb
theorem OCode.bvec {u:OCode}(h:u.ok)(h0:0<u.blocks.length):∃y,u.bc=.vsl y 5 0 u.blocks.length∧u.bl=[(y,.vec 5 (u.blocks.map OBlk.row))]:=by
 rcases h.b with ⟨h1,h2,h3⟩|⟨y,h1,h2⟩
 ·have:=Jab.1 h2;rw[this]at h0;simp at h0
 ·exact⟨y,by rw[h1];simp,h2⟩
theorem OBlk.ivec {u:OBlk}(h:u.ok)(h0:0<u.ins.length):∃y,u.ic=.vsl y 4 0 u.ins.length∧u.il=[(y,.vec 4 (u.ins.map OIns.row))]:=by
 rcases h.i with ⟨h1,h2,h3⟩|⟨y,h1,h2⟩
 ·have:=Jab.1 h2;rw[this]at h0;simp at h0
 ·exact⟨y,by rw[h1];simp,h2⟩
variable {H0 H H2:Heap}{E X cl:List (Nat×Obj)}
theorem Qbdq {us:List OCode}{ci bi yb:Nat}{u:OCode}{b:OBlk}(kn:Kn H0 H E (X++us.flatMap OCode.lg++cl))(hc:ci<us.length)(hu:us[ci]=u)(hb:bi<u.blocks.length)(hub:u.blocks[bi]=b)
  (hbl:u.bl=[(yb,.vec 5 (u.blocks.map OBlk.row))]):Kn H0 H E ([(yb,.vec 5 (u.blocks.map OBlk.row))]++(b.lg++(Qamh us ci bi hc++(X++cl)))):=by
 subst hu;subst hub;refine kn.perm (Qp fun f hf h0 hc1 hp=>?_);have h1:=hp _ _ (Qbpq us ci bi hc hb);rw[hbl]at h1;simp only[hf]at h1⊢;omega
theorem Qbhs {us:List OCode}{ci bi yb:Nat}{u:OCode}{b':OBlk}{cc:C}(hc:ci<us.length)(hu:us[ci]=u)(hb:bi<u.blocks.length)
  (hbl:u.bl=[(yb,.vec 5 (u.blocks.map OBlk.row))]) {N:Nat} (hok:∀u∈us,u.ok∧u.sm N) (hok':b'.ok) (hsm':b'.sm (N+1)) (hg:Gr cl 3 (us.map OCode.row) cc)
  (kn:Kn H0 H E ([(yb,.vec 5 ((u.blocks.set bi b').map OBlk.row))]++(b'.lg++(Qamh us ci bi hc++(X++cl))))) :
  ∃us':List OCode,us'.length=us.length∧Gr cl 3 (us'.map OCode.row) cc∧(∀u∈us',u.ok∧u.sm (N+1))∧Kn H0 H E (X++us'.flatMap OCode.lg++cl):=by
 obtain⟨h1,h2⟩:=hok _ (Jah hc);rw[hu]at h1 h2;refine⟨us.set ci (u.put bi b' [(yb,.vec 5 ((u.blocks.set bi b').map OBlk.row))]),by simp,?_,fun v hv=>?_,kn.perm (Qp fun f hf h0 hc1 hp=>?_)⟩
 ·rw[Qbuf us ci hc _ (by rw[hu];rfl)];exact hg
 ·rcases Jo hv with hv|rfl
  ·exact⟨(hok v hv).1,(hok v hv).2.mono (by omega)⟩
  ·exact⟨OCode.put_ok h1 hok' hbl,OCode.put_sm h2 hsm'⟩
 ·subst hu;have h1:=hp _ _ (Qbue us ci bi hc hb b' [(yb,.vec 5 ((us[ci].blocks.set bi b').map OBlk.row))]);simp only[hf]at h1⊢;omega
theorem Qadr {l:List OBlk}{bi:Nat}{b:OBlk}(hb:bi<l.length)(h:b.row=(l[bi]).row):(l.set bi b).map OBlk.row=l.map OBlk.row:=by
 rw[J8,h];refine Jag (by simp) fun i h1 h2=>?_;rw[J9];split
 ·rename_i h;subst h;simp
 ·rfl
variable {b b':OBlk}{R:List (Nat×Obj)}{p:Nat×Obj}
theorem Qask {yi:Nat}(kn:Kn H0 H E ([p]++(b.lg++R)))(hil:b.il=[(yi,.vec 4 (b.ins.map OIns.row))]) :
  Kn H0 H E ([(yi,.vec 4 (b.ins.map OIns.row))]++([p]++(b.nx.lg++(b.phis.flatMap OPhi.lg++(b.pl++(b.ins.flatMap OIns.lg++R)))))):=by
 refine kn.perm (Qp fun f hf h0 hc1 hp=>?_);simp only[OBlk.lg,hil,hf];omega
theorem Qbih {yi:Nat}{is:List OIns}(kn:Kn H0 H E ([(yi,.vec 4 (is.map OIns.row))]++([p]++(b.nx.lg++(b.phis.flatMap OPhi.lg++(b.pl++(b.ins.flatMap OIns.lg++R)))))))
  (hl:(is.flatMap OIns.lg).Perm (b.ins.flatMap OIns.lg)):Kn H0 H E ([p]++(OBlk.lg { b with ins:=is,il:=[(yi,.vec 4 (is.map OIns.row))] }++R)):=by
 refine kn.perm (Qp fun f hf h0 hc1 hp=>?_);have:=hp _ _ hl;simp only[OBlk.lg,hf];omega
theorem Q75 {l:List OIns}{i:Nat}{x':OIns}(hi:i<l.length)(h:x'.lg=(l[i]).lg):((l.set i x').flatMap OIns.lg).Perm (l.flatMap OIns.lg):=by
 refine (Qgo OIns.lg l i x' hi).trans ?_;rw[h];exact (Qiq OIns.lg l i hi).symm
theorem OBlk.ins_ok {yi:Nat}{i:Nat}{x':OIns}(h:b.ok)(hic:b.ic=.vsl yi 4 0 b.ins.length):OBlk.ok { b with ins:=b.ins.set i x',il:=[(yi,.vec 4 ((b.ins.set i x').map OIns.row))] }:=
 ⟨h.p,.inr ⟨yi,by show b.ic=_;rw[hic];simp,rfl⟩,h.a⟩
theorem OBlk.ins_sm {yi:Nat}{i:Nat}{x':OIns}{N:Nat}(h:b.sm N)(hx:x'.a.ns.length≤N+1):OBlk.sm { b with ins:=b.ins.set i x',il:=[(yi,.vec 4 ((b.ins.set i x').map OIns.row))] } (N+1):=by
 refine⟨h.n,by simpa using h.i,by have:=h.p;show b.phis.length≤_;omega,fun x hx2=>?_⟩;rcases Jo hx2 with hx2|rfl
 ·have:=h.ia x hx2;omega
 ·exact hx
end Go.AE.Y
namespace Go.AE.Y
abbrev Qkd:Nat:=6
abbrev Qaa8:Nat:=7
abbrev Qeu:Nat:=14
abbrev Qdz:Nat:=15
abbrev Qgq:Nat:=16
abbrev Qbb:Nat:=17
abbrev Qdp:Nat:=24
abbrev Qdy:Nat:=25
abbrev Qke:Nat:=26
abbrev Qcp:Nat:=27
abbrev Qgp:Nat:=28
abbrev Q0z:Nat:=29
abbrev Qes:Nat:=30
abbrev Qk4:Nat:=31
abbrev Qld:Nat:=32
abbrev Qxt:Nat:=43
abbrev Qxw:Nat:=44
abbrev Qnu:Nat:=45
abbrev Q49:Nat:=47
abbrev Qn1:Nat:=48
abbrev Qnw:Nat:=49
abbrev Qd0:Nat:=50
abbrev Qh5:Nat:=51
abbrev Qf9:Nat:=52
abbrev Qar:Nat:=53
abbrev Qsw:Nat:=54
abbrev Qcd:Nat:=55
abbrev Q5c:Nat:=61
abbrev Qq:Nat:=62
abbrev Qac:Nat:=63
abbrev Qsv:Nat:=64
abbrev Qc4:Nat:=65
abbrev Qka:Nat:=66
abbrev Qbv:Nat:=67
abbrev Qaek:Nat:=68
abbrev Qbm:Nat:=69
abbrev Q5g:Nat:=70
abbrev Qc5:Nat:=71
abbrev Ql3:Nat:=72
abbrev Qcr:Nat:=73
abbrev Qk7:Nat:=81
abbrev Qnv:Nat:=82
abbrev Qis:Nat:=87
abbrev Qiz:Nat:=88
abbrev Qbw:Nat:=89
abbrev Ql6:Nat:=91
abbrev Qadt:Nat:=92
abbrev Qaeq:Nat:=93
abbrev Q5b:Nat:=94
abbrev Qcv:Nat:=95
abbrev Q5a:Nat:=97
abbrev Qla:Nat:=98
abbrev Qc6:Nat:=99
abbrev Qn5:Nat:=100
abbrev Qap:Nat:=101
abbrev Qix:Nat:=102
abbrev Qgy:Nat:=103
abbrev Qbk:Nat:=104
abbrev Qit:Nat:=105
abbrev Qcw:Nat:=106
abbrev Qiu:Nat:=107
abbrev Q0x:Nat:=108
abbrev Qeq:Nat:=109
abbrev Qiv:Nat:=110
abbrev Qco:Nat:=112
abbrev Ql8:Nat:=118
abbrev Qiw:Nat:=119
abbrev Qss:Nat:=120
abbrev Qgb:Nat:=121
abbrev Qs2:Nat:=122
abbrev Q5e:Nat:=123
abbrev Qdo:Nat:=124
abbrev Qa5:Nat:=125
abbrev Qga:Nat:=126
abbrev Qnr:Nat:=133
abbrev Qst:Nat:=134
abbrev Qhi:Nat:=135
abbrev Qcz:Nat:=136
abbrev Qce:Nat:=144
abbrev Q5k:Nat:=145
abbrev Qk9:Nat:=146
abbrev Qn0:Nat:=147
abbrev Q2m:Nat:=148
abbrev Qaev:Nat:=149
abbrev Qaeo:Nat:=150
abbrev Q48:Nat:=151
abbrev Qbd5:Nat:=152
abbrev Qbd6:Nat:=153
abbrev Qa4o:Nat:=154
abbrev Qa4p:Nat:=155
abbrev Q5d:Nat:=156
abbrev Qaw2:Nat:=157
abbrev Qbh9:Nat:=158
abbrev Qa4q:Nat:=159
abbrev Qa4r:Nat:=160
abbrev Qbd7:Nat:=161
abbrev Qbd9:Nat:=162
abbrev Qbd8:Nat:=163
abbrev Qa4s:Nat:=164
abbrev Qsx:Nat:=165
abbrev Qi0:Nat:=166
abbrev Qd5:Nat:=167
abbrev Qds:Nat:=168
abbrev Qnt:Nat:=169
abbrev Qk6:Nat:=170
abbrev Ql1:Nat:=171
abbrev Qj9:Nat:=172
abbrev Qns:Nat:=173
abbrev Qlb:Nat:=174
abbrev Qdm:Nat:=175
abbrev Qdr:Nat:=176
abbrev Qdl:Nat:=177
abbrev Qdq:Nat:=178
abbrev Qbo:Nat:=185
abbrev Qaei:Nat:=186
abbrev Qik:Nat:=187
abbrev Ql7:Nat:=188
abbrev Qd6:Nat:=189
abbrev Qk5:Nat:=190
abbrev Q5j:Nat:=206
abbrev Qhh:Nat:=207
abbrev Qsu:Nat:=208
abbrev Qdn:Nat:=209
abbrev Qbi:Nat:=210
abbrev Qd4:Nat:=211
abbrev Qc0:Nat:=212
abbrev Qase:Nat:=214
abbrev Q2l:Nat:=215
abbrev Qaer:Nat:=216
abbrev Qa4u:Nat:=217
abbrev Qnx:Nat:=218
abbrev Qet:Nat:=219
abbrev Qn4:Nat:=220
abbrev Qxu:Nat:=225
abbrev Qb0:Nat:=241
abbrev Qs1:Nat:=242
abbrev Qj3:Nat:=243
abbrev Ql9:Nat:=244
abbrev Qlc:Nat:=245
abbrev Qer:Nat:=246
abbrev Qaej:Nat:=247
abbrev Qi1:Nat:=248
abbrev Qq6:Nat:=249
abbrev Qaeu:Nat:=266
abbrev Qbx:Nat:=268
abbrev Qcy:Nat:=269
abbrev Qir:Nat:=270
abbrev Ql2:Nat:=271
abbrev Qsy:Nat:=272
abbrev Qaes:Nat:=273
abbrev Qaet:Nat:=274
abbrev Qsz:Nat:=275
abbrev Qaw:Nat:=276
abbrev Qct:Nat:=277
abbrev Qa1:Nat:=278
abbrev Qa9:Nat:=279
abbrev Qa3:Nat:=280
abbrev Qcs:Nat:=281
abbrev Qbh:Nat:=282
abbrev Qa4t:Nat:=283
abbrev Qasd:Nat:=284
abbrev Q5f:Nat:=287
abbrev Qgr:Nat:=307
abbrev Qn3:Nat:=308
abbrev Qnz:Nat:=309
abbrev Qgz:Nat:=310
abbrev Qec:Nat:=311
abbrev Ql5:Nat:=312
abbrev Ql4:Nat:=313
abbrev Q0y:Nat:=314
abbrev Qn2:Nat:=319
abbrev Qci:Nat:=320
abbrev Qkc:Nat:=321
abbrev Qiy:Nat:=322
abbrev Qkb:Nat:=323
abbrev Qh6:Nat:=324
abbrev Qny:Nat:=325
abbrev Qaem:Nat:=326
abbrev Qasb:Nat:=327
abbrev Qasc:Nat:=328
abbrev Qaep:Nat:=329
abbrev Qs0:Nat:=331
abbrev Q5l:Nat:=332
abbrev Qk8:Nat:=333
abbrev Q5h:Nat:=334
abbrev Qle:Nat:=335
abbrev Qaen:Nat:=336
abbrev Qi2:Nat:=337
abbrev Q5i:Nat:=338
abbrev Q2k:Nat:=339
abbrev Qxv:Nat:=340
abbrev Qael:Nat:=341
open Go.Proofs.Tryz
def Q8o:List Item:=[cJ 5 .eql 4 0]
def Q8p:List Item:=[sJ 1 2 7]
def Qa53:SC:=cT 5 (sR (mJ 6 0::aJ 7 Qaeq [.t 6]::Q8p) [2] .ret) .skip
def Q8q:List Item:=[sJ 1 2 9]
def Qa54:SC:=sR (mJ 8 0::aJ 9 Q5b [.t 8]::Q8q) [2] .ret
def Qa55:SC:=.seq (sR (mJ 3 0::aJ 4 Qq [.t 3,kI 12]::Q8o) [0,2,5] Qa53) Qa54
def Qbk1:SC:=sR [eI 2 (.alloc [.sl true 3 []])] [0,2] Qa55
def Qafq:List RS:=[.cell 2 1 true]
theorem Qbjl:mFn prog Qxt 1 10 Qbk1 Qafq=true:=by kernel_rfl
def Qao1:SC:=cT 24 (sR [zJ 4 0] [4] .ret) .skip
def Qao2:SC:=cT 36 (sR [mJ 37 0,kJ 38 37,fJ 39 0 38,lJ 40 39,mJ 41 5,iJ 42 1 40 41,lJ 43 42,fI 44 (.cvt .i64 (.t 43)),mJ 45 1,bJ 46 .rem 44 45,mJ 4 46] [4] .ret) .skip
def Qao3:SC:=sR [mJ 96 6,mJ 97 1,bJ 98 .rem 96 97,mJ 4 98] [4] .ret
def Qao4:SC:=sR [mJ 92 6,mJ 93 6,cJ 94 .quo 93 64,bJ 95 .xor 92 94,mJ 6 95] [1,6] Qao3
def Qao5:SC:=.seq (.dreg 46 [0,1,2,3,4,5,6,7,8,9,10,11,12,13,14,15,16,17,18,19,20,21,22,23,24,25,26,27,28,29,30,31,32,33,34,35,36,37,38,39,40,41,42,43,44,45] ( mJ 47 0::kJ 48 47::fJ 49 0 48::lJ 50 49::mJ 51 5::mJ 52 0::kJ 53 52::fJ 54 0 53::lJ 55 54::nJ 56 55::bJ 57 .rem 51 56::iJ 58 1 50 57::lJ 59 58::fI 60 (.cvt .i64 (.t 59))::cJ 61 .mul 60 131::mJ 62 0::kJ 63 62::fJ 64 0 63::lJ 65 64::mJ 66 5::cJ 67 .mul 66 7::cJ 68 .add 67 3::mJ 69 0::kJ 70 69::fJ 71 0 70::lJ 72 71::nJ 73 72::bJ 74 .rem 68 73::iJ 75 1 65 74::lJ 76 75::fI 77 (.cvt .i64 (.t 76))::cJ 78 .mul 77 1117::bJ 79 .add 61 78::mJ 80 5::cJ 81 .mul 80 29::bJ 82 .add 79 81::mJ 83 5::mJ 84 0::kJ 85 84::fJ 86 0 85::lJ 87 86::nJ 88 87::bJ 89 .quo 83 88::cJ 90 .mul 89 53::bJ 91 .add 82 90::mJ 6 91::[]) [1,6]) Qao4
def Qao6:SC:=.seq (sR [mJ 30 5,mJ 31 0,kJ 32 31,fJ 33 0 32,lJ 34 33,nJ 35 34,bJ 36 .lss 30 35] [0,1,5,36] Qao2) Qao5
def Qao7:SC:=sR [mJ 25 0,kJ 26 25,fJ 27 1 26,lJ 28 27,cJ 29 .sub 28 1,mJ 5 29] [0,1,5] Qao6
def Qao8:SC:=.seq (sR [mJ 15 1,cJ 16 .lss 15 1,mJ 17 16,gFm 18 17 0,gF 19 17 (.nck (.t 18)),gFf 20 17 0 19,gFl 21 17 20,gF 22 17 (.len (.t 21)),gF 23 17 (.bin 0 .eql (.t 22) (kI 0)),pT 24 17 23] [0,1,24] Qao1) Qao7
def Qao9:SC:=sR [mJ 7 0,mJ 8 0,kJ 9 8,fJ 10 1 9,lJ 11 10,cJ 12 .add 11 1,kJ 13 7,fJ 14 1 13,sJ 1 14 12] [0,1] Qao8
def Qa1g:SC:=sR [zJ 4 0] [0,1] Qao9
def Qkk:List RS:=[.tmp 4]
theorem Qaxr:mFn prog Qq 2 99 Qa1g Qkk=true:=by kernel_rfl
def Qai6:List Item:=[sJ 1 3 9]
def Qai7:List Item:=eI 3 (.alloc [.sl true 3 []])::Qai6
def Qai8:List Item:=aJ 9 Qn0 [.t 8]::Qai7
def Qai9:List Item:=[hJ 11 10,iJ 17 3 11 16,mJ 4 17]
def Qaja:List Item:=[hJ 21 20,iJ 29 5 21 28,mJ 5 29]
def Qajb:List Item:=[mJ 6 41]
def Qajc:List Item:=[kJ 49 46,fJ 50 2 49,sJ 1 50 48]
def Qbga:SC:=cT 58 (.reg [mJ 59 5,kJ 60 59,fJ 61 4 60,lJ 62 61,mJ 63 6,fI 64 (.iad 1 (.t 62) (kI 0)),sJ 1 64 63] [2,3]) .skip
def Qbgb:SC:=cT 78 (.reg [mJ 79 5,kJ 80 79,fJ 81 1 80,lJ 82 81,mJ 83 6,fI 84 (.iad 4 (.t 82) (kI 0)),fJ 85 1 84,sJ 1 85 83] [2,3]) .skip
def Qajd:List Item:=[hJ 97 96,fI 108 (.iad 4 (.t 97) (kI 0)),fJ 109 2 108,sJ 1 109 107]
def Qa8q:SC:=cT 93 (.dreg 17 [0,1,2,3,4,5,6,7,8,9,10,11,12,13,3,14,15,16] ( mJ 94 5::kJ 95 94::fJ 96 1 95::lJ 97 96::mJ 98 5::kJ 99 98::fJ 100 1 99::lJ 101 100::fI 102 (.iad 4 (.t 101) (kI 0))::fJ 103 2 102::lJ 104 103::mJ 105 6::fI 106 (.bsl 1 [.t 105])::xJ 107 1 104 106::Qajd) [2,3]) .skip
def Qaab:List Item:=[kJ 122 112,fJ 123 0 122,sJ 1 123 121]
def Qaac:List Item:=[hJ 130 129,bJ 133 .add 130 132,kJ 134 126,fJ 135 1 134,sJ 1 135 133]
def Qaad:List Item:=[hJ 147 146,fI 151 (.iad 4 (.t 147) (kI 0)),fJ 152 3 151,sJ 1 152 150]
def Qa8r:SC:=cT 143 (.dreg 10 [0,1,2,3,4,5,6,3,7,8,9] ( mJ 144 5::kJ 145 144::fJ 146 1 145::lJ 147 146::mJ 148 0::fI 149 (.bsl 1 [kI 256,kI (-1),kI 1])::aJ 150 Qac [.t 148,.t 149]::Qaad) [2,3]) .skip
def Qa8s:SC:=cT 136 (sR [mJ 138 5,kJ 139 138,fJ 140 1 139,lJ 141 140,nJ 142 141,cJ 143 .gtr 142 0] [0,2,3,5,143] Qa8r) .skip
def Qa8t:SC:=cT 124 (.dreg 11 [0,1,2,3,4,5,6,4,7,8,9,10] ( mJ 126 4::mJ 127 4::kJ 128 127::fJ 129 0 128::lJ 130 129::mJ 131 0::aJ 132 Qq [.t 131,kI 2]::Qaac) [2,3]) (sR [cJ 137 .eql 43 7,mJ 136 137] [0,2,3,5,136] Qa8s)
def Qa8u:SC:=cT 110 (.reg (mJ 112 5::mJ 113 5::kJ 114 113::fJ 115 0 114::lJ 116 115::mJ 117 6::fI 118 (.bsl 1 [.t 117])::fI 119 (.bld [.int .i64 0,.sl true 1 []] [(0,1,kI 0),(1,1,.t 118)])::fI 120 (.bsl 2 [.t 119])::xJ 121 2 116 120::Qaab) [2,3]) (sR [cJ 125 .eql 43 6,mJ 124 125] [0,2,3,4,5,43,124] Qa8t)
def Qa8v:SC:=cT 86 (sR [mJ 88 5,kJ 89 88,fJ 90 1 89,lJ 91 90,nJ 92 91,cJ 93 .gtr 92 0] [2,3,5,6,93] Qa8q) (sR [cJ 111 .eql 43 5,mJ 110 111] [0,2,3,4,5,6,43,110] Qa8u)
def Qa8w:SC:=cT 71 (sR [mJ 73 5,kJ 74 73,fJ 75 1 74,lJ 76 75,nJ 77 76,cJ 78 .gtr 77 0] [2,3,5,6,78] Qbgb) (sR [cJ 87 .eql 43 4,mJ 86 87] [0,2,3,4,5,6,43,86] Qa8v)
def Qa8x:SC:=cT 65 (.reg [mJ 67 5,mJ 68 6,kJ 69 67,fJ 70 3 69,sJ 1 70 68] [2,3]) (sR [cJ 72 .eql 43 3,mJ 71 72] [0,2,3,4,5,6,43,71] Qa8w)
def Qa8y:SC:=cT 51 (sR [mJ 53 5,kJ 54 53,fJ 55 4 54,lJ 56 55,nJ 57 56,cJ 58 .gtr 57 0] [2,3,5,6,58] Qbga) (sR [cJ 66 .eql 43 2,mJ 65 66] [0,2,3,4,5,6,43,65] Qa8x)
def Qa8z:SC:=cT 44 (.reg (mJ 46 5::mJ 47 0::aJ 48 Qq [.t 47,kI 5]::Qajc) [2,3]) (sR [cJ 52 .eql 43 1,mJ 51 52] [0,2,3,4,5,6,43,51] Qa8y)
def Qa80:SC:=.block 0 (sR [cJ 45 .eql 43 0,mJ 44 45] [0,2,3,4,5,6,43,44] Qa8z)
def Qa81:SC:=sR [tJ 153 1 3,sJ 1 2 153] [2] .ret
def Qa82:SC:=.seq (sR [mJ 42 0,aJ 43 Qq [.t 42,kI 32]] [0,2,3,4,5,6,43] Qa80) Qa81
def Qa83:SC:=.seq (.dreg 13 [0,1,2,3,4,5,6,7,8,9,10,11,12] ( mJ 30 0::mJ 31 4::kJ 32 31::fJ 33 1 32::lJ 34 33::mJ 35 4::kJ 36 35::fJ 37 2 36::lJ 38 37::nJ 39 38::fI 40 (.bsl 1 [kI (-1),.t 34,.t 39,kI 0,kI 1])::aJ 41 Qac [.t 30,.t 40]::Qajb) [0,2,3,4,5,6]) Qa82
def Qa84:SC:=.seq (.dreg 13 [0,1,2,3,4,5,6,7,8,9,10,3,11,12] ( mJ 18 4::kJ 19 18::fJ 20 2 19::lJ 21 20::mJ 22 0::mJ 23 4::kJ 24 23::fJ 25 2 24::lJ 26 25::nJ 27 26::aJ 28 Qq [.t 22,.t 27]::Qaja) [0,2,3,4,5]) Qa83
def Qa85:SC:=.seq (.dreg 9 [0,1,2,3,4,5,6,1,7,8] ( fJ 10 0 3::lJ 11 10::mJ 12 0::fJ 13 0 3::lJ 14 13::nJ 15 14::aJ 16 Qq [.t 12,.t 15]::Qai9) [0,2,3,4]) Qa84
def Qa86:SC:=sR (mJ 7 0::aJ 8 Q2m [.t 7]::Qai8) [0,2,3] Qa85
def Qbqf:SC:=sR [eI 2 (.alloc [.sl true 3 []])] [0,2] Qa86
def Qbca:List RS:=[.cell 2 1 true]
theorem Qbo9:mFn prog Qaeq 1 154 Qbqf Qbca=true:=by kernel_rfl
def Q8y:List Item:=[cJ 6 .eql 5 0]
def Q8z:List Item:=[sJ 1 3 9]
def Q80:List Item:=eI 3 (.alloc [.sl true 3 []])::Q8z
def Q81:List Item:=aJ 9 Qaev [.t 8]::Q80
def Qa59:SC:=cT 11 (sR [tJ 12 1 3,sJ 1 2 12] [2] .ret) .skip
def Qa6a:SC:=sR [tJ 10 1 3,aJ 11 Qbw [.t 10]] [0,2,3,11] Qa59
def Qa6b:SC:=cT 6 (sR (mJ 7 0::aJ 8 Qaeo [.t 7]::Q81) [0,2,3] Qa6a) .skip
def Q82:List Item:=[sJ 1 2 14]
def Qahf:SC:=sR (mJ 13 0::aJ 14 Q2m [.t 13]::Q82) [2] .ret
def Qa6c:SC:=.seq (sR (mJ 4 0::aJ 5 Qq [.t 4,kI 2]::Q8y) [0,2,6] Qa6b) Qahf
def Qbk4:SC:=sR [eI 2 (.alloc [.sl true 3 []])] [0,2] Qa6c
def Q21:List RS:=[.cell 2 1 true]
theorem Qbjo:mFn prog Q5b 1 15 Qbk4 Q21=true:=by kernel_rfl
def Q0d:List Item:=[iJ 10 1 5 9,lJ 11 10,mJ 4 11]
def Qau7:SC:=sR (mJ 5 1::mJ 6 0::mJ 7 1::nJ 8 7::aJ 9 Qq [.t 6,.t 8]::Q0d) [4] .ret
def Qa7u:SC:=sR [zJ 4 0] [0,1] Qau7
def Qafv:List RS:=[.tmp 4]
theorem Qa48:mFn prog Qac 2 12 Qa7u Qafv=true:=by kernel_rfl
def Qwo:List Item:=[sJ 1 3 5]
def Qwp:List Item:=[fJ 23 0 3,sJ 1 23 22]
def Qwq:List Item:=hJ 14 13::fI 21 (.bsl 3 [.t 20])::xJ 22 3 14 21::Qwp
def Qapf:SC:=.reg [mJ 11 4,cJ 12 .add 11 1,mJ 4 12] [1,2,3,4]
def Qapg:SC:=.seq (.block 1 (.dreg 12 [0,1,2,3,4,5,6,7,1,8,9,10,11] ( fJ 13 0 3::lJ 14 13::fJ 15 0 1::lJ 16 15::mJ 17 4::iJ 18 3 16 17::tJ 19 3 18::aJ 20 Ql6 [.t 19]::Qwq) [1,2,3,4])) Qapf
def Qajp:SC:=.seq (sR [mJ 6 4,fJ 7 0 1,lJ 8 7,nJ 9 8,bJ 10 .lss 6 9] [1,2,3,4,10] (cT 10 .skip (.exit 0))) Qapg
def Qaph:SC:=sR [tJ 24 1 3,sJ 1 2 24] [2] .ret
def Qapi:SC:=.seq (sR [zJ 4 0] [1,2,3,4] (bL 0 Qajp)) Qaph
def Qapj:SC:=sR (fI 5 (.bld [.sl true 3 []] [])::eI 3 (.alloc [.sl true 3 []])::Qwo) [1,2,3] Qapi
def Qa18:SC:=sR [vJ 1 0,eI 2 (.alloc [.sl true 3 []])] [1,2] Qapj
def Q8g:List RS:=[.cell 2 1 true]
theorem Qaxw:mFn prog Qn0 1 25 Qa18 Q8g=true:=by kernel_rfl
def Qakb:List Item:=[sJ 1 3 9]
def Qakc:List Item:=[mJ 4 12]
def Qakd:List Item:=[fJ 24 0 3,sJ 1 24 23]
def Qake:List Item:=hJ 18 17::fI 22 (.bsl 3 [.t 21])::xJ 23 3 18 22::Qakd
def Qbgv:SC:=.reg [mJ 15 4,cJ 16 .sub 15 1,mJ 4 16] [0,2,3,4]
def Qbgw:SC:=.seq (.block 1 (.dreg 9 [0,1,2,3,4,1,5,6,7,8] ( fJ 17 0 3::lJ 18 17::mJ 19 0::tJ 20 1 3::aJ 21 Qaer [.t 19,.t 20]::Qake) [0,2,3,4])) Qbgv
def Qban:SC:=.seq (sR [mJ 13 4,cJ 14 .gtr 13 0] [0,2,3,4,14] (cT 14 .skip (.exit 0))) Qbgw
def Qakf:List Item:=[mJ 5 27]
def Qakg:List Item:=[hJ 33 32,iJ 39 3 33 38,mJ 6 39]
def Qakh:List Item:=[mJ 7 46]
def Qaay:List Item:=[sJ 2 8 53]
def Qaaz:List Item:=fI 53 (.bld [.int .i64 0,.sl true 1 []] [(0,1,.t 52)])::eI 8 (.alloc [.int .i64 0,.sl true 1 []])::Qaay
def Qaa0:List Item:=[nJ 59 58,zJ 60 0]
def Qaa1:List Item:=[fJ 72 1 8,sJ 1 72 71]
def Qaa2:List Item:=hJ 63 62::fI 70 (.bsl 1 [.t 69])::xJ 71 1 63 70::Qaa1
def Qbaa:SC:=.reg [cJ 73 .add 60 1,mJ 60 73] [0,2,3,5,6,7,8,59,60]
def Qbab:SC:=.seq (.block 5 (.dreg 12 [0,1,2,3,4,5,6,7,1,8,9,10,11] ( fJ 62 1 8::lJ 63 62::mJ 64 0::mJ 65 6::kJ 66 65::fJ 67 1 66::lJ 68 67::aJ 69 Qq [.t 64,.t 68]::Qaa2) [0,2,3,5,6,7,8,59,60])) Qbaa
def Qa2g:SC:=sR [bJ 61 .lss 60 59] [0,2,3,5,6,7,8,59,60,61] (cX 61 4 Qbab)
def Qaa3:List Item:=[hJ 79 78,iJ 92 5 79 80,fJ 93 0 92,sJ 1 93 91]
def Qbac:SC:=cT 75 (.dreg 19 [0,1,2,3,4,5,6,7,8,9,10,11,12,13,14,15,3,16,17,18] ( mJ 76 6::kJ 77 76::fJ 78 2 77::lJ 79 78::mJ 80 7::mJ 81 6::kJ 82 81::fJ 83 2 82::lJ 84 83::mJ 85 7::iJ 86 5 84 85::fJ 87 0 86::lJ 88 87::tJ 89 2 8::fI 90 (.bsl 2 [.t 89])::xJ 91 2 88 90::Qaa3) [0,2,3,5]) .skip
def Qbad:SC:=sR [mJ 74 7,cJ 75 .gtr 74 0] [0,2,3,5,6,7,8,75] Qbac
def Qbae:SC:=.seq (sR (mJ 54 6::kJ 55 54::tJ 56 3 55::mJ 57 7::aJ 58 Ql7 [.t 56,.t 57]::Qaa0) [0,2,3,5,6,7,8,59,60] (bL 4 Qa2g)) Qbad
def Qbaf:SC:=sR (mJ 47 0::mJ 48 6::kJ 49 48::fJ 50 1 49::lJ 51 50::aJ 52 Qq [.t 47,.t 51]::Qaaz) [0,2,3,5,6,7,8] Qbae
def Qbag:SC:=sR (mJ 40 0::mJ 41 6::kJ 42 41::fJ 43 2 42::lJ 44 43::nJ 45 44::aJ 46 Qq [.t 40,.t 45]::Qakh) [0,2,3,5,6,7] Qbaf
def Qbah:SC:=.reg [mJ 30 5,cJ 31 .sub 30 1,mJ 5 31] [0,2,3,5]
def Qbai:SC:=.seq (.block 3 (.seq (.dreg 9 [0,1,2,3,4,5,6,1,7,8] ( fJ 32 0 3::lJ 33 32::mJ 34 0::fJ 35 0 3::lJ 36 35::nJ 37 36::aJ 38 Qq [.t 34,.t 37]::Qakg) [0,2,3,5,6]) Qbag)) Qbah
def Qa2h:SC:=.seq (sR [mJ 28 5,cJ 29 .gtr 28 0] [0,2,3,5,29] (cT 29 .skip (.exit 2))) Qbai
def Qbaj:SC:=sR [tJ 94 1 3,sJ 1 2 94] [2] .ret
def Qbak:SC:=.seq (sR (mJ 25 0::fI 26 (.bsl 1 [kI 0,kI 0,kI 1,kI 3])::aJ 27 Qac [.t 25,.t 26]::Qakf) [0,2,3,5] (bL 2 Qa2h)) Qbaj
def Qbal:SC:=.seq (sR (mJ 10 0::fI 11 (.bsl 1 [kI 1,kI 2,kI 1,kI 3])::aJ 12 Qac [.t 10,.t 11]::Qakc) [0,2,3,4] (bL 0 Qban)) Qbak
def Qbam:SC:=sR (fI 9 (.bld [.sl true 3 []] [])::eI 3 (.alloc [.sl true 3 []])::Qakb) [0,2,3] Qbal
def Qbql:SC:=sR [eI 2 (.alloc [.sl true 3 []])] [0,2] Qbam
def Qbce:List RS:=[.cell 2 1 true]
theorem Qbpe:mFn prog Q2m 1 95 Qbql Qbce=true:=by kernel_rfl
def Qnj:List Item:=[oJ 11 10]
def Qadl:SC:=cT 11 (sR [fB 2 false] [2] .ret) .skip
def Qnk:List Item:=[sJ 3 5 23]
def Qdg:List Item:=[gF 41 36 (.not (.t 40)),pT 42 36 41]
def Qgj:List Item:=gF 34 28 (.not (.t 33))::pT 35 28 34::mJ 36 35::gFf 37 36 2 5::gFl 38 36 37::gF 39 36 (.len (.t 38))::.e (some 40) (some (36,false)) (.call Qbm [.t 39,kI 1,kI 160])::Qdg
def Qnl:List Item:=oJ 27 26::mJ 28 27::gFf 29 28 1 5::gFl 30 28 29::gFf 31 28 0 5::gFl 32 28 31::.e (some 33) (some (28,false)) (.call Qbm [.t 30,.t 32,kI 300])::Qgj
def s_sp_UnitValid_6:SC:=cT 42 (sR [fB 2 false] [2] .ret) .skip
def Qgk:List Item:=[gF 74 69 (.not (.t 73)),pT 75 69 74]
def Qq3:SC:=cT 75 (sR [fB 2 false] [2] .ret) .skip
def Qadm:SC:=sR (mJ 67 3::cJ 68 .gtr 67 800::mJ 69 68::gF 70 69 (.ld 1 true (.t 1))::gFm 71 69 4::gFm 72 69 6::.e (some 73) (some (69,false)) (.call Q5k [.t 70,.t 71,.t 72])::Qgk) [1,3,4,5,6,75] Qq3
def Qnh:SC:=.reg [mJ 48 6,cJ 49 .add 48 1,mJ 6 49] [1,3,4,5,6]
def Q7r:SC:=.seq (.block 3 (.seq (.dreg 18 [0,1,2,3,4,5,6,7,8,9,10,11,12,13,14,15,16,17] ( mJ 50 3::fJ 51 2 5::lJ 52 51::mJ 53 6::iJ 54 5 52 53::fJ 55 1 54::lJ 56 55::nJ 57 56::bJ 58 .add 50 57::fJ 59 2 5::lJ 60 59::mJ 61 6::iJ 62 5 60 61::fJ 63 0 62::lJ 64 63::nJ 65 64::bJ 66 .add 58 65::mJ 3 66::[]) [1,3,4,5,6]) Qadm)) Qnh
def Q4u:SC:=.seq (sR [mJ 43 6,fJ 44 2 5,lJ 45 44,nJ 46 45,bJ 47 .lss 43 46] [1,3,4,5,6,47] (cT 47 .skip (.exit 2))) Q7r
def Qni:SC:=sR [zJ 6 0] [1,3,4,5,6] (bL 2 Q4u)
def Q7s:SC:=.seq (sR (fJ 24 0 5::lJ 25 24::aJ 26 Qbm [.t 25,kI 0,kI 3]::Qnl) [1,3,4,5,42] s_sp_UnitValid_6) Qni
def Qgh:SC:=.reg [mJ 17 4,cJ 18 .add 17 1,mJ 4 18] [1,3,4]
def Q7t:SC:=.seq (.block 1 (sR (fJ 19 0 1::lJ 20 19::mJ 21 4::iJ 22 3 20 21::tJ 23 3 22::eI 5 (.alloc [.int .i64 0,.int .i64 0,.sl true 5 []])::Qnk) [1,3,4,5] Q7s)) Qgh
def Q4v:SC:=.seq (sR [mJ 12 4,fJ 13 0 1,lJ 14 13,nJ 15 14,bJ 16 .lss 12 15] [1,3,4,16] (cT 16 .skip (.exit 0))) Q7t
def Qgi:SC:=sR [fB 2 true] [2] .ret
def Q7u:SC:=.seq (sR [zJ 4 0] [1,3,4] (bL 0 Q4v)) Qgi
def Q7v:SC:=sR [zJ 3 0] [1,3] Q7u
def Q7w:SC:=.seq (sR (fJ 7 0 1::lJ 8 7::nJ 9 8::aJ 10 Qbm [.t 9,kI 1,kI 4]::Qnj) [1,11] Qadl) Q7v
def Qaqw:SC:=sR [vJ 1 0,fB 2 false] [1] Q7w
def Qdv:List RS:=[.tmp 2]
theorem Qam1:mFn prog Qbw 1 76 Qaqw Qdv=true:=by kernel_rfl
def Qalq:List Item:=[sJ 1 3 5]
def Qalr:List Item:=[fJ 20 0 3,sJ 1 20 19]
def Qals:List Item:=hJ 14 13::fI 18 (.bsl 3 [.t 17])::xJ 19 3 14 18::Qalr
def Qbg3:SC:=.reg [mJ 11 4,cJ 12 .add 11 1,mJ 4 12] [1,2,3,4]
def Qbg4:SC:=.seq (.block 1 (.dreg 9 [0,1,2,3,4,1,5,6,7,8] ( fJ 13 0 3::lJ 14 13::tJ 15 1 1::mJ 16 4::aJ 17 Qa4u [.t 15,.t 16]::Qals) [1,2,3,4])) Qbg3
def Qbas:SC:=.seq (sR [mJ 6 4,fJ 7 0 1,lJ 8 7,nJ 9 8,bJ 10 .lss 6 9] [1,2,3,4,10] (cT 10 .skip (.exit 0))) Qbg4
def Qbg5:SC:=sR [tJ 21 1 3,sJ 1 2 21] [2] .ret
def Qbg6:SC:=.seq (sR [zJ 4 0] [1,2,3,4] (bL 0 Qbas)) Qbg5
def Qbg7:SC:=sR (fI 5 (.bld [.sl true 3 []] [])::eI 3 (.alloc [.sl true 3 []])::Qalq) [1,2,3] Qbg6
def Qbqr:SC:=sR [vJ 1 0,eI 2 (.alloc [.sl true 3 []])] [1,2] Qbg7
def Qbch:List RS:=[.cell 2 1 true]
theorem Qbph:mFn prog Qaev 1 22 Qbqr Qbch=true:=by kernel_rfl
def Qaiv:List Item:=[mJ 3 13]
def Qaiw:List Item:=fI 12 (.bld [.pnil,.sl true 3 [],.sl true 1 [],.int .i64 0,.int .i64 0] [(0,1,.t 8),(4,1,.t 11)])::eI 13 (.boxm (.t 12))::Qaiv
def Qaix:List Item:=[mJ 4 16]
def Qaiy:List Item:=[hJ 26 25,.chk 27 none (.len (.t 26)),.chk 28 none (.iad 1 (.t 22) (.t 27)),hJ 29 28,sJ 3 5 32]
def Qaiz:List Item:=eI 5 (.alloc [.str [],.sl true 1 [],.sl true 5 []])::Qaiy
def Qai0:List Item:=hJ 26 25::.chk 27 none (.len (.t 26))::.chk 28 none (.iad 1 (.t 22) (.t 27))::hJ 29 28::aJ 32 Qnx [.t 21,.t 29,.t 31]::Qaiz
def Qai1:List Item:=[kJ 41 33,fJ 42 1 41,sJ 1 42 40]
def Qbfr:SC:=.dreg 11 [0,1,2,3,4,5,6,7,8,9,10] ( mJ 33 3::mJ 34 3::kJ 35 34::fJ 36 1 35::lJ 37 36::tJ 38 3 5::fI 39 (.bsl 3 [.t 38])::xJ 40 3 37 39::Qai1) [0,2,3,4]
def Qbfs:SC:=.reg [mJ 19 4,cJ 20 .sub 19 1,mJ 4 20] [0,2,3,4]
def Qbft:SC:=.seq (.block 1 (.seq (.dreg 12 [0,1,2,3,4,5,6,7,8,9,10,5,6,7,8,11,12,5,6,7,8,13] ( mJ 21 3::fI 22 (.bsl 1 [.k (.c (.str [102])),.k (.c (.str [103])),.k (.c (.str [104]))])::mJ 23 3::kJ 24 23::fJ 25 1 24::lJ 26 25::nJ 27 26::iJ 28 1 22 27::lJ 29 28::mJ 30 0::aJ 31 Qq [.t 30,kI 3]::Qai0) [0,2,3,4,5]) Qbfr)) Qbfs
def Qa1q:SC:=.seq (sR [mJ 17 4,cJ 18 .gtr 17 0] [0,2,3,4,18] (cT 18 .skip (.exit 0))) Qbft
def Q92:List Item:=[sJ 3 6 47]
def Q93:List Item:=eI 6 (.alloc [.str [],.sl true 1 [],.sl true 5 []])::Q92
def Q94:List Item:=eI 47 (.call Qnx [.t 43,.k (.c (.str [109])),.t 46])::Q93
def Q95:List Item:=[hJ 52 51,.chk 54 none (.ld 3 true (.t 6)),sJ 1 7 57]
def Q96:List Item:=fI 57 (.bld [.sl true 3 []] [(0,1,.t 56)])::eI 7 (.alloc [.sl true 3 []])::Q95
def Q97:List Item:=.chk 54 none (.ld 3 true (.t 6))::xJ 56 3 53 55::Q96
def Q98:List Item:=[oJ 60 59]
def Qa71:SC:=cT 60 (sR [fI 61 (.bld [.int .i64 0,.int .i64 0,.str [],.sl true 4 []] [(0,1,kI 1),(1,1,kI 1)]),fI 62 (.bsl 4 [.t 61]),fI 63 (.bld [.int .i64 0,.str [],.sl true 4 [],.sl true 5 [],.sl true 5 []] [(0,1,kI 3),(2,1,.t 62)]),fI 64 (.bsl 5 [.t 63]),fI 65 (.bld [.str [],.sl true 1 [],.sl true 5 []] [(0,1,.k (.c (.str [109]))),(2,1,.t 64)]),fI 66 (.bsl 3 [.t 65]),fI 67 (.bld [.sl true 3 []] [(0,1,.t 66)]),sJ 1 2 67] [2] .ret) .skip
def Qa72:SC:=sR [tJ 68 1 7,sJ 1 2 68] [2] .ret
def Qa73:SC:=.seq (.seq (.seq .gh (.reg (tJ 58 1 7::aJ 59 Qet [.t 58]::Q98) [2,7,60])) Qa71) Qa72
def Qa74:SC:=.seq (.dreg 10 [0,1,2,3,4,6,7,5,6,8,9,10,4,6,11] ( fI 48 (.bsl 3 [])::mJ 49 3::kJ 50 49::fJ 51 1 50::lJ 52 51::tJ 54 3 6::fI 55 (.bsl 3 [.t 54])::xJ 53 3 48 52::Q97) [2,7]) Qa73
def Qa75:SC:=sR (mJ 43 3::mJ 44 0::fI 45 (.bsl 1 [kI 0,kI 1,kI 2,kI 1])::aJ 46 Qac [.t 44,.t 45]::Q94) [2,3,6] Qa74
def Qa76:SC:=.seq (sR (mJ 14 0::fI 15 (.bsl 1 [kI 0,kI 1,kI 1,kI 2])::aJ 16 Qac [.t 14,.t 15]::Qaix) [0,2,3,4] (bL 0 Qa1q)) Qa75
def Qa77:SC:=sR (mJ 8 0::mJ 9 0::fI 10 (.bsl 1 [kI 14,kI 20,kI 8,kI 26])::aJ 11 Qac [.t 9,.t 10]::Qaiw) [0,2,3] Qa76
def Qbqb:SC:=sR [eI 2 (.alloc [.sl true 3 []])] [0,2] Qa77
def Qatl:List RS:=[.cell 2 1 true]
theorem Qbo5:mFn prog Qaeo 1 69 Qbqb Qatl=true:=by kernel_rfl
def Qajq:List Item:=[sJ 3 3 9]
def Qajr:List Item:=[fJ 27 2 3,sJ 1 27 26]
def Qajs:List Item:=hJ 18 17::fI 25 (.bsl 5 [.t 24])::xJ 26 5 18 25::Qajr
def Qbge:SC:=.reg [mJ 15 4,cJ 16 .add 15 1,mJ 4 16] [1,2,3,4]
def Qbgf:SC:=.seq (.block 1 (.dreg 12 [0,1,2,3,4,5,6,7,1,8,9,10,11] ( fJ 17 2 3::lJ 18 17::fJ 19 2 1::lJ 20 19::mJ 21 4::iJ 22 5 20 21::tJ 23 5 22::aJ 24 Qk9 [.t 23]::Qajs) [1,2,3,4])) Qbge
def Qa9t:SC:=.seq (sR [mJ 10 4,fJ 11 2 1,lJ 12 11,nJ 13 12,bJ 14 .lss 10 13] [1,2,3,4,14] (cT 14 .skip (.exit 0))) Qbgf
def Qbgg:SC:=sR [tJ 28 3 3,sJ 3 2 28] [2] .ret
def Qbgh:SC:=.seq (sR [zJ 4 0] [1,2,3,4] (bL 0 Qa9t)) Qbgg
def Qbgi:SC:=sR (fJ 5 0 1::lJ 6 5::fJ 7 1 1::lJ 8 7::fI 9 (.bld [.int .i64 0,.int .i64 0,.sl true 5 []] [(0,1,.t 6),(1,1,.t 8)])::eI 3 (.alloc [.int .i64 0,.int .i64 0,.sl true 5 []])::Qajq) [1,2,3] Qbgh
def Qbqh:SC:=sR [vJ 1 0,eI 2 (.alloc [.int .i64 0,.int .i64 0,.sl true 5 []])] [1,2] Qbgi
def Qbcc:List RS:=[.cell 2 3 true]
theorem Qbpb:mFn prog Ql6 1 29 Qbqh Qbcc=true:=by kernel_rfl
def Qaat:List Item:=[mJ 5 41]
def Qa9v:SC:=cT 37 (sR (mJ 38 5::mJ 39 6::fI 40 (.bsl 1 [.t 39])::xJ 41 1 38 40::Qaat) [1,2,5,6] (.exit 2)) .skip
def Qa9w:SC:=.reg [mJ 25 7,cJ 26 .add 25 1,mJ 7 26] [1,2,5,6,7]
def Qa9x:SC:=.seq (.block 3 (sR [fJ 27 2 2,lJ 28 27,mJ 29 6,iJ 30 5 28 29,fJ 31 4 30,lJ 32 31,mJ 33 7,iJ 34 1 32 33,lJ 35 34,mJ 36 1,bJ 37 .eql 35 36] [1,2,5,6,7,37] Qa9v)) Qa9w
def Qa2a:SC:=.seq (sR [mJ 16 7,fJ 17 2 2,lJ 18 17,mJ 19 6,iJ 20 5 18 19,fJ 21 4 20,lJ 22 21,nJ 23 22,bJ 24 .lss 16 23] [1,2,5,6,7,24] (cT 24 .skip (.exit 2))) Qa9x
def Qaju:SC:=.reg [mJ 14 6,cJ 15 .add 14 1,mJ 6 15] [1,2,5,6]
def Qa9y:SC:=.seq (.block 1 (sR [zJ 7 0] [1,2,5,6,7] (bL 2 Qa2a))) Qaju
def Qa2b:SC:=.seq (sR [mJ 9 6,fJ 10 2 2,lJ 11 10,nJ 12 11,bJ 13 .lss 9 12] [1,2,5,6,13] (cT 13 .skip (.exit 0))) Qa9y
def Qajv:SC:=sR [mJ 42 5,mJ 4 42] [4] .ret
def Qa9z:SC:=.seq (sR [zJ 6 0] [1,2,5,6] (bL 0 Qa2b)) Qajv
def Qa19:SC:=sR [fI 8 (.bsl 1 []),mJ 5 8] [1,2,5] Qa9z
def Qbl3:SC:=sR [vJ 2 0,fI 4 (.mv (.k (.c (.sl true 1 []))))] [1,2] Qa19
def Qaf0:List RS:=[.tmp 4]
theorem Qbj5:mFn prog Ql7 2 43 Qbl3 Qaf0=true:=by kernel_rfl
def Qajf:List Item:=[sJ 3 5 13]
def Qajg:List Item:=fI 13 (.bld [.int .i64 0,.int .i64 0,.sl true 5 []] [(0,1,.t 12)])::eI 5 (.alloc [.int .i64 0,.int .i64 0,.sl true 5 []])::Qajf
def Qajh:List Item:=[hJ 15 14,bJ 19 .add 16 18,fJ 20 1 5,sJ 1 20 19]
def Qaji:List Item:=[mJ 6 23]
def Qajj:List Item:=[sJ 5 8 29]
def Qajk:List Item:=[mJ 9 32]
def Qajl:List Item:=[fJ 46 1 8,sJ 1 46 45]
def Qajm:List Item:=hJ 38 37::fI 44 (.bsl 4 [.t 43])::xJ 45 4 38 44::Qajl
def Qbgc:SC:=.reg [mJ 35 9,cJ 36 .sub 35 1,mJ 9 36] [0,3,4,5,6,7,8,9]
def Qbgd:SC:=.seq (.block 3 (.dreg 11 [0,1,2,3,4,5,6,1,7,8,9,10] ( fJ 37 1 8::lJ 38 37::mJ 39 0::tJ 40 1 3::fJ 41 1 5::lJ 42 41::aJ 43 Qaes [.t 39,.t 40,.t 42]::Qajm) [0,3,4,5,6,7,8,9])) Qbgc
def Qa16:SC:=.seq (sR [mJ 33 9,cJ 34 .gtr 33 0] [0,3,4,5,6,7,8,9,34] (cT 34 .skip (.exit 2))) Qbgd
def Qaam:List Item:=[fJ 51 3 8,sJ 1 51 50]
def Qaan:List Item:=[fJ 55 2 8,sJ 1 55 54]
def Qkz:List Item:=[gT 66 63 (.bin 0 .gtr (.t 65) (kI 0)),gF 67 58 (.pick (.t 63) (.t 66) (.k (.c (.bool false)))),pT 68 58 67]
def Qaje:SC:=cT 68 (.reg [fJ 69 2 8,.e none none (.sto 1 (.t 69) (kI 3))] [0,3,4,5,6,7,8]) .skip
def Qaao:List Item:=[fI 79 (.bsl 1 [.t 78]),fJ 80 4 8,sJ 1 80 79]
def Qa9c:SC:=.reg (mJ 75 0::mJ 76 7::mJ 77 6::aJ 78 Qaet [.t 75,.t 76,.t 77]::Qaao) [0,3,4,5,6,7,8]
def Qaap:List Item:=[fI 91 (.bsl 1 [.t 86,.t 90]),fJ 92 4 8,sJ 1 92 91]
def Qaaq:List Item:=mJ 87 0::mJ 88 7::mJ 89 6::aJ 90 Qaet [.t 87,.t 88,.t 89]::Qaap
def Qa9d:SC:=cT 81 (.reg (mJ 83 0::mJ 84 7::mJ 85 6::aJ 86 Qaet [.t 83,.t 84,.t 85]::Qaaq) [0,3,4,5,6,7,8]) .skip
def Qa9e:SC:=cT 72 (sR [fJ 74 3 8,.e none none (.sto 1 (.t 74) (kI 0))] [0,3,4,5,6,7,8] Qa9c) (sR [cJ 82 .eql 71 2,mJ 81 82] [0,3,4,5,6,7,8,81] Qa9d)
def Qa9f:SC:=.block 4 (sR [cJ 73 .eql 71 1,mJ 72 73] [0,3,4,5,6,7,8,71,72] Qa9e)
def Qaar:List Item:=[fJ 98 2 5,sJ 1 98 97]
def Qa9g:SC:=.reg (fJ 93 2 5::lJ 94 93::tJ 95 5 8::fI 96 (.bsl 5 [.t 95])::xJ 97 5 94 96::Qaar) [0,3,4,5,6,7]
def Qa9h:SC:=.seq (sR [fJ 70 2 8,lJ 71 70] [0,3,4,5,6,7,8,71] Qa9f) Qa9g
def Qa9i:SC:=.seq (sR (mJ 56 6::cJ 57 .eql 56 1::mJ 58 57::gFm 59 58 7::gFm 60 58 6::gF 61 58 (.bin 0 .sub (.t 60) (kI 1))::gF 62 58 (.bin 0 .eql (.t 59) (.t 61))::gFm 63 58 62::gTm 64 63 0::.e (some 65) (some (63,true)) (.call Qq [.t 64,kI 3])::Qkz) [0,3,4,5,6,7,8,68] Qaje) Qa9h
def Qa9j:SC:=sR (mJ 52 0::fI 53 (.bsl 1 [kI 2,kI 1,kI 2,kI 1,kI 3])::aJ 54 Qac [.t 52,.t 53]::Qaan) [0,3,4,5,6,7,8] Qa9i
def Qa9k:SC:=sR (mJ 47 0::fJ 48 1 5::lJ 49 48::aJ 50 Qq [.t 47,.t 49]::Qaam) [0,3,4,5,6,7,8] Qa9j
def Qa9l:SC:=.seq (sR (mJ 30 0::fI 31 (.bsl 1 [kI 1,kI 2,kI 0,kI 3,kI 4])::aJ 32 Qac [.t 30,.t 31]::Qajk) [0,3,4,5,6,7,8,9] (bL 2 Qa16)) Qa9k
def Qa9m:SC:=.reg [mJ 27 7,cJ 28 .add 27 1,mJ 7 28] [0,3,4,5,6,7]
def Qa9n:SC:=.seq (.block 1 (sR (fI 29 (.bld [.sl true 2 [],.sl true 4 [],.int .i64 0,.int .i64 0,.sl true 1 []] [])::eI 8 (.alloc [.sl true 2 [],.sl true 4 [],.int .i64 0,.int .i64 0,.sl true 1 []])::Qajj) [0,3,4,5,6,7,8] Qa9l)) Qa9m
def Qa17:SC:=.seq (sR [mJ 24 7,mJ 25 6,bJ 26 .lss 24 25] [0,3,4,5,6,7,26] (cT 26 .skip (.exit 0))) Qa9n
def Qa9o:SC:=sR [tJ 99 3 5,sJ 3 4 99] [4] .ret
def Qa9p:SC:=.seq (sR [zJ 7 0] [0,3,4,5,6,7] (bL 0 Qa17)) Qa9o
def Qa9q:SC:=sR (mJ 21 0::fI 22 (.bsl 1 [kI 3,kI 5,kI 2,kI 1,kI 7,kI 4])::aJ 23 Qac [.t 21,.t 22]::Qaji) [0,3,4,5,6] Qa9p
def Qa9r:SC:=.seq (.dreg 8 [0,1,2,3,4,1,5,6,7] ( fJ 14 0 5::lJ 15 14::cJ 16 .add 15 2::mJ 17 0::aJ 18 Qq [.t 17,kI 5]::Qajh) [0,3,4,5]) Qa9q
def Qa9s:SC:=sR (mJ 10 0::fI 11 (.bsl 1 [kI 1,kI 0,kI 2,kI 3])::aJ 12 Qac [.t 10,.t 11]::Qajg) [0,3,4,5] Qa9r
def Qbqg:SC:=sR [vJ 3 1,eI 4 (.alloc [.int .i64 0,.int .i64 0,.sl true 5 []])] [0,3,4] Qa9s
def Qbcb:List RS:=[.cell 4 3 true]
theorem Qbpa:mFn prog Qaer 2 100 Qbqg Qbcb=true:=by kernel_rfl
def Qbp0:SC:=sR [mJ 7 0,mJ 8 1,bJ 9 .geq 7 8,mJ 10 9,gTm 11 10 0,gTm 12 10 2,gT 13 10 (.bin 0 .leq (.t 11) (.t 12)),pF 14 10 13,mJ 6 14] [6] .ret
def Qbwn:SC:=sR [fB 6 false] [0,1,2] Qbp0
def Qbr9:List RS:=[.tmp 6]
theorem Qbwc:mFn prog Qbm 3 15 Qbwn Qbr9=true:=by kernel_rfl
def Qaaj:List Item:=[sJ 3 7 18]
def Qaak:List Item:=[sJ 5 8 23]
def Qa87:SC:=cT 30 (sR [fB 6 false] [6] .ret) .skip
def Qa88:SC:=cT 33 (.reg [zJ 9 0] [1,2,3,7,8,9]) (sR [fB 6 false] [6] .ret)
def Qa89:SC:=cT 31 (.reg [zJ 9 2] [1,2,3,7,8,9]) (sR [cJ 34 .eql 25 3,mJ 33 34] [1,2,3,7,8,33] Qa88)
def Qa9a:SC:=cT 26 (sR [fJ 28 3 8,lJ 29 28,cJ 30 .neq 29 0] [1,2,3,7,8,9,30] Qa87) (sR [cJ 32 .eql 25 2,mJ 31 32] [1,2,3,7,8,25,31] Qa89)
def Qa9b:SC:=.block 0 (sR [cJ 27 .eql 25 1,mJ 26 27] [1,2,3,7,8,9,25,26] Qa9a)
def Qky:List Item:=[gT 51 44 (.not (.t 50)),gF 52 40 (.pick (.t 44) (.t 51) (.k (.c (.bool false)))),pT 53 40 52]
def s_l7Block_8:SC:=cT 53 (sR [fB 6 false] [6] .ret) .skip
def Qaal:List Item:=[oJ 71 70]
def Qa1s:SC:=cT 71 (sR [fB 6 false] [6] .ret) .skip
def Qa1t:SC:=.reg [mJ 59 10,cJ 60 .add 59 1,mJ 10 60] [1,2,3,7,8,10]
def Qa1u:SC:=.seq (.block 2 (.seq (.dreg 11 [0,1,2,3,4,5,6,7,8,9,10] ( fJ 61 4 8::lJ 62 61::mJ 63 10::iJ 64 1 62 63::lJ 65 64::fJ 66 2 7::lJ 67 66::nJ 68 67::cJ 69 .sub 68 1::aJ 70 Qbm [.t 65,kI 1,.t 69]::Qaal) [1,2,3,7,8,10,71]) Qa1s)) Qa1t
def Qavh:SC:=.seq (sR [mJ 54 10,fJ 55 4 8,lJ 56 55,nJ 57 56,bJ 58 .lss 54 57] [1,2,3,7,8,10,58] (cT 58 .skip (.exit 1))) Qa1u
def Q4p:List Item:=[oJ 87 86]
def Qa1v:SC:=cT 87 (sR [fB 6 false] [6] .ret) .skip
def Qa1w:SC:=.reg [mJ 77 11,cJ 78 .add 77 1,mJ 11 78] [1,2,3,7,8,11]
def Qa1x:SC:=.seq (.block 4 (.seq (.dreg 9 [0,1,2,3,4,5,6,7,8] ( tJ 79 1 3::mJ 80 1::fJ 81 1 8::lJ 82 81::mJ 83 11::iJ 84 4 82 83::tJ 85 4 84::aJ 86 Qase [.t 79,.t 80,.t 85]::Q4p) [1,2,3,7,8,11,87]) Qa1v)) Qa1w
def Qavi:SC:=.seq (sR [mJ 72 11,fJ 73 1 8,lJ 74 73,nJ 75 74,bJ 76 .lss 72 75] [1,2,3,7,8,11,76] (cT 76 .skip (.exit 3))) Qa1x
def Q4q:List Item:=[mJ 12 90]
def Qie:List Item:=[gF 134 123 (.not (.t 133)),pT 135 123 134]
def Qot:List Item:=gF 121 112 (.not (.t 120))::pT 122 112 121::mJ 123 122::gFf 124 123 0 8::gFl 125 123 124::gFm 126 123 13::gF 127 123 (.iad 2 (.t 125) (.t 126))::gFf 128 123 0 127::gFl 129 123 128::gFf 130 123 1 7::gFl 131 123 130::gF 132 123 (.bin 0 .sub (.t 131) (kI 1))::.e (some 133) (some (123,false)) (.call Qbm [.t 129,kI 0,.t 132])::Qie
def Qaae:SC:=cT 135 (sR [fB 6 false] [6] .ret) .skip
def Qaaf:SC:=.reg [mJ 96 13,cJ 97 .add 96 1,mJ 13 97] [2,7,8,12,13]
def Qa1y:SC:=.seq (.block 6 (.seq (.dreg 38 [0,1,2,3,4,5,6,7,8,9,10,11,12,13,14,15,16,17,18,19,20,21,22,23,24,25,26,27,28,29,30,31,32,33,34,35,36,37] ( mJ 98 2::cJ 99 .eql 98 0::mJ 100 99::gFf 101 100 0 8::gFl 102 100 101::gFm 103 100 13::gF 104 100 (.iad 2 (.t 102) (.t 103))::gFf 105 100 1 104::gFl 106 100 105::gF 107 100 (.len (.t 106))::gFm 108 100 12::gF 109 100 (.len (.t 108))::gF 110 100 (.bin 0 .neq (.t 107) (.t 109))::pT 111 100 110::mJ 112 111::gF 113 112 (.ld 3 true (.t 7))::gFf 114 112 0 8::gFl 115 112 114::gFm 116 112 13::gF 117 112 (.iad 2 (.t 115) (.t 116))::gFf 118 112 1 117::gFl 119 112 118::.e (some 120) (some (112,false)) (.call Q2l [.t 113,.t 119])::Qot) [2,7,8,12,13,135]) Qaae)) Qaaf
def Qavj:SC:=.seq (sR [mJ 91 13,fJ 92 0 8,lJ 93 92,nJ 94 93,bJ 95 .lss 91 94] [2,7,8,12,13,95] (cT 95 .skip (.exit 5))) Qa1y
def Qaag:SC:=sR [fB 6 true] [6] .ret
def Qa1z:SC:=.seq (sR [zJ 13 0] [2,7,8,12,13] (bL 5 Qavj)) Qaag
def Qa10:SC:=sR (tJ 88 3 7::mJ 89 2::aJ 90 Ql7 [.t 88,.t 89]::Q4q) [2,7,8,12] Qa1z
def Qa11:SC:=.seq (sR [zJ 11 0] [1,2,3,7,8,11] (bL 3 Qavi)) Qa10
def Qaah:SC:=.seq (sR [zJ 10 0] [1,2,3,7,8,10] (bL 1 Qavh)) Qa11
def Qaai:SC:=.seq (sR (fJ 35 4 8::lJ 36 35::nJ 37 36::mJ 38 9::bJ 39 .neq 37 38::mJ 40 39::gFf 41 40 2 8::gFl 42 40 41::gF 43 40 (.bin 0 .neq (.t 42) (kI 1))::gFm 44 40 43::gTf 45 44 3 8::gTl 46 44 45::gTf 47 44 1 7::gTl 48 44 47::gT 49 44 (.bin 0 .sub (.t 48) (kI 1))::.e (some 50) (some (44,true)) (.call Qbm [.t 46,kI 0,.t 49])::Qky) [1,2,3,7,8,53] s_l7Block_8) Qaah
def Qa12:SC:=.seq (sR [fJ 24 2 8,lJ 25 24] [1,2,3,7,8,9,25] Qa9b) Qaai
def Qa13:SC:=sR [zJ 9 1] [1,2,3,7,8,9] Qa12
def Qa14:SC:=sR (fJ 19 2 7::lJ 20 19::mJ 21 2::iJ 22 5 20 21::tJ 23 5 22::eI 8 (.alloc [.sl true 2 [],.sl true 4 [],.int .i64 0,.int .i64 0,.sl true 1 []])::Qaak) [1,2,3,7,8] Qa13
def Qa15:SC:=sR (fJ 14 0 3::lJ 15 14::mJ 16 1::iJ 17 3 15 16::tJ 18 3 17::eI 7 (.alloc [.int .i64 0,.int .i64 0,.sl true 5 []])::Qaaj) [1,2,3,7] Qa14
def Qbl0:SC:=sR [vJ 3 0,fB 6 false] [1,2,3] Qa15
def Qmm:List RS:=[.tmp 6]
theorem Qbj3:mFn prog Q5k 3 136 Qbl0 Qmm=true:=by kernel_rfl
def Qa2i:List Item:=[sJ 3 5 13]
def Qa2j:List Item:=[mJ 6 19]
def Qa2k:List Item:=[hJ 29 28,.chk 30 none (.len (.t 29)),bJ 34 .add 30 33,kJ 35 27,fJ 36 1 35,fJ 37 1 36,sJ 1 37 34]
def Qa2l:List Item:=[kJ 59 45,fJ 60 5 59,sJ 1 60 58]
def Qbqn:SC:=.reg [mJ 43 7,cJ 44 .add 43 1,mJ 7 44] [4,5,6,7]
def Qbqo:SC:=.seq (.block 1 (.dreg 17 [0,1,2,3,4,5,6,7,8,9,10,11,12,13,14,15,16] ( mJ 45 6::mJ 46 6::kJ 47 46::fJ 48 5 47::lJ 49 48::fJ 50 1 5::lJ 51 50::mJ 52 7::iJ 53 1 51 52::lJ 54 53::mJ 55 7::fI 56 (.bld [.str [],.int .i64 0,.int .i64 0] [(0,1,.t 54),(1,1,.t 55),(2,1,kI 0)])::fI 57 (.bsl 3 [.t 56])::xJ 58 3 49 57::Qa2l) [4,5,6,7])) Qbqn
def Qbmd:SC:=.seq (sR [mJ 38 7,fJ 39 1 5,lJ 40 39,nJ 41 40,bJ 42 .lss 38 41] [4,5,6,7,42] (cT 42 .skip (.exit 0))) Qbqo
def Qa2m:List Item:=[mJ 8 71]
def Qa2n:List Item:=fI 70 (.bsl 1 [])::aJ 71 Qa1 [.t 67,kI 1,.t 69,kI 0,.t 70]::Qa2m
def Qbqp:SC:=sR [mJ 76 6,kJ 77 76,fJ 78 1 77,tJ 79 3 78,sJ 3 4 79] [4] .ret
def Qbl4:SC:=sR [mJ 72 6,mJ 73 8,fI 74 (.bsl 1 []),aJ 75 Qa3 [.t 72,kI 3,.t 73,.t 74,kI 0]] [4,6] Qbqp
def Qbl5:SC:=sR (mJ 67 6::mJ 68 6::aJ 69 Qa9 [.t 68]::Qa2n) [4,6,8] Qbl4
def Qbl6:SC:=sR [mJ 63 6,fJ 64 2 5,lJ 65 64,aJ 66 Qct [.t 63,.t 65]] [4,6] Qbl5
def Qbl7:SC:=sR [mJ 61 6,aJ 62 Qaw [.t 61]] [4,5,6] Qbl6
def Qbl8:SC:=.seq (sR [zJ 7 0] [4,5,6,7] (bL 0 Qbmd)) Qbl7
def Qbl9:SC:=.seq (.dreg 12 [0,1,2,3,4,5,6,2,3,7,8,9,10,11] ( mJ 27 6::fJ 28 1 5::lJ 29 28::nJ 30 29::fJ 31 2 5::lJ 32 31::aJ 33 Qsz [.t 32]::Qa2k) [4,5,6]) Qbl8
def Qbma:SC:=sR [mJ 20 6,fJ 21 1 5,lJ 22 21,nJ 23 22,kJ 24 20,fJ 25 1 24,fJ 26 0 25,sJ 1 26 23] [4,5,6] Qbl9
def Qbmb:SC:=sR (tJ 14 1 2::fJ 15 1 5::lJ 16 15::nJ 17 16::fI 18 (.bld [.sl true 3 [],.int .i64 0,.int .i64 0,.sl true 5 [],.int .i64 0,.sl true 3 [],.int .i64 0,.sl true 1 []] [(0,1,.t 14),(6,1,.t 17)])::eI 19 (.boxm (.t 18))::Qa2j) [4,5,6] Qbma
def Qbmc:SC:=sR (fJ 9 0 2::lJ 10 9::mJ 11 1::iJ 12 3 10 11::tJ 13 3 12::eI 5 (.alloc [.str [],.sl true 1 [],.sl true 5 []])::Qa2i) [2,4,5] Qbmb
def Qbwq:SC:=sR [vJ 2 0,eI 4 (.alloc [.int .i64 0,.int .i64 0,.sl true 5 []])] [1,2,4] Qbmc
def Qbsa:List RS:=[.cell 4 3 true]
theorem Qbwf:mFn prog Qa4u 2 80 Qbwq Qbsa=true:=by kernel_rfl
def Q4k:List Item:=[sJ 3 7 26]
def Q4l:List Item:=fI 26 (.bld [.str [],.sl true 1 [],.sl true 5 []] [(0,1,.t 19),(1,1,.t 25)])::eI 7 (.alloc [.str [],.sl true 1 [],.sl true 5 []])::Q4k
def Q4m:List Item:=[fJ 29 2 7,sJ 1 29 28]
def Qor:List Item:=[gT 41 35 (.bin 0 .gtr (.t 40) (kI 0)),pF 42 35 41]
def Q4n:List Item:=[fJ 59 2 7,sJ 1 59 58]
def Q4o:List Item:=hJ 52 51::fI 55 (.bsl 4 [.t 54])::fI 56 (.bld [.int .i64 0,.str [],.sl true 4 [],.sl true 5 [],.sl true 5 []] [(0,1,kI 7),(2,1,.t 55)])::fI 57 (.bsl 5 [.t 56])::xJ 58 5 52 57::Q4n
def Qa1m:SC:=.dreg 10 [0,1,2,3,1,4,5,6,7,8,9] ( fJ 51 2 7::lJ 52 51::mJ 53 0::aJ 54 Qbh [.t 53,kI 2]::Q4o) [6,7]
def s_l3Gen_fn_7:SC:=cT 42 (sR [mJ 43 0,mJ 44 0,kJ 45 44,fJ 46 4 45,lJ 47 46,cJ 48 .sub 47 1,kJ 49 43,fJ 50 4 49,sJ 1 50 48] [0,6,7] Qa1m) .skip
def Qv3:SC:=sR [tJ 60 3 7,sJ 3 6 60] [6] .ret
def Qa1n:SC:=.seq (sR (mJ 30 0::kJ 31 30::fJ 32 4 31::lJ 33 32::cJ 34 .gtr 33 0::mJ 35 34::gTm 36 35 0::gT 37 35 (.nck (.t 36))::gTf 38 35 0 37::gTl 39 35 38::.e (some 40) (some (35,true)) (.call Qq [.t 39,kI 4])::Qor) [0,6,7,42] s_l3Gen_fn_7) Qv3
def Qau9:SC:=sR (mJ 27 0::aJ 28 Qcs [.t 27,kI 3]::Q4m) [0,6,7] Qa1n
def Qava:SC:=sR (mJ 19 1::fI 20 (.bsl 1 [])::mJ 21 0::kJ 22 21::fJ 23 2 22::lJ 24 23::xJ 25 1 20 24::Q4l) [0,6,7] Qau9
def Qavb:SC:=sR [mJ 14 0,mJ 15 2,cJ 16 .sub 15 1,kJ 17 14,fJ 18 3 17,sJ 1 18 16] [0,1,6] Qava
def Qavc:SC:=sR [mJ 8 0,fI 9 (.bsl 1 [.k (.c (.str [97])),.k (.c (.str [98])),.k (.c (.str [99]))]),mJ 10 2,fI 11 (.sli 1 (.t 9) none (some (.t 10))),kJ 12 8,fJ 13 2 12,sJ 1 13 11] [0,1,2,6] Qavb
def Qbfq:SC:=sR [eI 6 (.alloc [.str [],.sl true 1 [],.sl true 5 []])] [0,1,2,6] Qavc
def Qx4:List RS:=[.cell 6 3 true]
theorem Qbeq:mFn prog Qnx 3 61 Qbfq Qx4=true:=by kernel_rfl
def Qh0:List Item:=[oJ 8 7]
def Q2b:SC:=cT 8 (sR [fB 2 false] [2] .ret) .skip
def Qh1:List Item:=[oJ 22 21]
def Q2c:SC:=cT 22 (sR [fB 2 false] [2] .ret) .skip
def Q2d:SC:=.reg [mJ 14 3,cJ 15 .add 14 1,mJ 3 15] [1,3]
def Q2e:SC:=.seq (.block 1 (sR (fJ 16 0 1::lJ 17 16::mJ 18 3::iJ 19 3 17 18::tJ 20 3 19::aJ 21 Qa4t [.t 20]::Qh1) [1,3,22] Q2c)) Q2d
def Qzf:SC:=.seq (sR [mJ 9 3,fJ 10 0 1,lJ 11 10,nJ 12 11,bJ 13 .lss 9 12] [1,3,13] (cT 13 .skip (.exit 0))) Q2e
def Qh2:List Item:=[cJ 25 .leq 24 40,mJ 2 25]
def Q2f:SC:=sR (tJ 23 1 1::aJ 24 Qasd [.t 23]::Qh2) [2] .ret
def Q2g:SC:=.seq (sR [zJ 3 0] [1,3] (bL 0 Qzf)) Q2f
def Qze:SC:=.seq (sR (fJ 4 0 1::lJ 5 4::nJ 6 5::aJ 7 Qbm [.t 6,kI 1,kI 4]::Qh0) [1,8] Q2b) Q2g
def Q7p:SC:=sR [vJ 1 0,fB 2 false] [1] Qze
def Qgf:List RS:=[.tmp 2]
theorem Q5v:mFn prog Qet 1 26 Q7p Qgf=true:=by kernel_rfl
def Qp9:List Item:=[hJ 10 9,hJ 12 11,hJ 15 14,sJ 5 3 17]
def Qqa:List Item:=hJ 10 9::hJ 12 11::fI 17 (.bld [.sl true 2 [],.sl true 4 [],.int .i64 0,.int .i64 0,.sl true 1 []] [(0,1,.t 7),(1,1,.t 8),(2,1,.t 10),(3,1,.t 12),(4,1,.t 16)])::eI 3 (.alloc [.sl true 2 [],.sl true 4 [],.int .i64 0,.int .i64 0,.sl true 1 []])::Qp9
def Qqb:List Item:=[fJ 44 0 3,sJ 1 44 43]
def Qqc:List Item:=hJ 26 25::hJ 28 27::.chk 30 none (.iad 2 (.t 28) (.t 29))::hJ 32 31::fI 41 (.bld [.int .i64 0,.sl true 1 []] [(0,1,.t 32),(1,1,.t 40)])::fI 42 (.bsl 2 [.t 41])::xJ 43 2 26 42::Qqb
def Qajn:SC:=.reg [mJ 23 4,cJ 24 .add 23 1,mJ 4 24] [1,2,3,4]
def Qajo:SC:=.seq (.block 1 (.dreg 21 [0,1,2,3,4,5,6,7,8,9,10,11,12,13,14,15,1,3,5,7,16,17,18,19,20] ( fJ 25 0 3::lJ 26 25::fJ 27 0 1::lJ 28 27::mJ 29 4::iJ 30 2 28 29::fJ 31 0 30::lJ 32 31::fI 33 (.bsl 1 [])::fJ 34 0 1::lJ 35 34::mJ 36 4::iJ 37 2 35 36::fJ 38 1 37::lJ 39 38::xJ 40 1 33 39::Qqc) [1,2,3,4])) Qajn
def Qact:SC:=.seq (sR [mJ 18 4,fJ 19 0 1,lJ 20 19,nJ 21 20,bJ 22 .lss 18 21] [1,2,3,4,22] (cT 22 .skip (.exit 0))) Qajo
def Qqd:List Item:=[sJ 4 6 56]
def Qqe:List Item:=[fJ 72 1 3,sJ 1 72 71]
def Qqf:List Item:=hJ 58 57::hJ 60 59::hJ 62 61::hJ 68 67::fI 69 (.bld [.int .i64 0,.int .i64 0,.sl true 1 [],.int .i64 0] [(0,1,.t 60),(1,1,.t 62),(2,1,.t 66),(3,1,.t 68)])::fI 70 (.bsl 4 [.t 69])::xJ 71 4 58 70::Qqe
def Qacm:SC:=.dreg 17 [0,1,2,3,4,5,6,7,8,10,11,9,1,3,5,11,12,13,14,15,16] ( fJ 57 1 3::lJ 58 57::fJ 59 0 6::lJ 60 59::fJ 61 1 6::lJ 62 61::fI 63 (.bsl 1 [])::fJ 64 2 6::lJ 65 64::fJ 67 3 6::lJ 68 67::xJ 66 1 63 65::Qqf) [1,2,3,5]
def Qacn:SC:=.reg [mJ 50 5,cJ 51 .add 50 1,mJ 5 51] [1,2,3,5]
def Qaco:SC:=.seq (.block 3 (sR (fJ 52 1 1::lJ 53 52::mJ 54 5::iJ 55 4 53 54::tJ 56 4 55::eI 6 (.alloc [.int .i64 0,.int .i64 0,.sl true 1 [],.int .i64 0])::Qqd) [1,2,3,5,6] Qacm)) Qacn
def Q7f:SC:=.seq (sR [mJ 45 5,fJ 46 1 1,lJ 47 46,nJ 48 47,bJ 49 .lss 45 48] [1,2,3,5,49] (cT 49 .skip (.exit 2))) Qaco
def Qacp:SC:=sR [tJ 73 5 3,sJ 5 2 73] [2] .ret
def Qacq:SC:=.seq (sR [zJ 5 0] [1,2,3,5] (bL 2 Q7f)) Qacp
def Qacr:SC:=.seq (sR [zJ 4 0] [1,2,3,4] (bL 0 Qact)) Qacq
def Qacs:SC:=.seq (.dreg 11 [0,1,2,3,4,5,6,7,8,9,3,5,10,11,3,5,8,12] ( fI 7 (.bsl 2 [])::fI 8 (.bsl 4 [])::fJ 9 2 1::lJ 10 9::fJ 11 3 1::lJ 12 11::fI 13 (.bsl 1 [])::fJ 14 4 1::lJ 15 14::xJ 16 1 13 15::Qqa) [1,2,3]) Qacr
def Qavk:SC:=sR [vJ 1 0,eI 2 (.alloc [.sl true 2 [],.sl true 4 [],.int .i64 0,.int .i64 0,.sl true 1 []])] [1,2] Qacs
def Q25:List RS:=[.cell 2 5 true]
theorem Qas9:mFn prog Qk9 1 74 Qavk Q25=true:=by kernel_rfl
def Qaj5:List Item:=[mJ 7 13]
def Q15:List Item:=[sJ 4 8 18]
def Qaj6:List Item:=fI 18 (.bld [.int .i64 0,.int .i64 0,.sl true 1 [],.int .i64 0] [(0,1,.t 14),(1,1,.t 17)])::eI 8 (.alloc [.int .i64 0,.int .i64 0,.sl true 1 [],.int .i64 0])::Q15
def Qaj7:List Item:=[mJ 9 20]
def Qaj8:List Item:=[fI 30 (.bsl 1 [.t 29]),fI 31 (.bld [.int .i64 0,.int .i64 0,.sl true 1 [],.int .i64 0] [(0,1,kI 13),(1,1,kI (-1)),(2,1,.t 30)]),sJ 4 6 31]
def Qbgr:SC:=cT 26 (sR (mJ 27 0::mJ 28 2::aJ 29 Qq [.t 27,.t 28]::Qaj8) [6] .ret) .skip
def Qaj9:List Item:=[fJ 37 3 8,sJ 1 37 36]
def Qbgs:SC:=.reg [fJ 38 0 4,lJ 39 38,fJ 40 3 8,lJ 41 40,iJ 42 3 39 41,fJ 43 0 42,lJ 44 43,mJ 9 44] [0,2,6,7,8,9]
def Qbgt:SC:=sR (mJ 32 0::fJ 33 0 4::lJ 34 33::nJ 35 34::aJ 36 Qq [.t 32,.t 35]::Qaj9) [0,2,4,6,7,8] Qbgs
def Qbgu:SC:=cT 22 (.seq (sR [fJ 23 0 4,lJ 24 23,nJ 25 24,cJ 26 .eql 25 0] [0,2,4,6,7,8,26] Qbgr) Qbgt) .skip
def Qaau:List Item:=[fJ 50 3 8,sJ 1 50 49]
def Qa91:SC:=cT 46 (.reg (mJ 47 0::fI 48 (.bsl 1 [kI 0,kI 1,kI 2,kI 3,kI 15,kI 16,kI 255])::aJ 49 Qac [.t 47,.t 48]::Qaau) [0,2,6,7,8,9]) .skip
def Qaav:List Item:=[oJ 53 52]
def Qa92:SC:=cT 53 (.reg [fJ 54 1 8,.e none none (.sto 1 (.t 54) (kI (-1)))] [0,2,6,8,9]) .skip
def Qaaw:List Item:=[fJ 67 2 8,sJ 1 67 66]
def Qaax:List Item:=hJ 61 60::fI 65 (.bsl 1 [.t 64])::xJ 66 1 61 65::Qaaw
def Qa93:SC:=.reg [mJ 58 10,cJ 59 .add 58 1,mJ 10 59] [0,2,6,8,9,10]
def Qa94:SC:=.seq (.block 1 (.dreg 9 [0,1,2,3,4,1,5,6,7,8] ( fJ 60 2 8::lJ 61 60::mJ 62 0::mJ 63 2::aJ 64 Qq [.t 62,.t 63]::Qaax) [0,2,6,8,9,10])) Qa93
def Qa2d:SC:=.seq (sR [mJ 55 10,mJ 56 9,bJ 57 .lss 55 56] [0,2,6,8,9,10,57] (cT 57 .skip (.exit 0))) Qa94
def Qa95:SC:=sR [tJ 68 4 8,sJ 4 6 68] [6] .ret
def Qaj2:SC:=.seq (sR [zJ 10 0] [0,2,6,8,9,10] (bL 0 Qa2d)) Qa95
def Qaj3:SC:=.seq (sR (mJ 51 7::aJ 52 Qik [.t 51]::Qaav) [0,2,6,8,9,53] Qa92) Qaj2
def Qaj4:SC:=.seq (sR [mJ 45 7,cJ 46 .eql 45 1] [0,2,6,7,8,9,46] Qa91) Qaj3
def Qa96:SC:=.seq (sR [mJ 21 7,cJ 22 .eql 21 14] [0,2,4,6,7,8,9,22] Qbgu) Qaj4
def Qa97:SC:=sR (mJ 19 7::aJ 20 Qsy [.t 19]::Qaj7) [0,2,4,6,7,8,9] Qa96
def Qa98:SC:=sR (mJ 14 7::mJ 15 0::mJ 16 2::aJ 17 Qq [.t 15,.t 16]::Qaj6) [0,2,4,6,7,8] Qa97
def Qa99:SC:=sR (mJ 11 0::fI 12 (.bsl 1 [kI 1,kI 1,kI 2,kI 3,kI 4,kI 5,kI 8,kI 9,kI 10,kI 13,kI 3,kI 6,kI 7,kI 11,kI 12,kI 14])::aJ 13 Qac [.t 11,.t 12]::Qaj5) [0,2,4,6,7] Qa98
def Qbqj:SC:=sR [vJ 4 1,eI 6 (.alloc [.int .i64 0,.int .i64 0,.sl true 1 [],.int .i64 0])] [0,2,4,6] Qa99
def Qx5:List RS:=[.cell 6 4 true]
theorem Qbpd:mFn prog Qaes 3 69 Qbqj Qx5=true:=by kernel_rfl
def Qaka:List Item:=[gT 14 11 (.bin 0 .gtr (.t 13) (kI 0)),pF 15 11 14]
def Qa2e:List Item:=[bJ 24 .add 17 23,mJ 6 24]
def s_l7To_2:SC:=cT 15 (sR (mJ 16 1::cJ 17 .add 16 1::mJ 18 0::mJ 19 2::cJ 20 .sub 19 1::mJ 21 1::bJ 22 .sub 20 21::aJ 23 Qq [.t 18,.t 22]::Qa2e) [6] .ret) .skip
def Qa2f:List Item:=[fI 29 (.bin 0 .add (kI 1) (.t 28)),mJ 6 29]
def Qbck:SC:=sR (mJ 25 0::mJ 26 2::cJ 27 .sub 26 1::aJ 28 Qq [.t 25,.t 27]::Qa2f) [6] .ret
def Qbqk:SC:=.seq (sR (mJ 7 1::mJ 8 2::cJ 9 .sub 8 1::bJ 10 .lss 7 9::mJ 11 10::gTm 12 11 0::.e (some 13) (some (11,true)) (.call Qq [.t 12,kI 4])::Qaka) [0,1,2,15] s_l7To_2) Qbck
def Qbwp:SC:=sR [zJ 6 0] [0,1,2] Qbqk
def Qbcd:List RS:=[.tmp 6]
theorem Qbwe:mFn prog Qaet 3 30 Qbwp Qbcd=true:=by kernel_rfl
def Qaru:List Item:=[sJ 3 7 12]
def Q7g:List Item:=[gF 22 17 (.not (.t 21)),pT 23 17 22]
def Qarv:List Item:=oJ 16 15::mJ 17 16::gF 18 17 (.ld 3 true (.t 7))::gFf 19 17 2 5::gFl 20 17 19::.e (some 21) (some (17,false)) (.call Q2l [.t 18,.t 20])::Q7g
def s_l7Ins_3:SC:=cT 23 (sR [fB 6 false] [6] .ret) .skip
def Q7h:List Item:=[gF 38 34 (.not (.t 37)),gFm 39 34 38,gTf 40 39 1 5,gTl 41 39 40,gT 42 39 (.bin 0 .neq (.t 41) (kI (-1))),gF 43 34 (.pick (.t 39) (.t 42) (.k (.c (.bool false)))),pT 44 34 43]
def Qarw:List Item:=fI 33 (.bin 1 .neq (.t 26) (.t 32))::mJ 34 33::gFf 35 34 0 5::gFl 36 34 35::.e (some 37) (some (34,false)) (.call Qik [.t 36])::Q7h
def Qarx:List Item:=hJ 28 27::hJ 30 29::aJ 32 Qbm [.t 28,kI 0,.t 31]::Qarw
def s_l7Ins_7:SC:=cT 44 (sR [fB 6 false] [6] .ret) .skip
def Qx8:List Item:=[mJ 53 52,gTf 54 53 2 5,gTl 55 53 54,gT 56 53 (.len (.t 55)),gTf 57 53 0 3,gTl 58 53 57,gTf 59 53 3 5,gTl 60 53 59,gT 61 53 (.iad 3 (.t 58) (.t 60)),gTf 62 53 0 61,gTl 63 53 62,gT 64 53 (.bin 0 .eql (.t 56) (.t 63)),pF 65 53 64,mJ 6 65]
def Qbl1:SC:=cT 47 (.seq (.dreg 19 [0,1,2,3,4,5,6,7,8,9,10,11,12,13,14,15,16,17,18] ( fJ 48 3 5::lJ 49 48::mJ 50 1::cJ 51 .sub 50 1::aJ 52 Qbm [.t 49,kI 0,.t 51]::Qx8) [6]) .ret) .skip
def Q14:List Item:=[pF 77 73 76,mJ 78 77,gTf 79 78 3 5,gTl 80 78 79,gT 81 78 (.bin 0 .eql (.t 80) (kI 0)),gTm 82 78 81,gFf 83 82 0 5,gFl 84 82 83,gF 85 82 (.bin 0 .eql (.t 84) (kI 1)),gT 86 78 (.pick (.t 82) (.k (.c (.bool true))) (.t 85)),pF 87 78 86,mJ 6 87]
def Qajt:List Item:=hJ 67 66::.chk 68 none (.len (.t 67))::bJ 72 .eql 68 71::mJ 73 72::gTf 74 73 3 5::gTl 75 73 74::.e (some 76) (some (73,true)) (.call Qbm [.t 75,kI 0,kI 255])::Q14
def Qbgj:SC:=.seq (.dreg 23 [0,1,2,3,4,5,1,2,6,7,8,9,10,11,12,13,14,15,16,17,18,19,20,21,22] ( fJ 66 2 5::lJ 67 66::nJ 68 67::fJ 69 0 5::lJ 70 69::aJ 71 Qsy [.t 70]::Qajt) [6]) .ret
def Qars:SC:=.seq (sR [fJ 45 0 5,lJ 46 45,cJ 47 .eql 46 14] [1,3,5,47] Qbl1) Qbgj
def Qart:SC:=.seq (.seq (.dreg 21 [0,1,3,4,5,6,7,2,4,6,8,9,10,11,12,13,14,15,16,17,18,19,20] ( fJ 24 0 5::lJ 25 24::fJ 27 1 5::lJ 28 27::fJ 29 1 7::lJ 30 29::cJ 31 .sub 30 1::aJ 26 Qik [.t 25]::Qarx) [1,3,5,44]) s_l7Ins_7) Qars
def Qbgk:SC:=.seq (sR (fJ 13 0 5::lJ 14 13::aJ 15 Qbm [.t 14,kI 1,kI 14]::Qarv) [1,3,5,7,23] s_l7Ins_3) Qart
def Qbgl:SC:=sR (fJ 8 0 3::lJ 9 8::mJ 10 1::iJ 11 3 9 10::tJ 12 3 11::eI 7 (.alloc [.int .i64 0,.int .i64 0,.sl true 5 []])::Qaru) [1,3,5,7] Qbgk
def Qbur:SC:=sR [vJ 3 0,vJ 5 2,fB 6 false] [1,3,5] Qbgl
def Qafz:List RS:=[.tmp 6]
theorem Qbt8:mFn prog Qase 3 88 Qbur Qafz=true:=by kernel_rfl
def Qajw:List Item:=[oJ 20 19]
def Qbgm:SC:=cT 20 (sR [fB 4 false] [4] .ret) .skip
def Qbgn:SC:=.reg [mJ 10 5,cJ 11 .add 10 1,mJ 5 11] [1,2,5]
def Qbgo:SC:=.seq (.block 1 (.seq (.dreg 9 [0,1,2,3,4,5,6,7,8] ( mJ 12 1::mJ 13 5::iJ 14 1 12 13::lJ 15 14::fJ 16 1 2::lJ 17 16::cJ 18 .sub 17 1::aJ 19 Qbm [.t 15,kI 0,.t 18]::Qajw) [1,2,5,20]) Qbgm)) Qbgn
def Qa90:SC:=.seq (sR [mJ 6 5,mJ 7 1,nJ 8 7,bJ 9 .lss 6 8] [1,2,5,9] (cT 9 .skip (.exit 0))) Qbgo
def Qbgp:SC:=sR [fB 4 true] [4] .ret
def Qbgq:SC:=.seq (sR [zJ 5 0] [1,2,5] (bL 0 Qa90)) Qbgp
def Qbqi:SC:=sR [vJ 2 0,fB 4 false] [1,2] Qbgq
def Qatn:List RS:=[.tmp 4]
theorem Qbpc:mFn prog Q2l 2 21 Qbqi Qatn=true:=by kernel_rfl
def Qakj:List Item:=[bJ 33 .add 26 32,mJ 3 33]
def Qakk:List Item:=.chk 29 none (.iad 5 (.t 27) (.t 28))::hJ 31 30::bJ 26 .add 19 25::aJ 32 Qsz [.t 31]::Qakj
def Qakl:List Item:=.chk 22 none (.iad 5 (.t 20) (.t 21))::hJ 24 23::.chk 29 none (.iad 5 (.t 27) (.t 28))::hJ 31 30::bJ 19 .add 11 18::aJ 25 Qsz [.t 24]::Qakk
def Qbgy:SC:=.reg [mJ 9 4,cJ 10 .add 9 1,mJ 4 10] [0,3,4]
def Qbgz:SC:=.seq (.block 1 (.dreg 24 [0,1,2,3,4,5,6,9,10,11,12,13,16,17,18,19,20,7,11,13,18,20,8,14,18,20,15,21,22,23] ( mJ 11 3::mJ 12 0::mJ 13 4::iJ 14 5 12 13::fJ 15 0 14::lJ 16 15::cJ 17 .eql 16 1::mJ 20 0::mJ 21 4::iJ 22 5 20 21::fJ 23 3 22::lJ 24 23::mJ 27 0::mJ 28 4::iJ 29 5 27 28::fJ 30 4 29::lJ 31 30::aJ 18 Q5j [.t 17]::Qakl) [0,3,4])) Qbgy
def Qbao:SC:=.seq (sR [mJ 5 4,mJ 6 0,nJ 7 6,bJ 8 .lss 5 7] [0,3,4,8] (cT 8 .skip (.exit 0))) Qbgz
def Qbg0:SC:=sR [mJ 34 3,mJ 2 34] [2] .ret
def Qbg1:SC:=.seq (sR [zJ 4 0] [0,3,4] (bL 0 Qbao)) Qbg0
def Qbg2:SC:=sR [zJ 3 0] [0,3] Qbg1
def Qbqq:SC:=sR [zJ 2 0] [0] Qbg2
def Qbcg:List RS:=[.tmp 2]
theorem Qbpg:mFn prog Qsz 1 35 Qbqq Qbcg=true:=by kernel_rfl
def Qql:List Item:=[kJ 15 3,fJ 16 1 15,fJ 17 2 16,sJ 1 17 14]
def Qakm:SC:=sR [mJ 18 0,kJ 19 18,fJ 20 1 19,fJ 21 2 20,lJ 22 21,nJ 23 22,cJ 24 .sub 23 1,mJ 2 24] [2] .ret
def Qakn:SC:=sR (mJ 3 0::mJ 4 0::kJ 5 4::fJ 6 1 5::fJ 7 2 6::lJ 8 7::fI 9 (.bsl 2 [])::fI 10 (.bsl 4 [])::fI 11 (.bsl 1 [])::fI 12 (.bld [.sl true 2 [],.sl true 4 [],.int .i64 0,.int .i64 0,.sl true 1 []] [(0,1,.t 9),(1,1,.t 10),(4,1,.t 11)])::fI 13 (.bsl 5 [.t 12])::xJ 14 5 8 13::Qql) [0] Qakm
def Qavo:SC:=sR [zJ 2 0] [0] Qakn
def Q27:List RS:=[.tmp 2]
theorem Qatb:mFn prog Qaw 1 25 Qavo Q27=true:=by kernel_rfl
def Qalm:SC:=.reg [mJ 15 5,cJ 16 .add 15 1,mJ 5 16] [0,1,4,5]
def Qaln:SC:=.seq (.block 1 (.reg [mJ 17 0,mJ 18 1,mJ 19 5,iJ 20 5 18 19,tJ 21 5 20,aJ 22 Qn3 [.t 17,.t 21]] [0,1,4,5])) Qalm
def Qac5:SC:=.seq (sR [mJ 11 5,mJ 12 1,nJ 13 12,bJ 14 .lss 11 13] [0,1,4,5,14] (cT 14 .skip (.exit 0))) Qaln
def Qalo:SC:=.reg [mJ 23 0,mJ 24 0,kJ 25 24,fJ 26 5 25,lJ 27 26,mJ 28 4,fI 29 (.sli 3 (.t 27) none (some (.t 28))),kJ 30 23,fJ 31 5 30,sJ 1 31 29] []
def Qalp:SC:=.seq (sR [zJ 5 0] [0,1,4,5] (bL 0 Qac5)) Qalo
def Qavy:SC:=sR [mJ 6 0,kJ 7 6,fJ 8 5 7,lJ 9 8,nJ 10 9,mJ 4 10] [0,1,4] Qalp
def Qoc:List RS:=[]
theorem Qatd:mFn prog Qct 2 32 Qavy Qoc=true:=by kernel_rfl
def Q0p:List Item:=[kJ 34 22,fJ 35 1 34,sJ 1 35 33]
def Qavq:SC:=sR [mJ 36 2,mJ 10 36] [10] .ret
def Qavr:SC:=sR (mJ 22 11::mJ 23 11::kJ 24 23::fJ 25 1 24::lJ 26 25::mJ 27 1::mJ 28 2::mJ 29 4::mJ 30 3::fI 31 (.bld [.int .i64 0,.int .i64 0,.sl true 1 [],.int .i64 0] [(0,1,.t 27),(1,1,.t 28),(2,1,.t 29),(3,1,.t 30)])::fI 32 (.bsl 4 [.t 31])::xJ 33 4 26 32::Q0p) [2] Qavq
def Qavs:SC:=.seq (.dreg 11 [0,1,2,3,4,5,6,7,8,9,10] ( mJ 12 0::kJ 13 12::fJ 14 1 13::fJ 15 2 14::lJ 16 15::mJ 17 0::kJ 18 17::fJ 19 4 18::lJ 20 19::iJ 21 5 16 20::mJ 11 21::[]) [1,2,3,4,11]) Qavr
def Qbaq:SC:=sR [zJ 10 0] [0,1,2,3,4] Qavs
def Qaf2:List RS:=[.tmp 10]
theorem Qa5b:mFn prog Qa1 5 37 Qbaq Qaf2=true:=by kernel_rfl
def Qakz:SC:=sR [mJ 13 0,kJ 14 13,fJ 15 1 14,fJ 16 1 15,lJ 17 16,cJ 18 .sub 17 1,mJ 2 18] [2] .ret
def Qak0:SC:=sR [mJ 3 0,mJ 4 0,kJ 5 4,fJ 6 1 5,fJ 7 1 6,lJ 8 7,cJ 9 .add 8 1,kJ 10 3,fJ 11 1 10,fJ 12 1 11,sJ 1 12 9] [0] Qakz
def Qavp:SC:=sR [zJ 2 0] [0] Qak0
def Q28:List RS:=[.tmp 2]
theorem Qatc:mFn prog Qa9 1 19 Qavp Q28=true:=by kernel_rfl
def Qap3:SC:=.reg [mJ 33 0,mJ 34 4,kJ 35 33,fJ 36 4 35,sJ 1 36 34] []
def Qap4:SC:=sR [mJ 29 10,mJ 30 3,kJ 31 29,fJ 32 4 31,sJ 1 32 30] [0,4] Qap3
def Qap5:SC:=sR [mJ 25 10,mJ 26 2,kJ 27 25,fJ 28 3 27,sJ 1 28 26] [0,3,4,10] Qap4
def Qap6:SC:=sR [mJ 21 10,mJ 22 1,kJ 23 21,fJ 24 2 23,sJ 1 24 22] [0,2,3,4,10] Qap5
def Qa2p:SC:=.seq (.dreg 11 [0,1,2,3,4,5,6,7,8,9,10] ( mJ 11 0::kJ 12 11::fJ 13 1 12::fJ 14 2 13::lJ 15 14::mJ 16 0::kJ 17 16::fJ 18 4 17::lJ 19 18::iJ 20 5 15 19::mJ 10 20::[]) [0,1,2,3,4,10]) Qap6
def Q8i:List RS:=[]
theorem Qaxz:mFn prog Qa3 5 37 Qa2p Q8i=true:=by kernel_rfl
def Qpv:List Item:=[mJ 7 18]
def Qpw:List Item:=[mJ 6 34]
def Qpx:List Item:=xJ 34 5 30 33::Qpw
def Qahz:SC:=.reg [mJ 28 7,cJ 29 .sub 28 1,mJ 7 29] [0,1,5,6,7]
def Qah0:SC:=.seq (.block 1 (.reg (mJ 30 6::mJ 31 0::mJ 32 1::aJ 33 Qnz [.t 31,.t 32]::Qpx) [0,1,5,6,7])) Qahz
def Qack:SC:=.seq (sR [mJ 19 7,cJ 20 .gtr 19 0,mJ 21 20,gTm 22 21 0,gT 23 21 (.nck (.t 22)),gTf 24 21 4 23,gTl 25 21 24,gT 26 21 (.bin 0 .gtr (.t 25) (kI 0)),pF 27 21 26] [0,1,5,6,7,27] (cT 27 .skip (.exit 0))) Qah0
def Qah1:SC:=sR [mJ 39 6,mJ 4 39] [4] .ret
def Qah2:SC:=sR [mJ 35 0,mJ 36 5,kJ 37 35,fJ 38 2 37,sJ 1 38 36] [6] Qah1
def Qah3:SC:=.seq (sR (mJ 13 0::kJ 14 13::fJ 15 0 14::lJ 16 15::fI 17 (.bsl 1 [kI 2,kI 3,kI 1,kI 4])::aJ 18 Qac [.t 16,.t 17]::Qpv) [0,1,5,6,7] (bL 0 Qack)) Qah2
def Qah4:SC:=sR [fI 12 (.bsl 5 []),mJ 6 12] [0,1,5,6] Qah3
def Qacj:SC:=sR [mJ 8 0,kJ 9 8,fJ 10 2 9,lJ 11 10,mJ 5 11] [0,1,5] Qah4
def Qau8:SC:=sR [fI 4 (.mv (.k (.c (.sl true 5 []))))] [0,1] Qacj
def Q24:List RS:=[.tmp 4]
theorem Qas7:mFn prog Qcs 2 40 Qau8 Q24=true:=by kernel_rfl
def Qvw:List Item:=[hJ 12 11,hJ 16 15,sJ 4 5 18]
def Qvx:List Item:=eI 5 (.alloc [.int .i64 0,.int .i64 0,.str [],.sl true 4 []])::Qvw
def Qjq:List Item:=[gF 31 25 (.bin 0 .gtr (.t 30) (kI 0)),pT 32 25 31]
def s_l3Gen_expr_3:SC:=cT 32 (sR [tJ 33 4 5,sJ 4 4 33] [4] .ret) .skip
def Qvy:List Item:=[hJ 37 36,hJ 41 40,hJ 45 44,.chk 46 none (.len (.t 45)),.chk 48 none (.iad 3 (.t 37) (.t 47)),.chk 49 none (.ld 3 true (.t 48)),sJ 3 6 49]
def Qvz:List Item:=hJ 37 36::iJ 48 3 37 47::tJ 49 3 48::eI 6 (.alloc [.str [],.sl true 1 [],.sl true 5 []])::Qvy
def Qv0:List Item:=[sJ 4 7 52]
def Qv1:List Item:=[fJ 73 3 7,sJ 1 73 72]
def Qv2:List Item:=hJ 61 60::fI 71 (.bsl 4 [.t 70])::xJ 72 4 61 71::Qv1
def Qapb:SC:=.reg [mJ 58 8,cJ 59 .add 58 1,mJ 8 59] [0,4,6,7,8]
def Qah5:SC:=.seq (.block 1 (.dreg 15 [0,1,2,3,4,5,6,7,8,9,10,1,11,12,13,14] ( fJ 60 3 7::lJ 61 60::mJ 62 0::kJ 63 62::fJ 64 0 63::lJ 65 64::mJ 66 0::kJ 67 66::fJ 68 2 67::lJ 69 68::aJ 70 Qgz [.t 65,.t 69,kI 2]::Qv2) [0,4,6,7,8])) Qapb
def Qacl:SC:=.seq (sR [mJ 53 8,fJ 54 1 6,lJ 55 54,nJ 56 55,bJ 57 .lss 53 56] [0,4,6,7,8,57] (cT 57 .skip (.exit 0))) Qah5
def Qpy:List Item:=[cJ 79 .eql 78 0]
def Qah6:SC:=cT 79 (sR [tJ 80 4 7,sJ 4 4 80] [4] .ret) .skip
def Qpz:List Item:=[.chk 87 none (.ld 4 true (.t 7)),fI 97 (.bsl 4 [.t 87,.t 96]),fI 98 (.bld [.int .i64 0,.int .i64 0,.str [],.sl true 4 []] [(0,1,.t 86),(3,1,.t 97)]),sJ 4 4 98]
def Qp0:List Item:=.chk 87 none (.ld 4 true (.t 7))::hJ 91 90::hJ 95 94::aJ 96 Qgz [.t 91,.t 95,kI 2]::Qpz
def Qah7:SC:=.seq (.dreg 19 [0,1,2,3,4,6,7,8,9,10,11,12,13,14,5,6,10,14,15,6,16,17,18] ( mJ 81 0::kJ 82 81::fJ 83 0 82::lJ 84 83::fI 85 (.bsl 1 [kI 3,kI 4,kI 8,kI 10])::tJ 87 4 7::mJ 88 0::kJ 89 88::fJ 90 0 89::lJ 91 90::mJ 92 0::kJ 93 92::fJ 94 2 93::lJ 95 94::aJ 86 Qac [.t 84,.t 85]::Qp0) [4]) .ret
def Qah8:SC:=.seq (sR (mJ 74 0::kJ 75 74::fJ 76 0 75::lJ 77 76::aJ 78 Qq [.t 77,kI 2]::Qpy) [0,4,7,79] Qah6) Qah7
def Qah9:SC:=.seq (sR [zJ 8 0] [0,4,6,7,8] (bL 0 Qacl)) Qah8
def Qaia:SC:=sR (fJ 50 0 6::lJ 51 50::fI 52 (.bld [.int .i64 0,.int .i64 0,.str [],.sl true 4 []] [(0,1,kI 13),(2,1,.t 51)])::eI 7 (.alloc [.int .i64 0,.int .i64 0,.str [],.sl true 4 []])::Qv0) [0,4,6,7] Qah9
def Qvv:SC:=.seq (.dreg 16 [0,1,2,3,4,5,6,7,8,9,10,11,12,13,3,14,15,16,3,7,11,12,14,15,17] ( mJ 34 0::kJ 35 34::fJ 36 1 35::lJ 37 36::mJ 38 0::kJ 39 38::fJ 40 0 39::lJ 41 40::mJ 42 0::kJ 43 42::fJ 44 1 43::lJ 45 44::nJ 46 45::aJ 47 Qq [.t 41,.t 46]::Qvz) [0,4,6]) Qaia
def Qaib:SC:=.seq (sR (mJ 19 0::kJ 20 19::fJ 21 1 20::lJ 22 21::nJ 23 22::cJ 24 .eql 23 0::mJ 25 24::gFm 26 25 0::gF 27 25 (.nck (.t 26))::gFf 28 25 0 27::gFl 29 25 28::.e (some 30) (some (25,false)) (.call Qq [.t 29,kI 4])::Qjq) [0,4,5,32] s_l3Gen_expr_3) Qvv
def Qaic:SC:=.seq (.dreg 10 [0,1,2,3,4,5,6,7,8,9,10,3,7,11] ( mJ 9 0::kJ 10 9::fJ 11 0 10::lJ 12 11::mJ 13 0::kJ 14 13::fJ 15 2 14::lJ 16 15::mJ 17 1::aJ 18 Qgz [.t 12,.t 16,.t 17]::Qvx) [0,4,5]) Qaib
def Qa1l:SC:=sR [eI 4 (.alloc [.int .i64 0,.int .i64 0,.str [],.sl true 4 []])] [0,1,4] Qaic
def Qkl:List RS:=[.cell 4 4 true]
theorem Qaxt:mFn prog Qbh 2 99 Qa1l Qkl=true:=by kernel_rfl
def Qa1i:List Item:=[oJ 17 16]
def Qbp6:SC:=cT 17 (sR [fB 2 false] [2] .ret) .skip
def Qbp7:SC:=.reg [mJ 9 3,cJ 10 .add 9 1,mJ 3 10] [1,3]
def Qbp8:SC:=.seq (.block 1 (sR (fJ 11 1 1::lJ 12 11::mJ 13 3::iJ 14 1 12 13::lJ 15 14::aJ 16 Qec [.t 15]::Qa1i) [1,3,17] Qbp6)) Qbp7
def Qblx:SC:=.seq (sR [mJ 4 3,fJ 5 1 1,lJ 6 5,nJ 7 6,bJ 8 .lss 4 7] [1,3,8] (cT 8 .skip (.exit 0))) Qbp8
def Qahy:List Item:=[pF 31 27 30,mJ 2 31]
def Qa1j:List Item:=mJ 21 20::gTf 22 21 1 1::gTl 23 21 22::gT 24 21 (.len (.t 23))::gT 25 21 (.bin 0 .leq (.t 24) (kI 3))::pF 26 21 25::mJ 27 26::gTf 28 27 2 1::gTl 29 27 28::.e (some 30) (some (27,true)) (.call Ql5 [.t 29,kI 4])::Qahy
def Qbp9:SC:=sR (fJ 18 0 1::lJ 19 18::aJ 20 Qec [.t 19]::Qa1j) [2] .ret
def Qbqa:SC:=.seq (sR [zJ 3 0] [1,3] (bL 0 Qblx)) Qbp9
def Qbwo:SC:=sR [vJ 1 0,fB 2 false] [1] Qbqa
def Qbkm:List RS:=[.tmp 2]
theorem Qbwd:mFn prog Qa4t 1 32 Qbwo Qbkm=true:=by kernel_rfl
def Qarr:List Item:=[bJ 20 .add 12 19,mJ 3 20]
def Qblr:SC:=.reg [mJ 10 4,cJ 11 .add 10 1,mJ 4 11] [1,3,4]
def Qbls:SC:=.seq (.block 1 (.reg (mJ 12 3::fJ 13 0 1::lJ 14 13::mJ 15 4::iJ 16 3 14 15::fJ 17 2 16::lJ 18 17::aJ 19 Ql4 [.t 18]::Qarr) [1,3,4])) Qblr
def Qbfm:SC:=.seq (sR [mJ 5 4,fJ 6 0 1,lJ 7 6,nJ 8 7,bJ 9 .lss 5 8] [1,3,4,9] (cT 9 .skip (.exit 0))) Qbls
def Qblt:SC:=sR [mJ 21 3,mJ 2 21] [2] .ret
def Qblu:SC:=.seq (sR [zJ 4 0] [1,3,4] (bL 0 Qbfm)) Qblt
def Qblv:SC:=sR [zJ 3 0] [1,3] Qblu
def Qbuq:SC:=sR [vJ 1 0,zJ 2 0] [1] Qblv
def Qbkl:List RS:=[.tmp 2]
theorem Qbt7:mFn prog Qasd 1 22 Qbuq Qbkl=true:=by kernel_rfl
def Qaas:List Item:=[mJ 5 4,gTm 6 5 0,gT 7 5 (.bin 0 .neq (.t 6) (kI 12)),pF 8 5 7,mJ 9 8,gTm 10 9 0,gT 11 9 (.bin 0 .neq (.t 10) (kI 13)),pF 12 9 11,mJ 2 12]
def Qa9u:SC:=sR (mJ 3 0::aJ 4 Qbm [.t 3,kI 1,kI 14]::Qaas) [2] .ret
def Qbl2:SC:=sR [fB 2 false] [0] Qa9u
def Qayi:List RS:=[.tmp 2]
theorem Qbj4:mFn prog Qik 1 13 Qbl2 Qayi=true:=by kernel_rfl
def Qai5:List Item:=[mJ 24 23,gFm 25 24 0,gF 26 24 (.bin 0 .eql (.t 25) (kI 12)),pT 27 24 26,mJ 21 27]
def Qbf5:SC:=cT 21 (sR [zJ 2 2] [2] .ret) .skip
def Qbf6:SC:=cT 6 (sR [zJ 2 1] [2] .ret) (sR (mJ 22 0::aJ 23 Qbm [.t 22,kI 3,kI 9]::Qai5) [21] Qbf5)
def Qbf7:SC:=cT 3 (sR [zJ 2 0] [2] .ret) (sR [mJ 7 0,cJ 8 .eql 7 2,mJ 9 8,gFm 10 9 0,gF 11 9 (.bin 0 .eql (.t 10) (kI 10)),pT 12 9 11,mJ 13 12,gFm 14 13 0,gF 15 13 (.bin 0 .eql (.t 14) (kI 11)),pT 16 13 15,mJ 17 16,gFm 18 17 0,gF 19 17 (.bin 0 .eql (.t 18) (kI 13)),pT 20 17 19,mJ 6 20] [0,6] Qbf6)
def Qbf8:SC:=sR [zJ 2 (-1)] [2] .ret
def Qbf9:SC:=.seq (.block 0 (sR [mJ 4 0,cJ 5 .eql 4 1,mJ 3 5] [0,3] Qbf7)) Qbf8
def Qbqe:SC:=sR [zJ 2 0] [0] Qbf9
def Qatm:List RS:=[.tmp 2]
theorem Qbo8:mFn prog Qsy 1 28 Qbqe Qatm=true:=by kernel_rfl
def Qa8n:SC:=cT 3 (sR [zJ 2 1] [2] .ret) .skip
def Qa8o:SC:=sR [zJ 2 0] [2] .ret
def Qa8p:SC:=.seq (sR [mJ 3 0] [3] Qa8n) Qa8o
def Qblz:SC:=sR [zJ 2 0] [0] Qa8p
def Qafy:List RS:=[.tmp 2]
theorem Qbj2:mFn prog Q5j 1 4 Qblz Qafy=true:=by kernel_rfl
def Qaqe:SC:=cT 11 (sR [mJ 12 0,tJ 13 5 3,aJ 14 Qn2 [.t 12,.t 13]] [] .ret) .skip
def Qw2:List Item:=[mJ 4 32]
def Qw3:List Item:=fI 31 (.bsl 1 [.t 30])::xJ 32 1 23 31::Qw2
def Qaqf:SC:=.reg [mJ 21 5,cJ 22 .add 21 1,mJ 5 22] [0,3,4,5]
def Qaqg:SC:=.seq (.block 1 (.reg (mJ 23 4::mJ 24 0::fJ 25 2 3::lJ 26 25::mJ 27 5::iJ 28 4 26 27::tJ 29 4 28::aJ 30 Qci [.t 24,.t 29]::Qw3) [0,3,4,5])) Qaqf
def Qall:SC:=.seq (sR [mJ 16 5,fJ 17 2 3,lJ 18 17,nJ 19 18,bJ 20 .lss 16 19] [0,3,4,5,20] (cT 20 .skip (.exit 0))) Qaqg
def Qw4:List Item:=[kJ 58 44,fJ 59 5 58,sJ 1 59 57]
def Qaqh:SC:=.reg [mJ 60 0,mJ 61 0,kJ 62 61,fJ 63 6 62,lJ 64 63,cJ 65 .add 64 1,kJ 66 60,fJ 67 6 66,sJ 1 67 65] []
def Qaqi:SC:=.seq (.dreg 17 [0,1,2,3,4,5,6,7,8,9,10,11,12,13,14,15,16] ( mJ 44 0::mJ 45 0::kJ 46 45::fJ 47 5 46::lJ 48 47::fJ 49 1 3::lJ 50 49::mJ 51 0::kJ 52 51::fJ 53 6 52::lJ 54 53::fI 55 (.bld [.str [],.int .i64 0,.int .i64 0] [(0,1,.t 50),(1,1,.t 54),(2,1,kI 0)])::fI 56 (.bsl 3 [.t 55])::xJ 57 3 48 56::Qw4) [0]) Qaqh
def Qw5:List Item:=[mJ 75 4,aJ 76 Qa1 [.t 70,kI 2,.t 74,kI 0,.t 75]]
def Qqv:List Item:=[.chk 91 none (.iad 1 (.t 90) (kI 0)),hJ 92 91,aJ 96 Qa3 [.t 89,kI 3,.t 92,.t 93,.t 95]]
def Qqw:List Item:=[mJ 6 100]
def Qqx:List Item:=[mJ 7 102]
def Qqy:List Item:=[mJ 8 104]
def Qak3:SC:=.reg [mJ 127 0,mJ 128 8,fI 129 (.bsl 1 [.t 128]),mJ 130 8,aJ 131 Qa3 [.t 127,kI 1,kI 0,.t 129,.t 130]] []
def Qak4:SC:=sR [mJ 123 0,fJ 124 4 3,lJ 125 124,aJ 126 Qct [.t 123,.t 125]] [0,8] Qak3
def Qak5:SC:=sR [mJ 118 0,mJ 119 8,fI 120 (.bsl 1 [.t 119]),mJ 121 7,aJ 122 Qa3 [.t 118,kI 1,kI 0,.t 120,.t 121]] [0,3,8] Qak4
def Qak6:SC:=sR [mJ 114 0,fJ 115 3 3,lJ 116 115,aJ 117 Qct [.t 114,.t 116]] [0,3,7,8] Qak5
def Qak7:SC:=sR [mJ 105 0,mJ 106 4,fI 107 (.iad 1 (.t 106) (kI 0)),lJ 108 107,mJ 109 6,mJ 110 7,fI 111 (.bsl 1 [.t 109,.t 110]),mJ 112 6,aJ 113 Qa3 [.t 105,kI 2,.t 108,.t 111,.t 112]] [0,3,7,8] Qak6
def Qak8:SC:=sR (mJ 103 0::aJ 104 Qaw [.t 103]::Qqy) [0,3,4,6,7,8] Qak7
def Qak9:SC:=sR (mJ 101 0::aJ 102 Qaw [.t 101]::Qqx) [0,3,4,6,7] Qak8
def Qala:SC:=cT 97 (sR (mJ 99 0::aJ 100 Qaw [.t 99]::Qqw) [0,3,4,6] Qak9) .skip
def Qalb:SC:=cT 87 (.dreg 8 [0,1,2,3,4,5,6,2,3,7] ( mJ 89 0::mJ 90 4::fI 91 (.iad 1 (.t 90) (kI 0))::lJ 92 91::fI 93 (.bsl 1 [])::mJ 94 0::aJ 95 Qaw [.t 94]::Qqv) []) (sR [cJ 98 .eql 34 5,mJ 97 98] [0,3,4,97] Qala)
def Qalc:SC:=cT 82 (.reg [mJ 84 0,mJ 85 4,aJ 86 Qa1 [.t 84,kI 12,kI (-1),kI 0,.t 85]] []) (sR [cJ 88 .eql 34 7,mJ 87 88] [0,3,4,34,87] Qalb)
def Qald:SC:=cT 77 (.reg [mJ 79 0,mJ 80 4,aJ 81 Qa1 [.t 79,kI 13,kI (-1),kI 0,.t 80]] []) (sR [cJ 83 .eql 34 4,mJ 82 83] [0,3,4,34,82] Qalc)
def Qale:SC:=cT 68 (.reg (mJ 70 0::mJ 71 0::fJ 72 1 3::lJ 73 72::aJ 74 Qkc [.t 71,.t 73]::Qw5) []) (sR [cJ 78 .eql 34 3,mJ 77 78] [0,3,4,34,77] Qald)
def Qalf:SC:=cT 35 (sR [mJ 37 0,mJ 38 0,kJ 39 38,fJ 40 6 39,lJ 41 40,mJ 42 4,aJ 43 Qa1 [.t 37,kI 2,.t 41,kI 0,.t 42]] [0,3] Qaqi) (sR [cJ 69 .eql 34 2,mJ 68 69] [0,3,4,34,68] Qale)
def Qalg:SC:=.block 2 (sR [cJ 36 .eql 34 1,mJ 35 36] [0,3,4,34,35] Qalf)
def Qalh:SC:=.seq (.seq .gh (.reg [fJ 33 0 3,lJ 34 33] [0,3,4,34])) Qalg
def Qali:SC:=.seq (sR [zJ 5 0] [0,3,4,5] (bL 0 Qall)) Qalh
def Qalj:SC:=sR [fI 15 (.bsl 1 []),mJ 4 15] [0,3,4] Qali
def Qalk:SC:=.seq (sR [fJ 9 0 3,lJ 10 9,cJ 11 .eql 10 6] [0,3,11] Qaqe) Qalj
def Qa2r:SC:=sR [vJ 3 1] [0,3] Qalk
def Qtq:List RS:=[]
theorem Qax1:mFn prog Qn3 2 132 Qa2r Qtq=true:=by kernel_rfl
def Qwd:List Item:=[mJ 5 19]
def Qwe:List Item:=[fI 42 (.bsl 4 [.t 41]),fI 43 (.bld [.int .i64 0,.str [],.sl true 4 [],.sl true 5 [],.sl true 5 []] [(0,1,kI 2),(1,1,.t 39),(2,1,.t 42)]),fI 44 (.bsl 5 [.t 43]),mJ 4 44]
def Qwf:List Item:=aJ 41 Qbh [.t 40,kI 3]::Qwe
def Qwg:List Item:=[fI 52 (.bsl 5 [.t 51]),mJ 4 52]
def Qwh:List Item:=aJ 51 Qkb [.t 48,.t 50]::Qwg
def Qwi:List Item:=[fI 62 (.bsl 4 [.t 61]),fI 63 (.bld [.int .i64 0,.str [],.sl true 4 [],.sl true 5 [],.sl true 5 []] [(0,1,kI 3),(2,1,.t 62)]),fI 64 (.bsl 5 [.t 63]),mJ 4 64]
def Qwj:List Item:=[fI 72 (.bsl 4 [.t 69,.t 71]),fI 73 (.bld [.int .i64 0,.str [],.sl true 4 [],.sl true 5 [],.sl true 5 []] [(0,1,kI 4),(2,1,.t 72)]),fI 74 (.bsl 5 [.t 73]),mJ 4 74]
def Qwk:List Item:=mJ 70 0::aJ 71 Qbh [.t 70,kI 2]::Qwj
def Qwl:List Item:=[fI 80 (.bsl 4 [.t 79]),fI 81 (.bld [.int .i64 0,.int .i64 0,.str [],.sl true 4 []] [(0,1,kI 12),(3,1,.t 80)]),fI 82 (.bsl 4 [.t 81]),fI 83 (.bld [.int .i64 0,.str [],.sl true 4 [],.sl true 5 [],.sl true 5 []] [(0,1,kI 3),(2,1,.t 82)]),fI 84 (.bsl 5 [.t 83]),mJ 4 84]
def Qwm:List Item:=[sJ 5 6 95]
def Qp3:List Item:=fI 95 (.bld [.int .i64 0,.str [],.sl true 4 [],.sl true 5 [],.sl true 5 []] [(0,1,kI 5),(2,1,.t 90),(3,1,.t 94)])::eI 6 (.alloc [.int .i64 0,.str [],.sl true 4 [],.sl true 5 [],.sl true 5 []])::Qwm
def Qp4:List Item:=fI 90 (.bsl 4 [.t 89])::mJ 91 0::mJ 92 1::cJ 93 .sub 92 1::aJ 94 Qcs [.t 91,.t 93]::Qp3
def Qp5:List Item:=[cJ 101 .eql 100 0]
def Qp6:List Item:=[fJ 106 4 6,sJ 1 106 105]
def Qaik:SC:=cT 101 (.reg (mJ 102 0::mJ 103 1::cJ 104 .sub 103 1::aJ 105 Qcs [.t 102,.t 104]::Qp6) [6]) .skip
def Qwb:SC:=sR [tJ 107 5 6,fI 108 (.bsl 5 [.t 107]),mJ 4 108] [4] .ret
def Qail:SC:=.seq (sR (mJ 96 0::kJ 97 96::fJ 98 0 97::lJ 99 98::aJ 100 Qq [.t 99,kI 2]::Qp5) [0,1,6,101] Qaik) Qwb
def Qhk:List Item:=[gT 118 112 (.bin 0 .eql (.t 117) (kI 0)),pF 119 112 118,mJ 109 119]
def Qp7:List Item:=[fI 122 (.bsl 4 [.t 121]),fI 123 (.bld [.int .i64 0,.str [],.sl true 4 [],.sl true 5 [],.sl true 5 []] [(0,1,kI 7),(2,1,.t 122)]),fI 124 (.bsl 5 [.t 123]),mJ 4 124]
def Qwc:SC:=cT 109 (sR (mJ 120 0::aJ 121 Qbh [.t 120,kI 2]::Qp7) [4] .ret) .skip
def Qaim:SC:=cT 85 (sR (mJ 88 0::aJ 89 Qbh [.t 88,kI 3]::Qp4) [0,1,6] Qail) (sR (mJ 110 5::cJ 111 .eql 110 11::mJ 112 111::gTm 113 112 0::gT 114 112 (.nck (.t 113))::gTf 115 112 0 114::gTl 116 112 115::.e (some 117) (some (112,true)) (.call Qq [.t 116,kI 3])::Qhk) [0,1,109] Qwc)
def Qain:SC:=cT 75 (sR (mJ 78 0::aJ 79 Qh6 [.t 78]::Qwl) [4] .ret) (sR [mJ 86 5,cJ 87 .lss 86 11,mJ 85 87] [0,1,5,85] Qaim)
def Qaio:SC:=cT 65 (sR (mJ 68 0::aJ 69 Qh6 [.t 68]::Qwk) [4] .ret) (sR [mJ 76 5,cJ 77 .eql 76 8,mJ 75 77] [0,1,5,75] Qain)
def Qaip:SC:=cT 53 (sR (mJ 60 0::aJ 61 Qbh [.t 60,kI 3]::Qwi) [4] .ret) (sR [mJ 66 5,cJ 67 .eql 66 7,mJ 65 67] [0,1,5,65] Qaio)
def Qaiq:SC:=cT 45 (sR (mJ 48 0::mJ 49 0::aJ 50 Qbh [.t 49,kI 3]::Qwh) [4] .ret) (sR [mJ 54 5,cJ 55 .lss 54 7,mJ 56 55,gFm 57 56 1,gF 58 56 (.bin 0 .lss (.t 57) (kI 2)),pT 59 56 58,mJ 53 59] [0,1,5,53] Qaip)
def Qair:SC:=cT 20 (.seq (.dreg 15 [0,1,2,3,4,5,6,7,9,8,10,11,12,13,14] ( mJ 31 0::kJ 32 31::fJ 33 0 32::lJ 34 33::mJ 35 0::kJ 36 35::fJ 37 2 36::lJ 38 37::mJ 40 0::aJ 39 Qiy [.t 34,.t 38]::Qwf) [4]) .ret) (sR [mJ 46 5,cJ 47 .lss 46 5,mJ 45 47] [0,1,5,45] Qaiq)
def Qp8:List Item:=[mJ 4 127]
def Qjr:SC:=sR (mJ 125 0::mJ 126 1::aJ 127 Qny [.t 125,.t 126]::Qp8) [4] .ret
def Qais:SC:=.seq (.block 0 (sR [mJ 21 5,cJ 22 .lss 21 3,mJ 23 22,gTm 24 23 0,gT 25 23 (.nck (.t 24)),gTf 26 23 2 25,gTl 27 23 26,gT 28 23 (.len (.t 27)),gT 29 23 (.bin 0 .gtr (.t 28) (kI 0)),pF 30 23 29,mJ 20 30] [0,1,5,20] Qair)) Qjr
def Qait:SC:=sR (mJ 15 0::kJ 16 15::fJ 17 0 16::lJ 18 17::aJ 19 Qq [.t 18,kI 13]::Qwd) [0,1,5] Qais
def Qaiu:SC:=sR [mJ 7 0,mJ 8 0,kJ 9 8,fJ 10 4 9,lJ 11 10,cJ 12 .sub 11 1,kJ 13 7,fJ 14 4 13,sJ 1 14 12] [0,1] Qait
def Qa1p:SC:=sR [fI 4 (.mv (.k (.c (.sl true 5 []))))] [0,1] Qaiu
def Qbj:List RS:=[.tmp 4]
theorem Qaxv:mFn prog Qnz 2 128 Qa1p Qbj=true:=by kernel_rfl
def Q1z:List Item:=[gF 13 10 (.bin 0 .eql (.t 12) (kI 0)),pT 14 10 13]
def Qahj:List Item:=[sJ 4 6 17]
def s_l2Expr_2:SC:=cT 14 (sR (mJ 15 0::mJ 16 1::aJ 17 Qaem [.t 15,.t 16]::Qahj) [6] .ret) .skip
def Qahk:List Item:=[cJ 20 .eql 19 0]
def Qahl:List Item:=[fI 29 (.bsl 4 [.t 28]),fI 30 (.bld [.int .i64 0,.int .i64 0,.str [],.sl true 4 []] [(0,1,.t 23),(3,1,.t 29)]),sJ 4 6 30]
def Qahm:List Item:=mJ 24 0::mJ 25 1::mJ 26 2::cJ 27 .sub 26 1::aJ 28 Qgz [.t 24,.t 25,.t 27]::Qahl
def Qbfc:SC:=cT 20 (sR (mJ 21 0::fI 22 (.bsl 1 [kI 11,kI 12,kI 11])::aJ 23 Qac [.t 21,.t 22]::Qahm) [6] .ret) .skip
def Qahn:List Item:=[mJ 7 33]
def Qaho:List Item:=[fI 45 (.bsl 4 [.t 39,.t 44]),fI 46 (.bld [.int .i64 0,.int .i64 0,.str [],.sl true 4 []] [(0,1,.t 34),(3,1,.t 45)]),sJ 4 6 46]
def Qahp:List Item:=mJ 40 0::mJ 41 1::mJ 42 2::cJ 43 .sub 42 1::aJ 44 Qgz [.t 40,.t 41,.t 43]::Qaho
def Qa7a:SC:=sR (mJ 34 7::mJ 35 0::mJ 36 1::mJ 37 2::cJ 38 .sub 37 1::aJ 39 Qgz [.t 35,.t 36,.t 38]::Qahp) [6] .ret
def Qa7b:SC:=sR (mJ 31 0::fI 32 (.bsl 1 [kI 3,kI 3,kI 4,kI 5,kI 6,kI 7,kI 8,kI 9,kI 10])::aJ 33 Qac [.t 31,.t 32]::Qahn) [0,1,2,6,7] Qa7a
def Qahi:SC:=.seq (sR (mJ 18 0::aJ 19 Qq [.t 18,kI 7]::Qahk) [0,1,2,6,20] Qbfc) Qa7b
def Qa7c:SC:=.seq (sR (mJ 8 2::cJ 9 .lss 8 2::mJ 10 9::gFm 11 10 0::.e (some 12) (some (10,false)) (.call Qq [.t 11,kI 4])::Q1z) [0,1,2,6,14] s_l2Expr_2) Qahi
def Qbp1:SC:=sR [eI 6 (.alloc [.int .i64 0,.int .i64 0,.str [],.sl true 4 []])] [0,1,2,6] Qa7c
def Qadx:List RS:=[.cell 6 4 true]
theorem Qbo0:mFn prog Qgz 3 47 Qbp1 Qadx=true:=by kernel_rfl
def Qlx:List Item:=[gT 13 10 (.not (.t 12)),pF 14 10 13,mJ 2 14]
def Q0q:List Item:=mJ 5 4::gTm 6 5 0::gT 7 5 (.lens (.t 6))::gT 8 5 (.bin 0 .leq (.t 7) (kI 4))::pF 9 5 8::mJ 10 9::gTm 11 10 0::.e (some 12) (some (10,true)) (.call Qasc [.t 11])::Qlx
def Qawb:SC:=sR (mJ 3 0::aJ 4 Qasb [.t 3,kI 1]::Q0q) [2] .ret
def Qba0:SC:=sR [fB 2 false] [0] Qawb
def Q1e:List RS:=[.tmp 2]
theorem Qa5e:mFn prog Qec 1 15 Qba0 Q1e=true:=by kernel_rfl
def Qaaa:List Item:=[oJ 18 17]
def Qa8h:SC:=cT 18 (sR [fB 4 false] [4] .ret) .skip
def Qa8i:SC:=.reg [mJ 10 5,cJ 11 .add 10 1,mJ 5 11] [0,1,5]
def Qa8j:SC:=.seq (.block 1 (sR (mJ 12 0::mJ 13 5::iJ 14 5 12 13::tJ 15 5 14::mJ 16 1::aJ 17 Qaep [.t 15,.t 16]::Qaaa) [0,1,5,18] Qa8h)) Qa8i
def Qa1r:SC:=.seq (sR [mJ 6 5,mJ 7 0,nJ 8 7,bJ 9 .lss 6 8] [0,1,5,9] (cT 9 .skip (.exit 0))) Qa8j
def Qa8k:SC:=sR [fB 4 true] [4] .ret
def Qa8l:SC:=.seq (sR [zJ 5 0] [0,1,5] (bL 0 Qa1r)) Qa8k
def Qbly:SC:=sR [fB 4 false] [0,1] Qa8l
def Qafx:List RS:=[.tmp 4]
theorem Qbj1:mFn prog Ql5 2 19 Qbly Qafx=true:=by kernel_rfl
def Q90:List Item:=[bJ 27 .add 20 26,mJ 3 27]
def Q91:List Item:=.chk 23 none (.iad 5 (.t 21) (.t 22))::hJ 25 24::bJ 20 .add 13 19::aJ 26 Ql4 [.t 25]::Q90
def Qa7v:SC:=.reg [mJ 11 4,cJ 12 .add 11 1,mJ 4 12] [0,3,4]
def Qa7w:SC:=.seq (.block 1 (.dreg 16 [0,1,2,3,4,5,8,9,10,11,12,6,10,12,7,13,14,15] ( mJ 13 3::mJ 14 0::mJ 15 4::iJ 16 5 14 15::fJ 17 3 16::lJ 18 17::mJ 21 0::mJ 22 4::iJ 23 5 21 22::fJ 24 4 23::lJ 25 24::aJ 19 Ql4 [.t 18]::Q91) [0,3,4])) Qa7v
def Qa1h:SC:=.seq (sR [mJ 7 4,mJ 8 0,nJ 9 8,bJ 10 .lss 7 9] [0,3,4,10] (cT 10 .skip (.exit 0))) Qa7w
def Qa7x:SC:=sR [mJ 28 3,mJ 2 28] [2] .ret
def Qa7y:SC:=.seq (sR [zJ 4 0] [0,3,4] (bL 0 Qa1h)) Qa7x
def Qa7z:SC:=sR [mJ 5 0,nJ 6 5,mJ 3 6] [0,3] Qa7y
def Qblw:SC:=sR [zJ 2 0] [0] Qa7z
def Qayh:List RS:=[.tmp 2]
theorem Qbj0:mFn prog Ql4 1 29 Qblw Qayh=true:=by kernel_rfl
def Qwy:List Item:=[mJ 4 9]
def Qwz:List Item:=[mJ 5 11]
def Qw0:List Item:=[mJ 6 13]
def Qw1:List Item:=[mJ 7 24]
def Qap7:SC:=.reg [mJ 36 0,mJ 37 4,fI 38 (.bsl 1 [.t 37]),mJ 39 6,aJ 40 Qa3 [.t 36,kI 1,kI 0,.t 38,.t 39]] []
def Qap8:SC:=sR [mJ 32 0,fJ 33 3 3,lJ 34 33,aJ 35 Qct [.t 32,.t 34]] [0,4,6] Qap7
def Qap9:SC:=sR [mJ 25 0,mJ 26 7,mJ 27 5,mJ 28 6,fI 29 (.bsl 1 [.t 27,.t 28]),mJ 30 5,aJ 31 Qa3 [.t 25,kI 2,.t 26,.t 29,.t 30]] [0,3,4,6] Qap8
def Qaqa:SC:=sR (mJ 19 0::fJ 20 2 3::lJ 21 20::fI 22 (.iad 4 (.t 21) (kI 0))::tJ 23 4 22::aJ 24 Qci [.t 19,.t 23]::Qw1) [0,3,4,5,6,7] Qap9
def Qaqb:SC:=sR [mJ 14 0,mJ 15 4,fI 16 (.bsl 1 [.t 15]),mJ 17 4,aJ 18 Qa3 [.t 14,kI 1,kI 0,.t 16,.t 17]] [0,3,4,5,6] Qaqa
def Qaqc:SC:=sR (mJ 12 0::aJ 13 Qaw [.t 12]::Qw0) [0,3,4,5,6] Qaqb
def Qak1:SC:=sR (mJ 10 0::aJ 11 Qaw [.t 10]::Qwz) [0,3,4,5] Qaqc
def Qak2:SC:=sR (mJ 8 0::aJ 9 Qaw [.t 8]::Qwy) [0,3,4] Qak1
def Qa2q:SC:=sR [vJ 3 1] [0,3] Qak2
def Q8j:List RS:=[]
theorem Qax0:mFn prog Qn2 2 41 Qa2q Q8j=true:=by kernel_rfl
def Qws:List Item:=[mJ 4 17]
def Qwt:List Item:=hJ 15 14::aJ 17 Qa1 [.t 11,kI 1,.t 13,.t 15,.t 16]::Qws
def Qwu:List Item:=[mJ 4 23]
def Qwv:List Item:=[mJ 4 28]
def Qapz:SC:=cT 24 (sR (mJ 26 0::tJ 27 4 3::aJ 28 Qs0 [.t 26,.t 27]::Qwv) [4] .ret) .skip
def Qap0:SC:=cT 18 (sR (mJ 20 0::fJ 21 2 3::lJ 22 21::aJ 23 Qkc [.t 20,.t 22]::Qwu) [4] .ret) (sR [cJ 25 .eql 8 10,mJ 24 25] [0,3,24] Qapz)
def Qap1:SC:=cT 9 (.seq (.dreg 8 [0,1,3,4,5,2,4,6,7] ( mJ 11 0::mJ 12 0::fJ 14 1 3::lJ 15 14::fI 16 (.bsl 1 [])::aJ 13 Qa9 [.t 12]::Qwt) [4]) .ret) (sR [cJ 19 .eql 8 2,mJ 18 19] [0,3,8,18] Qap0)
def Qap2:SC:=.block 0 (sR [cJ 10 .eql 8 1,mJ 9 10] [0,3,8,9] Qap1)
def Qww:List Item:=[mJ 5 46]
def Qwx:List Item:=fI 45 (.bsl 1 [.t 44])::xJ 46 1 37 45::Qww
def Qako:SC:=.reg [mJ 35 6,cJ 36 .add 35 1,mJ 6 36] [0,3,5,6]
def Qakp:SC:=.seq (.block 2 (.reg (mJ 37 5::mJ 38 0::fJ 39 3 3::lJ 40 39::mJ 41 6::iJ 42 4 40 41::tJ 43 4 42::aJ 44 Qci [.t 38,.t 43]::Qwx) [0,3,5,6])) Qako
def Qac4:SC:=.seq (sR [mJ 30 6,fJ 31 3 3,lJ 32 31,nJ 33 32,bJ 34 .lss 30 33] [0,3,5,6,34] (cT 34 .skip (.exit 1))) Qakp
def Qqm:List Item:=[mJ 4 55]
def Qqn:List Item:=mJ 54 5::aJ 55 Qa1 [.t 51,kI 10,.t 53,kI 0,.t 54]::Qqm
def Qqo:List Item:=[mJ 4 62]
def Qqp:List Item:=mJ 61 5::aJ 62 Qa1 [.t 58,kI 11,.t 60,kI 0,.t 61]::Qqo
def Qqq:List Item:=[mJ 4 76]
def Qqr:List Item:=aJ 76 Qa1 [.t 65,kI 14,.t 67,.t 74,.t 75]::Qqq
def Qqs:List Item:=.chk 71 none (.ld 1 true (.t 70))::hJ 73 72::aJ 74 Q5l [.t 71,.t 73]::Qqr
def Qakq:SC:=cT 63 (.seq (.dreg 13 [0,1,3,4,5,6,7,8,10,2,6,8,9,11,12] ( mJ 65 0::mJ 66 0::mJ 68 0::kJ 69 68::fJ 70 0 69::tJ 71 1 70::fJ 72 2 3::lJ 73 72::mJ 75 5::aJ 67 Qa9 [.t 66]::Qqs) [4]) .ret) .skip
def Qakr:SC:=cT 56 (sR (mJ 58 0::mJ 59 0::aJ 60 Qa9 [.t 59]::Qqp) [4] .ret) (sR [cJ 64 .eql 48 13,mJ 63 64] [0,3,5,63] Qakq)
def Qaks:SC:=cT 49 (sR (mJ 51 0::mJ 52 0::aJ 53 Qa9 [.t 52]::Qqn) [4] .ret) (sR [cJ 57 .eql 48 12,mJ 56 57] [0,3,5,48,56] Qakr)
def Qakt:SC:=.block 3 (sR [cJ 50 .eql 48 11,mJ 49 50] [0,3,5,48,49] Qaks)
def Qqt:List Item:=[mJ 4 83]
def Qqu:List Item:=hJ 79 78::aJ 83 Qa1 [.t 77,.t 79,.t 81,kI 0,.t 82]::Qqt
def Qaku:SC:=.seq (.dreg 8 [0,1,2,3,5,4,2,6,7] ( mJ 77 0::fJ 78 0 3::lJ 79 78::mJ 80 0::mJ 82 5::aJ 81 Qa9 [.t 80]::Qqu) [4]) .ret
def Qakv:SC:=.seq (.seq (.seq .gh (.reg [fJ 47 0 3,lJ 48 47] [0,3,5,48])) Qakt) Qaku
def Qakw:SC:=.seq (sR [zJ 6 0] [0,3,5,6] (bL 1 Qac4)) Qakv
def Qakx:SC:=sR [fI 29 (.bsl 1 []),mJ 5 29] [0,3,5] Qakw
def Qaky:SC:=.seq (sR [fJ 7 0 3,lJ 8 7] [0,3,8] Qap2) Qakx
def Qa2o:SC:=sR [vJ 3 1,zJ 4 0] [0,3] Qaky
def Qtp:List RS:=[.tmp 4]
theorem Qaxy:mFn prog Qci 2 84 Qa2o Qtp=true:=by kernel_rfl
def Qavt:SC:=cT 25 (sR [mJ 26 0,kJ 27 26,fJ 28 5 27,lJ 29 28,mJ 30 5,iJ 31 3 29 30,fJ 32 1 31,lJ 33 32,mJ 4 33] [4] .ret) .skip
def Qavu:SC:=.reg [mJ 14 5,cJ 15 .sub 14 1,mJ 5 15] [0,1,5]
def Qavv:SC:=.seq (.block 1 (sR [mJ 16 0,kJ 17 16,fJ 18 5 17,lJ 19 18,mJ 20 5,iJ 21 3 19 20,fJ 22 0 21,lJ 23 22,mJ 24 1,bJ 25 .eql 23 24] [0,1,5,25] Qavt)) Qavu
def Qaqd:SC:=.seq (sR [mJ 12 5,cJ 13 .geq 12 0] [0,1,5,13] (cT 13 .skip (.exit 0))) Qavv
def Qavw:SC:=sR [zJ 4 (-1)] [4] .ret
def Qavx:SC:=.seq (sR [mJ 6 0,kJ 7 6,fJ 8 5 7,lJ 9 8,nJ 10 9,cJ 11 .sub 10 1,mJ 5 11] [0,1,5] (bL 0 Qaqd)) Qavw
def Qbar:SC:=sR [zJ 4 0] [0,1] Qavx
def Q1c:List RS:=[.tmp 4]
theorem Qa5c:mFn prog Qkc 2 34 Qbar Q1c=true:=by kernel_rfl
def Q4j:List Item:=[iJ 10 1 5 9,lJ 11 10,mJ 4 11]
def Qa1f:SC:=sR (mJ 5 1::mJ 6 0::mJ 7 1::nJ 8 7::aJ 9 Qq [.t 6,.t 8]::Q4j) [4] .ret
def Qbfl:SC:=sR [fI 4 (.mv (.k (.c (.str []))))] [0,1] Qa1f
def Qark:List RS:=[.tmp 4]
theorem Qbep:mFn prog Qiy 2 12 Qbfl Qark=true:=by kernel_rfl
def Q0e:List Item:=[mJ 5 7]
def Q0f:List Item:=[kJ 18 8,fJ 19 2 18,sJ 1 19 17]
def Q0g:List Item:=mJ 15 5::fI 16 (.bsl 1 [.t 15])::xJ 17 1 14 16::Q0f
def Qave:SC:=sR [mJ 20 5,tJ 21 4 3,fI 22 (.bsl 4 [.t 21]),fI 23 (.bld [.int .i64 0,.str [],.sl true 4 [],.sl true 5 [],.sl true 5 []] [(0,1,kI 1),(1,1,.t 20),(2,1,.t 22)]),sJ 5 4 23] [4] .ret
def Qavf:SC:=sR (mJ 8 0::fI 9 (.bsl 1 [])::mJ 10 0::kJ 11 10::fJ 12 2 11::lJ 13 12::xJ 14 1 9 13::Q0g) [3,4,5] Qave
def Qavg:SC:=sR (mJ 6 0::aJ 7 Qk8 [.t 6]::Q0e) [0,3,4,5] Qavf
def Qa70:SC:=sR [vJ 3 1,eI 4 (.alloc [.int .i64 0,.str [],.sl true 4 [],.sl true 5 [],.sl true 5 []])] [0,3,4] Qavg
def Qafw:List RS:=[.cell 4 5 true]
theorem Qa49:mFn prog Qkb 2 24 Qa70 Qafw=true:=by kernel_rfl
def Qvt:List Item:=[fI 11 (.bld [.int .i64 0,.int .i64 0,.str [],.sl true 4 []] [(0,1,kI 1),(1,1,.t 10)]),fI 12 (.bsl 4 [.t 4,.t 11]),fI 13 (.bld [.int .i64 0,.int .i64 0,.str [],.sl true 4 []] [(0,1,kI 7),(3,1,.t 12)]),sJ 4 2 13]
def Qvu:List Item:=hJ 8 7::aJ 10 Qac [.t 8,.t 9]::Qvt
def Qapa:SC:=.seq (.dreg 12 [0,2,3,4,5,6,1,5,7,8,9,10,11] ( mJ 3 0::mJ 5 0::kJ 6 5::fJ 7 0 6::lJ 8 7::fI 9 (.bsl 1 [kI 16,kI 16,kI 16,kI 8,kI 17,kI 0])::aJ 4 Qbh [.t 3,kI 2]::Qvu) [2]) .ret
def Qa1k:SC:=sR [eI 2 (.alloc [.int .i64 0,.int .i64 0,.str [],.sl true 4 []])] [0,2] Qapa
def Q8e:List RS:=[.cell 2 4 true]
theorem Qaxs:mFn prog Qh6 1 14 Qa1k Q8e=true:=by kernel_rfl
def Qv4:List Item:=[sJ 5 5 17]
def Qv5:List Item:=eI 5 (.alloc [.int .i64 0,.str [],.sl true 4 [],.sl true 5 [],.sl true 5 []])::Qv4
def Qv6:List Item:=fI 16 (.bld [.int .i64 0,.int .i64 0,.str [],.sl true 4 []] [(0,1,kI 1),(1,1,.t 15)])::aJ 17 Qkb [.t 9,.t 16]::Qv5
def Qv7:List Item:=[sJ 4 6 20]
def Qv8:List Item:=[mJ 7 24]
def Qv9:List Item:=[sJ 5 8 32]
def Qwa:List Item:=[.chk 41 none (.ld 5 true (.t 5)),.chk 42 none (.ld 4 true (.t 6)),fI 48 (.bld [.int .i64 0,.str [],.sl true 4 [],.sl true 5 [],.sl true 5 []] [(0,1,kI 6),(2,1,.t 43),(3,1,.t 47)]),fI 49 (.bsl 5 [.t 41,.t 48]),mJ 4 49]
def Qapc:SC:=.seq (.dreg 10 [0,1,2,3,4,5,6,0,1,7,8,9] ( tJ 41 5 5::tJ 42 4 6::fI 43 (.bsl 4 [.t 42])::mJ 44 7::tJ 45 5 8::fI 46 (.bsl 5 [.t 45])::xJ 47 5 44 46::Qwa) [4]) .ret
def Qapd:SC:=sR [mJ 33 0,mJ 34 0,kJ 35 34,fJ 36 4 35,lJ 37 36,cJ 38 .sub 37 2,kJ 39 33,fJ 40 4 39,sJ 1 40 38] [5,6,7,8] Qapc
def Qape:SC:=sR (fJ 25 1 5::lJ 26 25::tJ 27 4 6::fI 28 (.bld [.int .i64 0,.int .i64 0,.str [],.sl true 4 []] [(0,1,kI 1),(1,1,kI 1)])::fI 29 (.bsl 4 [.t 27,.t 28])::fI 30 (.bld [.int .i64 0,.int .i64 0,.str [],.sl true 4 []] [(0,1,kI 4),(3,1,.t 29)])::fI 31 (.bsl 4 [.t 30])::fI 32 (.bld [.int .i64 0,.str [],.sl true 4 [],.sl true 5 [],.sl true 5 []] [(0,1,kI 2),(1,1,.t 26),(2,1,.t 31)])::eI 8 (.alloc [.int .i64 0,.str [],.sl true 4 [],.sl true 5 [],.sl true 5 []])::Qv9) [0,5,6,7,8] Qapd
def Qaih:SC:=sR (mJ 21 0::mJ 22 1::cJ 23 .sub 22 1::aJ 24 Qcs [.t 21,.t 23]::Qv8) [0,5,6,7] Qape
def Qaii:SC:=sR (fJ 18 1 5::lJ 19 18::fI 20 (.bld [.int .i64 0,.int .i64 0,.str [],.sl true 4 []] [(0,1,kI 2),(2,1,.t 19)])::eI 6 (.alloc [.int .i64 0,.int .i64 0,.str [],.sl true 4 []])::Qv7) [0,1,5,6] Qaih
def Qaij:SC:=sR (mJ 9 0::mJ 10 0::kJ 11 10::fJ 12 0 11::lJ 13 12::fI 14 (.bsl 1 [kI 2,kI 3,kI 1,kI 0,kI 5])::aJ 15 Qac [.t 13,.t 14]::Qv6) [0,1,5] Qaii
def Qa1o:SC:=sR [fI 4 (.mv (.k (.c (.sl true 5 []))))] [0,1] Qaij
def Q8f:List RS:=[.tmp 4]
theorem Qaxu:mFn prog Qny 2 50 Qa1o Q8f=true:=by kernel_rfl
def Q12:List Item:=[gF 11 8 (.bin 0 .eql (.t 10) (kI 0)),pT 12 8 11]
def Qahv:List Item:=[fI 16 (.bld [.int .i64 0,.int .i64 0,.str [],.sl true 4 []] [(0,1,kI 1),(1,1,.t 15)]),sJ 4 4 16]
def s_l2Leaf_2:SC:=cT 12 (sR (mJ 13 0::fI 14 (.bsl 1 [kI 0,kI 1,kI 2,kI 3,kI 5,kI 7,kI 15,kI 16,kI 100,kI 255])::aJ 15 Qac [.t 13,.t 14]::Qahv) [4] .ret) .skip
def Qahw:List Item:=[fI 20 (.bld [.int .i64 0,.int .i64 0,.str [],.sl true 4 []] [(0,1,kI 2),(2,1,.t 19)]),sJ 4 4 20]
def Qarq:SC:=sR (mJ 17 0::mJ 18 1::aJ 19 Qiy [.t 17,.t 18]::Qahw) [4] .ret
def Qbfk:SC:=.seq (sR (mJ 5 1::nJ 6 5::cJ 7 .eql 6 0::mJ 8 7::gFm 9 8 0::.e (some 10) (some (8,false)) (.call Qq [.t 9,kI 3])::Q12) [0,1,4,12] s_l2Leaf_2) Qarq
def Qbp4:SC:=sR [eI 4 (.alloc [.int .i64 0,.int .i64 0,.str [],.sl true 4 []])] [0,1,4] Qbfk
def Qady:List RS:=[.cell 4 4 true]
theorem Qbo3:mFn prog Qaem 2 21 Qbp4 Qady=true:=by kernel_rfl
def Qarm:List Item:=[mJ 16 1,bJ 17 .neq 15 16]
def Qblc:SC:=cT 17 (sR [fB 4 false] [4] .ret) .skip
def Qbld:SC:=.reg [mJ 10 5,cJ 11 .add 10 1,mJ 5 11] [0,1,5]
def Qble:SC:=.seq (.block 1 (sR (mJ 12 0::mJ 13 5::fI 14 (.idx (.t 12) (.t 13))::aJ 15 Q5h [.t 14]::Qarm) [0,1,5,17] Qblc)) Qbld
def Qbfa:SC:=.seq (sR [mJ 6 5,mJ 7 0,fI 8 (.lens (.t 7)),bJ 9 .lss 6 8] [0,1,5,9] (cT 9 .skip (.exit 0))) Qble
def Qblf:SC:=sR [mJ 18 0,fI 19 (.lens (.t 18)),cJ 20 .gtr 19 0,mJ 4 20] [4] .ret
def Qblg:SC:=.seq (sR [zJ 5 0] [0,1,5] (bL 0 Qbfa)) Qblf
def Qbuo:SC:=sR [fB 4 false] [0,1] Qblg
def Qa5n:List RS:=[.tmp 4]
theorem Qbt5:mFn prog Qasb 2 21 Qbuo Qa5n=true:=by kernel_rfl
def Qarn:List Item:=[mJ 3 5]
def Qbli:SC:=cT 17 (sR [fB 2 true] [2] .ret) .skip
def Qblj:SC:=.reg [mJ 10 4,cJ 11 .add 10 1,mJ 4 11] [0,3,4]
def Qblk:SC:=.seq (.block 1 (sR [mJ 12 3,mJ 13 4,iJ 14 1 12 13,lJ 15 14,mJ 16 0,bJ 17 .eql 15 16] [0,3,4,17] Qbli)) Qblj
def Qbfb:SC:=.seq (sR [mJ 6 4,mJ 7 3,nJ 8 7,bJ 9 .lss 6 8] [0,3,4,9] (cT 9 .skip (.exit 0))) Qblk
def Qbll:SC:=sR [fB 2 false] [2] .ret
def Qblm:SC:=.seq (sR [zJ 4 0] [0,3,4] (bL 0 Qbfb)) Qbll
def Qbln:SC:=sR (aJ 5 Qle []::Qarn) [0,3] Qblm
def Qbup:SC:=sR [fB 2 false] [0] Qbln
def Qa5o:List RS:=[.tmp 2]
theorem Qbt6:mFn prog Qasc 1 18 Qbup Qa5o=true:=by kernel_rfl
def Qos:List Item:=[.chk 17 (some (15,false)) (.ld 1 false (.t 16)),.chk 18 (some (15,false)) (.len (.t 17)),gF 22 15 (.bin 0 .neq (.t 18) (.t 21)),pT 23 15 22]
def Q13:List Item:=gF 13 9 (.not (.t 12))::pT 14 9 13::mJ 15 14::gFf 16 15 2 2::gFl 17 15 16::gF 18 15 (.len (.t 17))::gFf 19 15 0 2::gFl 20 15 19::.e (some 21) (some (15,false)) (.call Qaen [.t 20])::Qos
def s_l3Stmt_2:SC:=cT 23 (sR [fB 4 false] [4] .ret) .skip
def Qai3:List Item:=[fI 36 (.bin 1 .neq (.t 32) (.t 35)),mJ 37 36,gFm 38 37 5,gF 39 37 (.not (.t 38)),gFm 40 37 39,gTf 41 40 1 2,gTl 42 40 41,gT 43 40 (.bin 0 .neq (.t 42) (.k (.c (.str [])))),gF 44 37 (.pick (.t 40) (.t 43) (.k (.c (.bool false)))),pT 45 37 44]
def Qbfu:SC:=cT 45 (sR [fB 4 false] [4] .ret) .skip
def Qai4:List Item:=[oJ 59 58]
def Qbfv:SC:=cT 59 (sR [fB 4 false] [4] .ret) .skip
def Qbfw:SC:=.reg [mJ 51 6,cJ 52 .add 51 1,mJ 6 52] [1,2,6]
def Qbfx:SC:=.seq (.block 1 (sR (fJ 53 2 2::lJ 54 53::mJ 55 6::iJ 56 4 54 55::tJ 57 4 56::aJ 58 Qi2 [.t 57]::Qai4) [1,2,6,59] Qbfv)) Qbfw
def Qa8g:SC:=.seq (sR [mJ 46 6,fJ 47 2 2,lJ 48 47,nJ 49 48,bJ 50 .lss 46 49] [1,2,6,50] (cT 50 .skip (.exit 0))) Qbfx
def Qa78:SC:=cT 70 (sR [fB 4 false] [4] .ret) .skip
def Qa79:SC:=cT 95 (sR [fB 4 false] [4] .ret) .skip
def Qwn:List Item:=[pF 107 101 106,mJ 4 107]
def Q99:List Item:=mJ 101 100::gTf 102 101 4 2::gTl 103 101 102::gTm 104 101 1::gT 105 101 (.bin 0 .sub (.t 104) (kI 1))::.e (some 106) (some (101,true)) (.call Ql5 [.t 103,.t 105])::Qwn
def Qa8a:SC:=sR (fJ 96 3 2::lJ 97 96::mJ 98 1::cJ 99 .sub 98 1::aJ 100 Ql5 [.t 97,.t 99]::Q99) [4] .ret
def Qa8b:SC:=.seq (sR [fJ 71 4 2,lJ 72 71,nJ 73 72,cJ 74 .gtr 73 0,mJ 75 74,gTf 76 75 0 2,gTl 77 75 76,gT 78 75 (.bin 0 .neq (.t 77) (kI 5)),pF 79 75 78,mJ 80 79,gFf 81 80 3 2,gFl 82 80 81,gF 83 80 (.len (.t 82)),gF 84 80 (.bin 0 .gtr (.t 83) (kI 0)),gFm 85 80 84,gTf 86 85 0 2,gTl 87 85 86,gT 88 85 (.bin 0 .neq (.t 87) (kI 5)),gF 89 80 (.pick (.t 85) (.t 88) (.k (.c (.bool false)))),gFm 90 80 89,gTf 91 90 0 2,gTl 92 90 91,gT 93 90 (.bin 0 .neq (.t 92) (kI 6)),gF 94 80 (.pick (.t 90) (.t 93) (.k (.c (.bool false)))),pT 95 80 94] [1,2,95] Qa79) Qa8a
def Qa8c:SC:=.seq (sR [fJ 60 0 2,lJ 61 60,cJ 62 .eql 61 8,mJ 63 62,gTf 64 63 2 2,gTl 65 63 64,gT 66 63 (.iad 4 (.t 65) (kI 0)),gTf 67 63 0 66,gTl 68 63 67,gT 69 63 (.bin 0 .neq (.t 68) (kI 13)),pF 70 63 69] [1,2,70] Qa78) Qa8b
def Qa8d:SC:=.seq (sR [zJ 6 0] [1,2,6] (bL 0 Qa8g)) Qa8c
def Qa8e:SC:=.seq (sR (mJ 32 5::fJ 33 1 2::lJ 34 33::aJ 35 Qec [.t 34]::Qai3) [1,2,45] Qbfu) Qa8d
def Qai2:SC:=sR [fJ 24 0 2,lJ 25 24,cJ 26 .eql 25 1,mJ 27 26,gFf 28 27 0 2,gFl 29 27 28,gF 30 27 (.bin 0 .eql (.t 29) (kI 2)),pT 31 27 30,mJ 5 31] [1,2,5] Qa8e
def Qa8f:SC:=.seq (.seq (.dreg 17 [0,1,2,3,4,5,6,7,8,9,10,11,12,13,14,10,11,15,16] ( mJ 7 1::cJ 8 .lss 7 1::mJ 9 8::gFf 10 9 0 2::gFl 11 9 10::.e (some 12) (some (9,false)) (.call Qbm [.t 11,kI 1,kI 8])::Q13) [1,2,23]) s_l3Stmt_2) Qai2
def Qbqc:SC:=sR [vJ 2 0,fB 4 false] [1,2] Qa8f
def Qadz:List RS:=[.tmp 4]
theorem Qbo6:mFn prog Qaep 2 108 Qbqc Qadz=true:=by kernel_rfl
def Q0h:List Item:=[mJ 5 16]
def Q0i:List Item:=[mJ 6 21]
def Q0j:List Item:=fI 20 (.bsl 1 [])::aJ 21 Qa1 [.t 17,kI 1,.t 19,kI 0,.t 20]::Q0i
def Q0k:List Item:=[mJ 7 23]
def Q0l:List Item:=[mJ 8 25]
def Q0m:List Item:=[mJ 9 38]
def Q0n:List Item:=[mJ 10 44]
def Q0o:List Item:=mJ 42 9::fI 43 (.bsl 1 [.t 42])::aJ 44 Qa1 [.t 39,kI 10,.t 41,kI 0,.t 43]::Q0n
def Qavm:SC:=sR [mJ 55 6,mJ 4 55] [4] .ret
def Qavn:SC:=sR [mJ 50 0,mJ 51 8,fI 52 (.bsl 1 [.t 51]),mJ 53 8,aJ 54 Qa3 [.t 50,kI 1,kI 0,.t 52,.t 53]] [6] Qavm
def Qapr:SC:=sR [mJ 45 0,mJ 46 6,mJ 47 10,fI 48 (.bsl 1 [.t 47]),aJ 49 Qa1 [.t 45,kI 10,.t 46,kI 0,.t 48]] [0,6,8] Qavn
def Qaps:SC:=sR (mJ 39 0::mJ 40 0::aJ 41 Qa9 [.t 40]::Q0o) [0,6,8,10] Qapr
def Qapt:SC:=sR (mJ 33 0::fJ 34 3 3::lJ 35 34::fI 36 (.iad 4 (.t 35) (kI 1))::tJ 37 4 36::aJ 38 Qci [.t 33,.t 37]::Q0m) [0,6,8,9] Qaps
def Qapu:SC:=sR [mJ 26 0,mJ 27 5,mJ 28 7,mJ 29 8,fI 30 (.bsl 1 [.t 28,.t 29]),mJ 31 7,aJ 32 Qa3 [.t 26,kI 2,.t 27,.t 30,.t 31]] [0,3,6,8] Qapt
def Qapv:SC:=sR (mJ 24 0::aJ 25 Qaw [.t 24]::Q0l) [0,3,5,6,7,8] Qapu
def Qapw:SC:=sR (mJ 22 0::aJ 23 Qaw [.t 22]::Q0k) [0,3,5,6,7] Qapv
def Qapx:SC:=sR (mJ 17 0::mJ 18 0::aJ 19 Qa9 [.t 18]::Q0j) [0,3,5,6] Qapw
def Qapy:SC:=sR (mJ 11 0::fJ 12 3 3::lJ 13 12::fI 14 (.iad 4 (.t 13) (kI 0))::tJ 15 4 14::aJ 16 Qci [.t 11,.t 15]::Q0h) [0,3,5] Qapx
def Qbap:SC:=sR [vJ 3 1,zJ 4 0] [0,3] Qapy
def Qaf1:List RS:=[.tmp 4]
theorem Qa5a:mFn prog Qs0 2 56 Qbap Qaf1=true:=by kernel_rfl
def Qbav:SC:=cT 20 (sR [mJ 21 5,mJ 4 21] [4] .ret) .skip
def Qbaw:SC:=.reg [mJ 11 5,cJ 12 .add 11 1,mJ 5 12] [1,2,5]
def Qbax:SC:=.seq (.block 1 (sR [fJ 13 0 2,lJ 14 13,mJ 15 5,iJ 16 3 14 15,fJ 17 0 16,lJ 18 17,mJ 19 1,bJ 20 .eql 18 19] [1,2,5,20] Qbav)) Qbaw
def Qa3v:SC:=.seq (sR [mJ 6 5,fJ 7 0 2,lJ 8 7,nJ 9 8,bJ 10 .lss 6 9] [1,2,5,10] (cT 10 .skip (.exit 0))) Qbax
def Qbay:SC:=sR [zJ 4 (-1)] [4] .ret
def Qbaz:SC:=.seq (sR [zJ 5 0] [1,2,5] (bL 0 Qa3v)) Qbay
def Qbmi:SC:=sR [vJ 2 0,zJ 4 0] [1,2] Qbaz
def Qaf3:List RS:=[.tmp 4]
theorem Qbj7:mFn prog Q5l 2 22 Qbmi Qaf3=true:=by kernel_rfl
def Qp1:List Item:=[cJ 16 .eql 15 0,mJ 17 16,gTm 18 17 0,gT 19 17 (.nck (.t 18)),gTf 20 17 2 19,gTl 21 17 20,gT 22 17 (.len (.t 21)),gT 23 17 (.bin 0 .gtr (.t 22) (kI 0)),pF 24 17 23]
def Qp2:List Item:=[mJ 2 33]
def Qaid:SC:=cT 24 (.seq (.dreg 10 [0,1,2,3,4,5,6,7,8,9] ( mJ 25 0::kJ 26 25::fJ 27 0 26::lJ 28 27::mJ 29 0::kJ 30 29::fJ 31 2 30::lJ 32 31::aJ 33 Qiy [.t 28,.t 32]::Qp2) [2]) .ret) .skip
def Qaie:SC:=.seq (.dreg 13 [0,1,2,3,4,5,6,7,8,9,10,11,12] ( mJ 34 0::kJ 35 34::fJ 36 3 35::lJ 37 36::cJ 38 .rem 37 24::mJ 39 0::kJ 40 39::fJ 41 3 40::lJ 42 41::cJ 43 .rem 42 24::cJ 44 .add 43 1::fI 45 (.slis (.k (.c (.str [97,98,99,100,101,103,104,105,106,107,108,109,110,112,113,114,115,116,117,118,119,120,121,122]))) (some (.t 38)) (some (.t 44)))::mJ 2 45::[]) [2]) .ret
def Qaif:SC:=.seq (sR (mJ 11 0::kJ 12 11::fJ 13 0 12::lJ 14 13::aJ 15 Qq [.t 14,kI 9]::Qp1) [0,24] Qaid) Qaie
def Qaig:SC:=sR [mJ 3 0,mJ 4 0,kJ 5 4,fJ 6 3 5,lJ 7 6,cJ 8 .add 7 1,kJ 9 3,fJ 10 3 9,sJ 1 10 8] [0] Qaif
def Qavd:SC:=sR [fI 2 (.mv (.k (.c (.str []))))] [0] Qaig
def Qob:List RS:=[.tmp 2]
theorem Qas8:mFn prog Qk8 1 46 Qavd Qob=true:=by kernel_rfl
def Q9x:List Item:=[cJ 20 .geq 19 0,mJ 17 20]
def Qa64:SC:=cT 21 (sR [zJ 2 4] [2] .ret) .skip
def Qa65:SC:=cT 17 (sR [zJ 2 3] [2] .ret) (sR [mJ 22 0,fI 23 (.bin 0 .eql (.t 22) (.k (.c (.int .u8 32)))),mJ 24 23,gFm 25 24 0,gF 26 24 (.bin 0 .eql (.t 25) (.k (.c (.int .u8 10)))),pT 27 24 26,mJ 21 27] [21] Qa64)
def Qa66:SC:=cT 10 (sR [zJ 2 2] [2] .ret) (sR (mJ 18 0::eI 19 (.call Q5i [.k (.c (.str [40,41,123,125,59,44,43,45,42,47,37,60,61,38,33,64])),.t 18])::Q9x) [0,17] Qa65)
def Qa67:SC:=cT 3 (sR [zJ 2 1] [2] .ret) (sR [mJ 11 0,fI 12 (.bin 0 .geq (.t 11) (.k (.c (.int .u8 48)))),mJ 13 12,gTm 14 13 0,gT 15 13 (.bin 0 .leq (.t 14) (.k (.c (.int .u8 57)))),pF 16 13 15,mJ 10 16] [0,10] Qa66)
def Qa68:SC:=sR [zJ 2 0] [2] .ret
def Qa69:SC:=.seq (.block 0 (sR [mJ 4 0,fI 5 (.bin 0 .geq (.t 4) (.k (.c (.int .u8 97)))),mJ 6 5,gTm 7 6 0,gT 8 6 (.bin 0 .leq (.t 7) (.k (.c (.int .u8 122)))),pF 9 6 8,mJ 3 9] [0,3] Qa67)) Qa68
def Qblh:SC:=sR [zJ 2 0] [0] Qa69
def Qml:List RS:=[.tmp 2]
theorem Qbjw:mFn prog Q5h 1 28 Qblh Qml=true:=by kernel_rfl
def Qal6:SC:=sR [fI 1 (.bsl 1 [.k (.c (.str [102,110])),.k (.c (.str [108,101,116])),.k (.c (.str [115,97,121])),.k (.c (.str [112,117,116])),.k (.c (.str [105,102])),.k (.c (.str [101,108,115,101])),.k (.c (.str [108,111,111,112])),.k (.c (.str [98,97,99,107])),.k (.c (.str [100,111]))]),mJ 0 1] [0] .ret
def Qawc:SC:=sR [fI 0 (.mv (.k (.c (.sl true 1 []))))] [] Qal6
def Q3b:List RS:=[.tmp 0]
theorem Qatg:mFn prog Qle 0 2 Qawc Q3b=true:=by kernel_rfl
def Qbfn:SC:=cT 4 (sR [zJ 2 2] [2] .ret) .skip
def Qbfo:SC:=sR [zJ 2 1] [2] .ret
def Qbfp:SC:=.seq (sR [mJ 3 0,cJ 4 .eql 3 4] [4] Qbfn) Qbfo
def Qbp5:SC:=sR [zJ 2 0] [0] Qbfp
def Qatk:List RS:=[.tmp 2]
theorem Qbo4:mFn prog Qaen 1 5 Qbp5 Qatk=true:=by kernel_rfl
def Qgg:List Item:=[gT 8 5 (.bin 0 .leq (.t 7) (kI 30)),pF 9 5 8,mJ 2 9]
def Qnf:List Item:=mJ 5 4::gT 6 5 (.ld 4 true (.t 1))::.e (some 7) (some (5,true)) (.call Qxv [.t 6])::Qgg
def Qadd:SC:=sR (tJ 3 4 1::aJ 4 Q2k [.t 3,kI 6]::Qnf) [2] .ret
def Qaqu:SC:=sR [vJ 1 0,fB 2 false] [1] Qadd
def Qlk:List RS:=[.tmp 2]
theorem Qamz:mFn prog Qi2 1 10 Qaqu Qlk=true:=by kernel_rfl
def Qa7n:SC:=cT 16 (sR [mJ 17 5,mJ 4 17] [4] .ret) .skip
def Qa7o:SC:=.reg [mJ 10 5,cJ 11 .add 10 1,mJ 5 11] [0,1,5]
def Qa7p:SC:=.seq (.block 1 (sR [mJ 12 0,mJ 13 5,fI 14 (.idx (.t 12) (.t 13)),mJ 15 1,bJ 16 .eql 14 15] [0,1,5,16] Qa7n)) Qa7o
def Qa1e:SC:=.seq (sR [mJ 6 5,mJ 7 0,fI 8 (.lens (.t 7)),bJ 9 .lss 6 8] [0,1,5,9] (cT 9 .skip (.exit 0))) Qa7p
def Qa7q:SC:=sR [zJ 4 (-1)] [4] .ret
def Qa7r:SC:=.seq (sR [zJ 5 0] [0,1,5] (bL 0 Qa1e)) Qa7q
def Qblp:SC:=sR [zJ 4 0] [0,1] Qa7r
def Qaft:List RS:=[.tmp 4]
theorem Qbjy:mFn prog Q5i 2 18 Qblp Qaft=true:=by kernel_rfl
def Qahs:List Item:=[mJ 9 12,fI 13 (.ext (.t 9) 0),fI 14 (.ext (.t 9) 1),mJ 5 13,mJ 6 14]
def Qoq:List Item:=[gF 30 23 (.not (.t 29)),pT 31 23 30]
def Q10:List Item:=gF 21 17 (.not (.t 20))::pT 22 17 21::mJ 23 22::gFf 24 23 3 2::gFl 25 23 24::gF 26 23 (.len (.t 25))::gFm 27 23 5::gFm 28 23 6::.e (some 29) (some (23,false)) (.call Qbm [.t 26,.t 27,.t 28])::Qoq
def s_l2Form_3:SC:=cT 31 (sR [fB 4 false] [4] .ret) .skip
def Q11:List Item:=[gF 58 54 (.not (.t 57)),pT 59 54 58,mJ 60 59,gFf 61 60 0 2,gFl 62 60 61,gF 63 60 (.bin 0 .neq (.t 62) (kI 1)),gFm 64 60 63,gTf 65 64 1 2,gTl 66 64 65,gT 67 64 (.bin 0 .neq (.t 66) (kI 0)),gF 68 60 (.pick (.t 64) (.t 67) (.k (.c (.bool false)))),pT 69 60 68]
def Qaht:List Item:=fI 44 (.bin 1 .neq (.t 40) (.t 43))::mJ 45 44::gFm 46 45 7::gF 47 45 (.not (.t 46))::gFm 48 45 47::gTf 49 48 2 2::gTl 50 48 49::gT 51 48 (.bin 0 .neq (.t 50) (.k (.c (.str []))))::gF 52 45 (.pick (.t 48) (.t 51) (.k (.c (.bool false))))::pT 53 45 52::mJ 54 53::gFf 55 54 1 2::gFl 56 54 55::.e (some 57) (some (54,false)) (.call Qbm [.t 56,kI 0,kI 255])::Q11
def s_l2Form_6:SC:=cT 69 (sR [fB 4 false] [4] .ret) .skip
def Qahu:List Item:=[oJ 85 84]
def Qbfd:SC:=cT 85 (sR [fB 4 false] [4] .ret) .skip
def Qbfe:SC:=.reg [mJ 75 8,cJ 76 .add 75 1,mJ 8 76] [1,2,8]
def Qa7d:SC:=.seq (.block 1 (sR (fJ 77 3 2::lJ 78 77::mJ 79 8::iJ 80 4 78 79::tJ 81 4 80::mJ 82 1::cJ 83 .sub 82 1::aJ 84 Q2k [.t 81,.t 83]::Qahu) [1,2,8,85] Qbfd)) Qbfe
def Qa1c:SC:=.seq (sR [mJ 70 8,fJ 71 3 2,lJ 72 71,nJ 73 72,bJ 74 .lss 70 73] [1,2,8,74] (cT 74 .skip (.exit 0))) Qa7d
def Qa7e:SC:=sR [fB 4 true] [4] .ret
def Qahq:SC:=.seq (sR [zJ 8 0] [1,2,8] (bL 0 Qa1c)) Qa7e
def Qa7f:SC:=.seq (sR (mJ 40 7::fJ 41 2 2::lJ 42 41::aJ 43 Qec [.t 42]::Qaht) [1,2,69] s_l2Form_6) Qahq
def Qahr:SC:=sR [fJ 32 0 2,lJ 33 32,cJ 34 .eql 33 2,mJ 35 34,gFf 36 35 0 2,gFl 37 35 36,gF 38 35 (.bin 0 .eql (.t 37) (kI 13)),pT 39 35 38,mJ 7 39] [1,2,7] Qa7f
def Qa7g:SC:=.seq (sR (mJ 15 1::cJ 16 .lss 15 1::mJ 17 16::gFf 18 17 0 2::gFl 19 17 18::.e (some 20) (some (17,false)) (.call Qbm [.t 19,kI 1,kI 13])::Q10) [1,2,31] s_l2Form_3) Qahr
def Qa7h:SC:=sR (fJ 10 0 2::lJ 11 10::aJ 12 Qael [.t 11]::Qahs) [1,2,5,6] Qa7g
def Qbp2:SC:=sR [vJ 2 0,fB 4 false] [1,2] Qa7h
def Q22:List RS:=[.tmp 4]
theorem Qbo1:mFn prog Q2k 2 86 Qbp2 Q22=true:=by kernel_rfl
def Q9y:List Item:=[bJ 19 .add 12 18,mJ 3 19]
def Qa7i:SC:=.reg [mJ 10 4,cJ 11 .add 10 1,mJ 4 11] [1,3,4]
def Qa7j:SC:=.seq (.block 1 (.reg (mJ 12 3::fJ 13 3 1::lJ 14 13::mJ 15 4::iJ 16 4 14 15::tJ 17 4 16::aJ 18 Qxv [.t 17]::Q9y) [1,3,4])) Qa7i
def Qa1d:SC:=.seq (sR [mJ 5 4,fJ 6 3 1,lJ 7 6,nJ 8 7,bJ 9 .lss 5 8] [1,3,4,9] (cT 9 .skip (.exit 0))) Qa7j
def Qa7k:SC:=sR [mJ 20 3,mJ 2 20] [2] .ret
def Qa7l:SC:=.seq (sR [zJ 4 0] [1,3,4] (bL 0 Qa1d)) Qa7k
def Qa7m:SC:=sR [zJ 3 1] [1,3] Qa7l
def Qblo:SC:=sR [vJ 1 0,zJ 2 0] [1] Qa7m
def Qayg:List RS:=[.tmp 2]
theorem Qbjx:mFn prog Qxv 1 21 Qblo Qayg=true:=by kernel_rfl
def Qbff:SC:=cT 5 .skip (.reg [cJ 7 .eql 4 2,mJ 5 7] [4,5])
def Qbfg:SC:=cT 8 .skip (.reg [cJ 10 .eql 4 12,mJ 8 10] [4,8])
def Qbfh:SC:=cT 11 (sR [zJ 2 0,zJ 3 3] [2,3] .ret) .skip
def Qaro:SC:=cT 8 (sR [zJ 2 1,zJ 3 1] [2,3] .ret) (sR [cJ 12 .eql 4 13,mJ 11 12] [11] Qbfh)
def Qarp:SC:=cT 5 (sR [zJ 2 0,zJ 3 0] [2,3] .ret) (.seq (sR [cJ 9 .eql 4 11,mJ 8 9] [4,8] Qbfg) Qaro)
def Qbfi:SC:=.block 0 (.seq (sR [cJ 6 .eql 4 1,mJ 5 6] [4,5] Qbff) Qarp)
def Q7e:SC:=sR [zJ 2 2,zJ 3 2] [2,3] .ret
def Qbfj:SC:=.seq (sR [mJ 4 0] [4] Qbfi) Q7e
def Qbp3:SC:=sR [zJ 2 0,zJ 3 0] [0] Qbfj
def Q23:List RS:=[.tmp 2,.tmp 3]
theorem Qbo2:mFn prog Qael 1 13 Qbp3 Q23=true:=by kernel_rfl
end Go.AE.Y
