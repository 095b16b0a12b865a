/- Part 1 of the proof: the engine, codes, walks and plain laws, each named where it stands. -/
import Derived.MapKept
import Derived.WalkKit
open Nat (reduceEqDiff reduceAdd reduceLeDiff reduceLT)
set_option linter.unusedVariables false
set_option linter.unusedSimpArgs false
set_option maxRecDepth 4000
open Array renaming getD_eq_getD_getElem?->Jb,getElem?_eq_getElem->Jc,getElem?_setIfInBounds_ne->Jp,getElem?_eq_none->Js,getElem?_setIfInBounds_self_of_lt->Jv,getElem?_eq_some_iff->Jw,getElem?_toList->Jy,ext'->Jae,getElem?_append_left->Jaj,append_assoc->Jak,getElem?_push->Jay,toList_zipIdx->Jaz,foldl_toList->Ja1
open Bool renaming and_eq_true->Ja,or_eq_true->Jaf,not_eq_true'->Jah,false_eq_true->Jal,eq_iff_iff->Jbc
open ByteArray renaming ext->Ja2
open Function renaming comp_def->Ja4
open Iff renaming rfl->Jbd
open Int renaming toNat_natCast->Jan,natCast_nonneg->Ja3
open List renaming getElem?_eq_getElem->Jd,getElem?_eq_none->Jf,getElem?_map->Jh,getElem?_append_left->Jk,getElem?_append_right->Jl,mem_of_getElem?->Jm,getElem?_take->Jn,mem_append->Jo,getElem?_drop->Jq,mem_cons->Jt,length_eq_zero_iff->Jz,append_assoc->J0,getD_eq_getElem?_getD->J2,map_congr_left->J6,all_eq_true->J7,length_cons->J8,append_of_mem->Jaa,map_cons->Jab,extract_eq_take_drop->Jac,getElem?_range->Jad,length_append->Jag,getElem?_eq_some_iff->Jam,any_eq_true->Jap,append_nil->Jar,getElem?_toArray->Jas,length_nil->Jat,mem_append_right->Jau,mem_append_left->Jav,drop_take->Jaw,mem_range->Jax,ext_getElem?->Ja5,getElem?_set->Ja6,length_range->Ja7,mem_map->Ja8,countP_cons->Jba,not_mem_nil->Jbb,map_map->Jbf
open Nat renaming add_mul->Jg,lt_or_ge->Ji,mul_le_mul_right->Jj,le_refl->Jx,add_zero->J1,zero_add->J5,one_mul->Jai,add_assoc->Jao,mul_le_mul_left->Ja0,mul_comm->Ja9,le_trans->Jbg
open Ne renaming symm->Jbe
open Option renaming map_some->Jr,isSome_iff_exists->J3,map_none->J4,getD_some->J9,getD_none->Jaq
open Option.some renaming injEq->Je
open Prod.mk renaming injEq->Ju
namespace Go.AE
def LIM:Nat:=549755813888
inductive C where
 |int (k:IntKind) (n:Int)
 |bool (b:Bool)
 |str (s:List UInt8)
 |sl (full:Bool) (sz:Nat) (rows:List (List C))
 |pp (cells:List C)
 |ep (s:C) (sz i k:Nat)
 |pnil
 |ptr (l k:Nat)
 |vsl (l sz st n:Nat)
 |mp (l:Nat)
 |mnil
 |fn (f:Nat) (caps:List C)
 |fnil
 |itr (l:Nat)
 |ow (sz:Nat) (rows:List (List C))
 |unk
 deriving Inhabited
inductive V where
 |c (x:C)
 |ag (cs:List C)
 |tup (vs:List V)
 |gd (p:Bool) (v:V)
 |unk
 |pn (v:Value)
 |asl (l k n:Nat)
 deriving Inhabited
inductive Obj where
 |none
 |st (cells:List C)
 |vec (sz:Nat) (rows:List (List C))
 |map (ver:Nat) (es:List (C×V))
 |iter (m:Option (Nat×Nat)) (left:List (C×V)) (cur:Option (C×V))
 |gl (b:Nat) (cells:List C)
abbrev Heap:=Nat→Obj
def Heap.set (H:Heap)(l:Nat)(o:Obj):Heap:=fun x=>if x=l then o else H x
theorem Heap.set_same (H:Heap)(l:Nat)(o:Obj):H.set l o l=o:=by simp[Heap.set]
theorem Heap.set_other (H:Heap){l x:Nat}(o:Obj)(h:x≠l):H.set l o x=H x:=by simp[Heap.set,h]
theorem Heap.set_self (H:Heap)(l:Nat)(o:Obj)(h:H l=o):H.set l o=H:=by
 funext x;simp only[Heap.set];split
 ·subst_vars;rfl
 ·rfl
structure G where
 per:Nat→Bool
 own:Nat→Option (Nat×List Nat)
 io:Nat→Option (Nat×Nat×Nat)
def C.elemSz:C→Nat
 |.sl _ sz _=>sz
 |.vsl _ sz _ _=>sz
 |_=>0
inductive RepC (w:World)(g:G):C→Value→Prop
 |int (k n):RepC w g (.int k n) (.int k n)
 |bool (b):RepC w g (.bool b) (.bool b)
 |str (s:List UInt8) (h:s.length≤LIM):RepC w g (.str s) (.string ⟨s.toArray⟩)
 |slnil (fl sz a):RepC w g (.sl fl sz []) (.slice a 0 0)
 |sl (fl:Bool) (sz:Nat) (rows:List (List C)) (b off cap:Nat) (val:Nat→Nat→Value) (hl:rows.length≤LIM) (hf:fl=true→cap=rows.length) (hcap:rows.length≤cap)
   (hp:g.per b=true) (hr:∀(i:Nat) (row:List C),rows[i]? = some row→row.length=sz)
   (hc:∀(i:Nat) (row:List C) (j:Nat) (c:C),rows[i]? = some row→row[j]? = some c→w.cell? ⟨b,off+i * sz+j,none⟩=some (val i j))
   (hv:∀(i:Nat) (row:List C) (j:Nat) (c:C),rows[i]? = some row→row[j]? = some c→RepC w g c (val i j)) :
   RepC w g (.sl fl sz rows) (.slice (some ⟨b,off,none⟩) rows.length cap)
 |pp (cells:List C) (b off:Nat) (val:Nat→Value) (hp:g.per b=true)
   (hc:∀(j:Nat) (c:C),cells[j]? = some c→w.cell? ⟨b,off+j,none⟩=some (val j))
   (hv:∀(j:Nat) (c:C),cells[j]? = some c→RepC w g c (val j)) :
   RepC w g (.pp cells) (.pointer (some ⟨b,off,none⟩))
 |ep (s sz i k b off n cap) (hs:RepC w g s (.slice (some ⟨b,off,none⟩) n cap)) (hz:s.elemSz=sz) (hi:i<n) :
   RepC w g (.ep s sz i k) (.pointer (some ⟨b,off+i * sz+k,none⟩))
 |pnil:RepC w g .pnil (.pointer none)
 |ptr (l k b sz base) (h:g.io l=some (b,sz,base)):RepC w g (.ptr l k) (.pointer (some ⟨b,base+k,none⟩))
 |vslnil (l sz st a):RepC w g (.vsl l sz st 0) (.slice a 0 0)
 |vsl (l sz st n cap b base T m) (h:g.io l=some (b,sz,base)) (hn:n≤cap) (hs:w.shape? b=some (T,m))
   (hm:base+(st+cap) * sz≤m) :
   RepC w g (.vsl l sz st n) (.slice (some ⟨b,base+st * sz,none⟩) n cap)
 |mp (l b) (h:g.io l=some (b,0,0)):RepC w g (.mp l) (.map (some b))
 |mnil:RepC w g .mnil (.map none)
 |fn (f:Nat) (caps:List C) (vs:List Value) (hl:vs.length=caps.length)
   (hv:∀(j:Nat) (c:C) (u:Value),caps[j]? = some c→vs[j]? = some u→RepC w g c u) :
   RepC w g (.fn f caps) (.func (.func f) #[] vs.toArray)
 |fnil:RepC w g .fnil .nilFunc
 |itr (l b) (h:g.io l=some (b,0,0)):RepC w g (.itr l) (.pointer (some ⟨b,0,none⟩))
 |unk (v) (h:v.oneCell'=true):RepC w g .unk v
inductive RepV (w:World)(g:G):V→Value→Prop
 |c (x v) (h:RepC w g x v):RepV w g (.c x) v
 |ag (cs:List C) (vs:List Value) (hl:vs.length=cs.length) (h:∀(j:Nat) (c:C) (u:Value),cs[j]? = some c→vs[j]? = some u→RepC w g c u) :
   RepV w g (.ag cs) (.agg vs.toArray)
 |tup (xs:List V) (vs:List Value) (hl:vs.length=xs.length) (h:∀(j:Nat) (x:V) (u:Value),xs[j]? = some x→vs[j]? = some u→RepV w g x u) :
   RepV w g (.tup xs) (.tuple vs.toArray)
 |gd (p:Bool) (x v) (h:p=true→RepV w g x v) (h':p=false→v=undef):RepV w g (.gd p x) v
 |unk (v):RepV w g .unk v
 |asl (l k n b sz) (h:g.io l=some (b,sz,0)):RepV w g (.asl l k n) (.slice (some ⟨b,k,none⟩) n n)
inductive RepO (w:World)(g:G):Nat→List Nat→C→Value→Prop
 |plain (l p c v) (h:RepC w g c v):RepO w g l p c v
 |ownil (l p sz a):RepO w g l p (.ow sz []) (.slice a 0 0)
 |ow (l:Nat) (p:List Nat) (sz:Nat) (rows:List (List C)) (b off cap:Nat) (T:TypeId) (cs:Array Value) (val:Nat→Nat→Value) (hl:rows.length≤LIM) (hcap:rows.length≤cap)
   (hown:g.own b=some (l,p)) (hb:w.heap[b]? = some (.cells cs T (0,0))) (hsz:off+cap * sz≤cs.size)
   (hr:∀(i:Nat) (row:List C),rows[i]? = some row→row.length=sz)
   (hc:∀(i:Nat) (row:List C) (j:Nat) (c:C),rows[i]? = some row→row[j]? = some c→cs[off+i * sz+j]? = some (val i j))
   (hv:∀(i:Nat) (row:List C) (j:Nat) (c:C),rows[i]? = some row→row[j]? = some c→RepO w g l (p++[i,j]) c (val i j)) :
   RepO w g l p (.ow sz rows) (.slice (some ⟨b,off,none⟩) rows.length cap)
structure Le (g:G)(w:World)(g':G)(w':World):Prop where
 per:∀b,g.per b=true→g'.per b=true∧w'.heap[b]? = w.heap[b]?
 io:∀l x,g.io l=some x→g'.io l=some x
 size:w.heap.size≤w'.heap.size
 shp:∀b T n,w.shape? b=some (T,n)→w'.shape? b=some (T,n)
 tape:w'.tape=w.tape
 os:w'.os=w.os
 output:w'.output=w.output
theorem Le.refl (g:G)(w:World):Le g w g w:=⟨fun _ h=>⟨h,rfl⟩,fun _ _ h=>h,Jx _,fun _ _ _ h=>h,rfl,rfl,rfl⟩
theorem Le.trans {g g' g'':G}{w w' w'':World}(h:Le g w g' w')(k:Le g' w' g'' w''):Le g w g'' w'':=
 ⟨fun b hb=>⟨(k.per b (h.per b hb).1).1,((k.per b (h.per b hb).1).2).trans (h.per b hb).2⟩,fun l x hx=>k.io l x (h.io l x hx),
  Jbg h.size k.size,fun b T n hn=>k.shp b T n (h.shp b T n hn),k.tape.trans h.tape,k.os.trans h.os,k.output.trans h.output⟩
theorem Qjb {w w':World}{a:Addr}(h:w'.heap[a.block]? = w.heap[a.block]?):w'.cell? a=w.cell? a:=by
 simp only[World.cell?,h]
theorem RepC.mono {g g':G}{w w':World}(hle:Le g w g' w'){c:C}{v:Value}(h:RepC w g c v):RepC w' g' c v:=by
 induction h with
 |int k n=>exact .int k n
 |bool b=>exact .bool b
 |str s h=>exact .str s h
 |slnil fl sz a=>exact .slnil fl sz a
 |sl fl sz rows b off cap val hl hf hcap hp hr hc hv ih=>
  refine .sl fl sz rows b off cap val hl hf hcap (hle.per b hp).1 hr (fun i row j c h1 h2=>?_) ih;rw[Qjb (w:=w) (hle.per b hp).2];exact hc i row j c h1 h2
 |pp cells b off val hp hc hv ih=>
  refine .pp cells b off val (hle.per b hp).1 (fun j c h1=>?_) ih;rw[Qjb (w:=w) (hle.per b hp).2];exact hc j c h1
 |ep s sz i k b off n cap hs hz hi ih=>exact .ep s sz i k b off n cap ih hz hi
 |pnil=>exact .pnil
 |ptr l k b sz base h=>exact .ptr l k b sz base (hle.io _ _ h)
 |vslnil l sz st a=>exact .vslnil l sz st a
 |vsl l sz st n cap b base T m h hn hs hm=>exact .vsl l sz st n cap b base T m (hle.io _ _ h) hn (hle.shp _ _ _ hs) hm
 |mp l b h=>exact .mp l b (hle.io _ _ h)
 |mnil=>exact .mnil
 |fn f caps vs hl hv ih=>exact .fn f caps vs hl ih
 |fnil=>exact .fnil
 |itr l b h=>exact .itr l b (hle.io _ _ h)
 |unk v h=>exact .unk v h
theorem RepV.mono {g g':G}{w w':World}(hle:Le g w g' w'){x:V}{v:Value}(h:RepV w g x v):RepV w' g' x v:=by
 induction h with
 |c x v h=>exact .c x v (h.mono hle)
 |ag cs vs hl h=>exact .ag cs vs hl fun j c u h1 h2=>(h j c u h1 h2).mono hle
 |tup xs vs hl h ih=>exact .tup xs vs hl ih
 |gd p x v h h' ih=>exact .gd p x v ih h'
 |asl l k n b sz h=>exact .asl l k n b sz (hle.io _ _ h)
 |unk v=>exact .unk v
theorem RepC.one {w:World}{g:G}{c:C}{v:Value}(h:RepC w g c v):v.oneCell'=true:=by
 cases h <;> first|rfl|assumption
theorem RepO.move {g g':G}{w w':World}(hle:Le g w g' w'){l:Nat}{p:List Nat}{c:C}{v:Value}(h:RepO w g l p c v) :
  ∀{l':Nat} {p':List Nat},(∀q b,g.own b=some (l,p++q)→g'.own b=some (l',p'++q)∧w'.heap[b]? = w.heap[b]?)→
  RepO w' g' l' p' c v:=by
 induction h with
 |plain p c v h=>exact fun _=>.plain _ _ c v (h.mono hle)
 |ownil p sz a=>exact fun _=>.ownil _ _ sz a
 |ow p sz rows b off cap T cs val hl hcap hown hb hsz hr hc hv ih=>
  intro l' p' hk;have h0:=hk [] b (by simpa using hown);refine .ow l' p' sz rows b off cap T cs val hl hcap (by simpa using h0.1) (h0.2.trans hb) hsz hr hc fun i row j c h1 h2=>?_;refine ih i row j c h1 h2 fun q b hq=>?_;have:=hk ([i,j]++q) b (by rw[←J0];exact hq);rw[J0];exact this
theorem RepO.plain_of {w:World}{g:G}{l:Nat}{p:List Nat}{c:C}{v:Value}(h:RepO w g l p c v)(hn:∀sz rows,c≠.ow sz rows):RepC w g c v:=by
 cases h with
 |plain _ _ _ h=>exact h
 |ownil=>exact absurd rfl (hn _ _)
 |ow=>exact absurd rfl (hn _ _)
def RepE (w:World)(g:G)(e:C×V)(m:MapEntry):Prop:=RepC w g e.1 m.key∧RepV w g e.2 m.val
def SatVec (g:G)(w:World)(l sz:Nat)(rows:List (List C)):Prop:=
 ∃(b base:Nat) (T:TypeId) (cs:Array Value) (val:Nat→Nat→Value),g.io l=some (b,sz,base)∧g.own b=some (l,[])∧
   w.heap[b]? = some (.cells cs T (0,0))∧base+rows.length * sz≤cs.size∧rows.length≤LIM∧
   (∀(i:Nat) (row:List C),rows[i]? = some row→row.length=sz)∧
   (∀(i:Nat) (row:List C) (j:Nat) (c:C),rows[i]? = some row→row[j]? = some c→cs[base+i * sz+j]? = some (val i j))∧
   ∀(i:Nat) (row:List C) (j:Nat) (c:C),rows[i]? = some row→row[j]? = some c→RepO w g l [i,j] c (val i j)
theorem SatVec.of {g:G}{w:World}{l sz:Nat}{rows:List (List C)}{b base:Nat}(h:(rows=[]∧∃x,g.io l=some x∧x.2.1≠sz)∨SatVec g w l sz rows)(hio:g.io l=some (b,sz,base)):SatVec g w l sz rows:=by
 rcases h with ⟨_,x,h1,h2⟩|h
 ·rw[hio]at h1;simp at h1;subst h1;exact absurd rfl h2
 ·exact h
def SatObj (H:Heap)(g:G)(w:World)(l:Nat):Obj→Prop
 |.none=>True
 |.st cells=>∃(b sz:Nat) (T:TypeId) (cs:Array Value),g.io l=some (b,sz,0)∧g.own b=some (l,[])∧w.heap[b]? = some (.cells cs T (0,0))∧
   cs.size=cells.length∧∀(k:Nat) (c:C) (v:Value),cells[k]? = some c→cs[k]? = some v→RepO w g l [k] c v
 |.vec sz rows=>(rows=[]∧∃x,g.io l=some x∧x.2.1≠sz)∨SatVec g w l sz rows
 |.map _ es=>∃(b:Nat) (ms:Array MapEntry) (clock:Nat),g.io l=some (b,0,0)∧g.own b=some (l,[])∧w.heap[b]? = some (.map ms clock)∧
   ms.size=es.length∧es.length≤LIM∧(∀(i:Nat) (e:C×V) (m:MapEntry),es[i]? = some e→ms[i]? = some m→RepE w g e m)∧
   (∀(i:Nat) (m:MapEntry),ms[i]? = some m→m.born<clock)∧(∀(i j:Nat) (m m':MapEntry),ms[i]? = some m→ms[j]? = some m'→(m.born=m'.born∨m.key=m'.key)→i=j)
 |.iter none left cur=>∃(b since:Nat) (seen:Array Nat) (last:Nat),g.io l=some (b,0,0)∧g.own b=some (l,[])∧
   w.heap[b]? = some (.mapIter none since seen last)∧left=[]
 |.iter (some (m,ver)) left cur=>∃(b mb since:Nat) (seen:Array Nat),g.io l=some (b,0,0)∧g.own b=some (l,[])∧
   w.heap[b]? = some (.mapIter (some mb) since seen since)∧g.io m=some (mb,0,0)∧
   ∀v es,H m=.map v es→ver≤v∧(v=ver→∃(ms:Array MapEntry),w.heap[mb]? = some (.map ms since)∧ms.size=es.length∧
    es.Nodup∧left.Nodup∧(∀e,e∈left↔∃i:Nat,∃m:MapEntry,es[i]? = some e∧ms[i]? = some m∧m.born∉seen)∧
    (∀e,cur=some e→∃i:Nat,∃m:MapEntry,es[i]? = some e∧ms[i]? = some m∧seen.back? = some m.born))
 |.gl b cells=>∃(sz:Nat) (val:Nat→Value),g.io l=some (b,sz,0)∧g.per b=true∧(∀(j:Nat) (c:C),cells[j]? = some c→w.cell? ⟨b,j,none⟩=some (val j))∧
   ∀(j:Nat) (c:C),cells[j]? = some c→RepC w g c (val j)
structure Sat (H:Heap)(g:G)(w:World):Prop where
 fresh:∀b,w.heap.size≤b→g.per b=false∧g.own b=none
 names:∃N,∀l,N≤l→g.io l=none
 excl:∀b x,g.own b=some x→g.per b=false
 named:∀b l p,g.own b=some (l,p)→g.io l≠none
 objs:∀l,SatObj H g w l (H l)
def Fr (H:Heap)(g:G)(w:World)(H':Heap)(g':G)(w':World):Prop:=
 ∀l,g.io l≠none→H l=.none→H' l=.none∧∀b p,g.own b=some (l,p)→g'.own b=some (l,p)∧w'.heap[b]? = w.heap[b]?
theorem Fr.refl (H:Heap)(g:G)(w:World):Fr H g w H g w:=fun _ _ h=>⟨h,fun _ _ h=>⟨h,rfl⟩⟩
theorem Fr.trans {H H' H'':Heap}{g g' g'':G}{w w' w'':World}(hle:Le g w g' w')(h:Fr H g w H' g' w')(k:Fr H' g' w' H'' g'' w''):Fr H g w H'' g'' w'':=by
 intro l hl hn;obtain⟨h1,h2⟩:=h l hl hn;have hl':g'.io l≠none:=by
  cases hx:g.io l with
  |none=>exact absurd hx hl
  |some x=>rw[hle.io l x hx];simp
 obtain⟨k1,k2⟩:=k l hl' h1;refine⟨k1,fun b p hb=>?_⟩;obtain⟨a1,a2⟩:=h2 b p hb;obtain⟨b1,b2⟩:=k2 b p a1;exact⟨b1,b2.trans a2⟩
structure Stp (H:Heap)(g:G)(w:World)(H':Heap)(g':G)(w':World):Prop where
 le:Le g w g' w'
 fr:Fr H g w H' g' w'
 sat:Sat H' g' w'
theorem Stp.refl {H:Heap}{g:G}{w:World}(h:Sat H g w):Stp H g w H g w:=⟨.refl _ _,.refl _ _ _,h⟩
theorem Stp.trans {H H' H'':Heap}{g g' g'':G}{w w' w'':World}(h:Stp H g w H' g' w')(k:Stp H' g' w' H'' g'' w''):Stp H g w H'' g'' w'':=
 ⟨h.le.trans k.le,h.fr.trans h.le k.fr,k.sat⟩
theorem Sat.io_some {H:Heap}{g:G}{w:World}(h:Sat H g w){l:Nat}(hl:H l≠.none):g.io l≠none:=by
 have:=h.objs l
 cases ho:H l with
 |none=>exact absurd ho hl
 |st cells=>rw[ho]at this;obtain⟨b,sz,T,cs,h1,_⟩:=this;rw[h1];simp
 |vec sz rows=>
  rw[ho]at this;rcases this with ⟨_,x,h1,_⟩|⟨b,sz,T,cs,v,h1,_⟩
  ·rw[h1];simp
  ·rw[h1];simp
 |map v es=>rw[ho]at this;obtain⟨b,ms,clock,h1,_⟩:=this;rw[h1];simp
 |gl b cells=>rw[ho]at this;obtain⟨sz,val,h1,_⟩:=this;rw[h1];simp
 |iter m left cur=>
  rw[ho]at this
  cases m with
  |none=>obtain⟨b,s,se,la,h1,_⟩:=this;rw[h1];simp
  |some m=>obtain⟨m,v⟩:=m;obtain⟨b,mb,s,se,h1,_⟩:=this;rw[h1];simp
theorem Sat.none_of_io {H:Heap}{g:G}{w:World}(h:Sat H g w){l:Nat}(hl:g.io l=none):H l=.none:=by
 cases ho:H l with
 |none=>rfl
 |_=>exact absurd hl (h.io_some (by rw[ho];simp))
abbrev Env:=List (Nat×V)
def lk (t:Nat):Env→V
 |[]=>.unk
 |(s,v)::e=>if t=s then v else lk t e
inductive Opd where
 |t (n:Nat)
 |k (v:V)
 deriving Inhabited
def V.bare:V→V
 |.gd _ v=>v
 |v=>v
def V.fine (p:Bool):V→Prop
 |.gd q _=>p=true→q=true
 |_=>True
def Opd.raw (e:Env):Opd→V
 |.t n=>lk n e
 |.k v=>v
def Opd.v (e:Env)(o:Opd):V:=(o.raw e).bare
def Opd.fine (p:Bool)(e:Env)(o:Opd):Prop:=(o.raw e).fine p
def C.isOw:C→Bool
 |.ow _ _=>true
 |_=>false
def rowsOf (H:Heap):C→List (List C)
 |.sl _ _ rows=>rows
 |.vsl l _ st n=>match H l with
  |.vec _ rows=>(rows.drop st).take n
  |_=>[]
 |_=>[]
def okSl (H:Heap):C→Prop
 |.sl _ _ _=>True
 |.vsl l sz st n=>match H l with
  |.vec z rows=>z=sz∧st+n≤rows.length
  |_=>False
 |_=>False
def lenC:C→Nat
 |.sl _ _ rows=>rows.length
 |.vsl _ _ _ n=>n
 |_=>0
def inR (k:IntKind)(n:Int):Prop:=k.min≤n∧n≤k.max
def Qa92 (op:BinOp)(k:IntKind)(a b:Int):Int:=
 match op with
 |.and=>k.wrap (BitVec.ofInt k.bits a&&& BitVec.ofInt k.bits b).toNat
 |.or=>k.wrap (BitVec.ofInt k.bits a ||| BitVec.ofInt k.bits b).toNat
 |_=>k.wrap (BitVec.ofInt k.bits a ^^^ BitVec.ofInt k.bits b).toNat
def C.isPtr:C→Bool
 |.pp _|.ep _ _ _ _|.ptr _ _=>true
 |_=>false
def binC:BinOp→C→C→C
 |.add,.int k a,.int _ b=>.int k (a+b)
 |.sub,.int k a,.int _ b=>.int k (a-b)
 |.mul,.int k a,.int _ b=>.int k (a * b)
 |.quo,.int k a,.int _ b=>.int k (a.tdiv b)
 |.rem,.int k a,.int _ b=>.int k (a.tmod b)
 |.and,.int k a,.int _ b=>.int k (Qa92 .and k a b)
 |.or,.int k a,.int _ b=>.int k (Qa92 .or k a b)
 |.xor,.int k a,.int _ b=>.int k (Qa92 .xor k a b)
 |.eql,.int _ a,.int _ b=>.bool (decide (a=b))
 |.neq,.int _ a,.int _ b=>.bool (!decide (a=b))
 |.lss,.int _ a,.int _ b=>.bool (decide (a<b))
 |.leq,.int _ a,.int _ b=>.bool (decide (a≤b))
 |.gtr,.int _ a,.int _ b=>.bool (decide (b<a))
 |.geq,.int _ a,.int _ b=>.bool (decide (b≤a))
 |.eql,.bool a,.bool b=>.bool (a == b)
 |.neq,.bool a,.bool b=>.bool (!(a == b))
 |.add,.str a,.str b=>.str (a++b)
 |.eql,.str a,.str b=>.bool (decide (a=b))
 |.neq,.str a,.str b=>.bool (!decide (a=b))
 |.eql,x,.pnil=>.bool (!x.isPtr)
 |.neq,x,.pnil=>.bool x.isPtr
 |_,_,_=>.unk
def binO (tag:Nat):BinOp→C→C→Prop
 |.add,.int k a,.int k' b=>k=k'∧inR k (a+b)
 |.sub,.int k a,.int k' b=>k=k'∧inR k (a-b)
 |.mul,.int k a,.int k' b=>k=k'∧inR k (a * b)
 |.quo,.int k a,.int k' b=>k=k'∧b≠0∧inR k (a.tdiv b)
 |.rem,.int k a,.int k' b=>k=k'∧b≠0
 |.and,.int k _,.int k' _=>k=k'
 |.or,.int k _,.int k' _=>k=k'
 |.xor,.int k _,.int k' _=>k=k'
 |.eql,.int k _,.int k' _=>k=k'
 |.neq,.int k _,.int k' _=>k=k'
 |.lss,.int k _,.int k' _=>k=k'
 |.leq,.int k _,.int k' _=>k=k'
 |.gtr,.int k _,.int k' _=>k=k'
 |.geq,.int k _,.int k' _=>k=k'
 |.eql,.bool _,.bool _=>tag=1
 |.neq,.bool _,.bool _=>tag=1
 |.add,.str a,.str b=>a.length+b.length≤LIM
 |.eql,.str _,.str _=>True
 |.neq,.str _,.str _=>True
 |.eql,x,.pnil=>tag=2∧(x.isPtr=true∨x=.pnil)
 |.neq,x,.pnil=>tag=2∧(x.isPtr=true∨x=.pnil)
 |_,_,_=>False
def Qih (H:Heap):C→List C
 |.pp cells=>cells
 |.ptr l k=>match H l with
  |.st cells=>cells.drop k
  |_=>[]
 |.ep s _ i k=>((rowsOf H s).getD i []).drop k
 |_=>[]
def Qbbb (H:Heap):C→Prop
 |.pp _=>True
 |.ptr l _=>match H l with
  |.st _=>True
  |_=>False
 |.ep s sz i _=>okSl H s∧i<lenC s∧s.elemSz=sz
 |_=>False
def noOw (cs:List C):Bool:=cs.all fun c=>!c.isOw
def Qbme (c:Bool):V→V→V
 |.c (.bool a),.c (.bool b)=>.c (.bool (bif c then a else b))
 |x,y=>if c then x else y
def V.cells:V→List C
 |.c x=>[x]
 |.ag cs=>cs
 |_=>[]
def Qbp2:C→C→Bool
 |.int _ a,.int _ b=>decide (a=b)
 |.str a,.str b=>decide (a=b)
 |.bool a,.bool b=>a == b
 |_,_=>false
def Qast (tag:Nat)(k:C)(es:List (C×V)):Prop:=
 match tag,k with
 |0,.int .i64 _=>∀e∈es,∃n,e.1=.int .i64 n
 |1,.str _=>∀e∈es,∃s,e.1=.str s
 |2,.bool _=>∀e∈es,∃b,e.1=.bool b
 |_,_=>False
def Qbkg (k:C):List (C×V)→Option V
 |[]=>none
 |e::es=>if Qbp2 k e.1 then some e.2 else Qbkg k es
def Qcd (H:Heap):C→List (C×V)
 |.mp l=>match H l with
  |.map _ es=>es
  |_=>[]
 |_=>[]
def Qbba (H:Heap):C→Prop
 |.mp l=>match H l with
  |.map _ _=>True
  |_=>False
 |.mnil=>True
 |_=>False
def Qym (cells:List C):List (Nat×List C)→List C
 |[]=>cells
 |(o,p)::r=>Qym (cells.take o++p++cells.drop (o+p.length)) r
inductive FOp where
 |mv (x:Opd)
 |pick (c a b:Opd)
 |bin (tag:Nat) (op:BinOp) (a b:Opd)
 |not (a:Opd)
 |fad (off:Nat) (a:Opd)
 |iad (sz:Nat) (a i:Opd)
 |ld (n:Nat) (agg:Bool) (a:Opd)
 |nck (a:Opd)
 |len (a:Opd)
 |lens (a:Opd)
 |lenm (a:Opd)
 |sli (sz:Nat) (a:Opd) (lo hi:Option Opd)
 |slis (a:Opd) (lo hi:Option Opd)
 |ext (a:Opd) (i:Nat)
 |fld (off n:Nat) (agg:Bool) (a:Opd)
 |idx (a i:Opd)
 |bld (zero:List C) (parts:List (Nat×Nat×Opd))
 |bsl (sz:Nat) (parts:List Opd)
 |box (a:Opd)
 |cvt (k:IntKind) (a:Opd)
 |mkf (f:Nat) (caps:List Opd)
 |lup (tag:Nat) (zero:V) (m k:Opd)
 |lup2 (tag:Nat) (zero:V) (m k:Opd)
 |iaa (sz n:Nat) (a i:Opd)
 |asl (n:Nat) (a:Opd)
 |aslp (n:Nat) (a:Opd) (hi:Option Opd)
 |slm (sz:Nat) (a hi:Opd)
 |ldg (n b l:Nat)
 |iax (sz n:Nat) (a i:Opd)
 |mx (a b:Opd)
 |mn (a b:Opd)
def Qbau (agg:Bool)(cs:List C):V:=if agg then .ag cs else .c (cs.headD .unk)
def Q9:V→Int
 |.c (.int _ n)=>n
 |_=>0
def Qt0:V→Prop
 |.c (.int k _)=>k=.i64
 |_=>False
def fadC (off:Nat):C→C
 |.pp cells=>.pp (cells.drop off)
 |.ptr l k=>.ptr l (k+off)
 |.ep s sz i k=>.ep s sz i (k+off)
 |_=>.unk
def V.c1:V→C
 |.c x=>x
 |_=>.unk
def V.isC:V→Prop
 |.c _=>True
 |_=>False
def V.isAg:V→Prop
 |.ag _=>True
 |_=>False
def sliC (lo hi:Option Int):C→C
 |.sl fl sz rows=>.sl (fl&&(hi.isNone || rows.isEmpty)) sz ((rows.take (hi.getD rows.length).toNat).drop (lo.getD 0).toNat)
 |.vsl l sz st n=>.vsl l sz (st+(lo.getD 0).toNat) ((hi.getD n).toNat-(lo.getD 0).toNat)
 |_=>.unk
def FOp.val (e:Env)(H:Heap):FOp→V
 |.mv x=>x.v e
 |.pick c a b=>match c.v e with
  |.c (.bool t)=>Qbme t (a.v e) (b.v e)
  |_=>.unk
 |.bin _ op a b=>.c (binC op (a.v e).c1 (b.v e).c1)
 |.not a=>match a.v e with
  |.c (.bool t)=>.c (.bool (!t))
  |_=>.unk
 |.fad off a=>.c (fadC off (a.v e).c1)
 |.iad sz a i=>.c (.ep (a.v e).c1 sz (Q9 (i.v e)).toNat 0)
 |.ld n agg a=>Qbau agg ((Qih H (a.v e).c1).take n)
 |.nck a=>a.v e
 |.len a=>.c (.int .i64 (lenC (a.v e).c1))
 |.lens a=>match a.v e with
  |.c (.str s)=>.c (.int .i64 s.length)
  |_=>.unk
 |.lenm a=>.c (.int .i64 (Qcd H (a.v e).c1).length)
 |.sli _ a lo hi=>.c (sliC (lo.map fun x=>Q9 (x.v e)) (hi.map fun x=>Q9 (x.v e)) (a.v e).c1)
 |.slis a lo hi=>match a.v e with
  |.c (.str s)=>.c (.str ((s.take ((hi.map fun x=>Q9 (x.v e)).getD s.length).toNat).drop ((lo.map fun x=>Q9 (x.v e)).getD 0).toNat))
  |_=>.unk
 |.ext a i=>match a.v e with
  |.tup vs=>vs.getD i .unk
  |_=>.unk
 |.fld off n agg a=>Qbau agg (((a.v e).cells.drop off).take n)
 |.idx a i=>match a.v e with
  |.c (.str s)=>.c (.int .u8 ((s.getD (Q9 (i.v e)).toNat 0).toNat))
  |_=>.unk
 |.bld zero parts=>.ag (Qym zero (parts.map fun p=>(p.1,(p.2.2.v e).cells)))
 |.bsl sz parts=>.c (.sl true sz (parts.map fun x=>(x.v e).cells))
 |.box a=>.c (.pp (a.v e).cells)
 |.cvt k a=>.c (.int k (Q9 (a.v e)))
 |.mkf f caps=>.c (.fn f (caps.map fun x=>(x.v e).c1))
 |.lup _ zero m k=>(Qbkg (k.v e).c1 (Qcd H (m.v e).c1)).getD zero
 |.lup2 _ zero m k=>.tup [(Qbkg (k.v e).c1 (Qcd H (m.v e).c1)).getD zero,.c (.bool (Qbkg (k.v e).c1 (Qcd H (m.v e).c1)).isSome)]
 |.iaa sz _ a i=>match a.v e with
  |.c (.ptr l k)=>.c (.ptr l (k+(Q9 (i.v e)).toNat * sz))
  |_=>.unk
 |.asl n a=>match a.v e with
  |.c (.ptr l k)=>.asl l k n
  |_=>.unk
 |.aslp n a hi=>match a.v e with
  |.c (.pp cells)=>.c (.sl hi.isNone 1 ((cells.take ((hi.map fun x=>Q9 (x.v e)).getD n).toNat).map fun c=>[c]))
  |_=>.unk
 |.slm _ a hi=>match a.v e with
  |.c (.sl _ sz rows)=>.c (.sl true sz (rows.take (Q9 (hi.v e)).toNat))
  |_=>.unk
 |.ldg n _ l=>match H l with
  |.gl _ cells=>.ag (cells.take n)
  |_=>.unk
 |.iax sz _ a i=>.ag (((a.v e).cells.drop ((Q9 (i.v e)).toNat * sz)).take sz)
 |.mx a b=>.c (.int .i64 (if Q9 (b.v e) > Q9 (a.v e)then Q9 (b.v e)else Q9 (a.v e)))
 |.mn a b=>.c (.int .i64 (if Q9 (b.v e)<Q9 (a.v e)then Q9 (b.v e)else Q9 (a.v e)))
def Qbkx:V→Prop
 |.c (.int _ _)=>True
 |_=>False
def optI (x:Option Opd)(e:Env):Prop:=
 match x with
 |none=>True
 |some o=>Qt0 (o.v e)
def optF (p:Bool)(x:Option Opd)(e:Env):Prop:=
 match x with
 |none=>True
 |some o=>o.fine p e
def bnds (lo hi:Option Int)(n:Nat):Prop:=
 0≤lo.getD 0∧lo.getD 0≤hi.getD n∧hi.getD n≤n
def FOp.obl (p:Bool)(e:Env)(H:Heap):FOp→Prop
 |.mv x=>x.fine p e
 |.pick c a b=>c.fine p e∧match c.v e with
  |.c (.bool t)=>a.fine (p&&t) e∧b.fine (p&&!t) e
  |_=>False
 |.bin tag op a b=>a.fine p e∧b.fine p e∧(a.v e).isC∧(b.v e).isC∧binO tag op (a.v e).c1 (b.v e).c1
 |.not a=>a.fine p e∧match a.v e with
  |.c (.bool _)=>True
  |_=>False
 |.fad _ a=>a.fine p e∧match a.v e with
  |.c (.pp _)=>True
  |.c (.ptr _ _)=>True
  |.c (.ep _ _ _ _)=>True
  |_=>False
 |.iad sz a i=>a.fine p e∧i.fine p e∧(a.v e).isC∧okSl H (a.v e).c1∧(a.v e).c1.elemSz=sz∧Qt0 (i.v e)∧
   0≤Q9 (i.v e)∧(Q9 (i.v e)).toNat<lenC (a.v e).c1
 |.ld n _ a=>a.fine p e∧(a.v e).isC∧Qbbb H (a.v e).c1∧n≤(Qih H (a.v e).c1).length∧noOw ((Qih H (a.v e).c1).take n)=true
 |.nck a=>a.fine p e∧match a.v e with
  |.c (.pp _)=>True
  |.c (.ptr _ _)=>True
  |.c (.ep _ _ _ _)=>True
  |.c (.fn _ _)=>True
  |_=>False
 |.len a=>a.fine p e∧(a.v e).isC∧okSl H (a.v e).c1
 |.lens a=>a.fine p e∧match a.v e with
  |.c (.str _)=>True
  |_=>False
 |.lenm a=>a.fine p e∧(a.v e).isC∧Qbba H (a.v e).c1
 |.sli sz a lo hi=>a.fine p e∧optF p lo e∧optF p hi e∧optI lo e∧optI hi e∧(a.v e).isC∧okSl H (a.v e).c1∧(a.v e).c1.elemSz=sz∧
   bnds (lo.map fun x=>Q9 (x.v e)) (hi.map fun x=>Q9 (x.v e)) (lenC (a.v e).c1)
 |.slis a lo hi=>a.fine p e∧optF p lo e∧optF p hi e∧optI lo e∧optI hi e∧match a.v e with
  |.c (.str s)=>bnds (lo.map fun x=>Q9 (x.v e)) (hi.map fun x=>Q9 (x.v e)) s.length
  |_=>False
 |.ext a i=>a.fine p e∧match a.v e with
  |.tup vs=>i<vs.length
  |_=>False
 |.fld off n agg a=>a.fine p e∧(a.v e).isAg∧off+n≤(a.v e).cells.length
 |.idx a i=>a.fine p e∧i.fine p e∧Qt0 (i.v e)∧match a.v e with
  |.c (.str s)=>0≤Q9 (i.v e)∧(Q9 (i.v e)).toNat<s.length
  |_=>False
 |.bld zero parts=>∀x∈parts,x.2.2.fine p e∧(x.2.2.v e).cells.length=x.2.1
 |.bsl sz parts=>∀x∈parts,x.fine p e∧(x.v e).cells.length=sz
 |.box a=>a.fine p e∧(a.v e).cells≠[]
 |.cvt k a=>a.fine p e∧Qbkx (a.v e)∧inR k (Q9 (a.v e))
 |.mkf f caps=>∀x∈caps,x.fine p e∧(x.v e).isC
 |.lup tag zero m k=>m.fine p e∧k.fine p e∧(m.v e).isC∧(k.v e).isC∧Qbba H (m.v e).c1∧Qast tag (k.v e).c1 (Qcd H (m.v e).c1)
 |.lup2 tag zero m k=>m.fine p e∧k.fine p e∧(m.v e).isC∧(k.v e).isC∧Qbba H (m.v e).c1∧Qast tag (k.v e).c1 (Qcd H (m.v e).c1)
 |.iaa _ n a i=>a.fine p e∧i.fine p e∧Qt0 (i.v e)∧0≤Q9 (i.v e)∧Q9 (i.v e)<n∧match a.v e with
  |.c (.ptr _ _)=>True
  |_=>False
 |.asl _ a=>a.fine p e∧match a.v e with
  |.c (.ptr l _)=>(match H l with
   |.st _=>True
   |_=>False)
  |_=>False
 |.aslp n a hi=>a.fine p e∧optF p hi e∧optI hi e∧bnds none (hi.map fun x=>Q9 (x.v e)) n∧n≤LIM∧match a.v e with
  |.c (.pp cells)=>n≤cells.length
  |_=>False
 |.slm sz a hi=>a.fine p e∧hi.fine p e∧Qt0 (hi.v e)∧0≤Q9 (hi.v e)∧match a.v e with
  |.c (.sl _ z rows)=>z=sz∧Q9 (hi.v e)≤rows.length
  |_=>False
 |.ldg n b l=>match H l with
  |.gl b' cells=>b'=b∧n≤cells.length
  |_=>False
 |.iax sz n a i=>a.fine p e∧i.fine p e∧Qt0 (i.v e)∧0≤Q9 (i.v e)∧Q9 (i.v e)<n∧(a.v e).isAg∧n * sz≤(a.v e).cells.length
 |.mx a b=>a.fine p e∧b.fine p e∧Qt0 (a.v e)∧Qt0 (b.v e)
 |.mn a b=>a.fine p e∧b.fine p e∧Qt0 (a.v e)∧Qt0 (b.v e)
def FOp.fct (e:Env)(H:Heap):FOp→Prop
 |.len a=>lenC (a.v e).c1≤LIM
 |.lens a=>match a.v e with
  |.c (.str s)=>s.length≤LIM
  |_=>True
 |.lenm a=>(Qcd H (a.v e).c1).length≤LIM
 |_=>True
def fnOk (P:Program)(f:FuncId):Bool:=
 match P.funcs[f]? with
 | some fn => fn.body.isSome && fn.name != "runtime.NumGoroutine"
 |none=>false
def Qs (P:Program)(f:FuncId)(args:List V)(H:Heap)(K:V→Heap→Prop):Prop:=
 fnOk P f=true∧∀(g:G) (w:World) (vs:List Value),Sat H g w→vs.length=args.length→
  (∀(j:Nat) (x:V) (u:Value),args[j]? = some x→vs[j]? = some u→RepV w g x u)→
  Calls P f vs.toArray w fun e w'=>(∃v x H' g',e=.returned v∧K x H'∧Stp H g w H' g' w'∧RepV w' g' x v)∨
   (∃v H' g',e=.panicked [{ v:=v,recovered:=false }]∧K (.pn v) H'∧Stp H g w H' g' w')
def Qbjx (P:Program)(f:FuncId)(args:List V)(r:V):Prop:=(∀v,r≠.pn v)∧∀H K,K r H→Qs P f args H K
inductive EOp where
 |alloc (cells:List C)
 |boxm (a:Opd)
 |sto (n:Nat) (a v:Opd)
 |app (sz:Nat) (a b:Opd)
 |mks (sz:Nat) (zero:List C) (n:Opd)
 |mkm
 |upd (tag:Nat) (m k v:Opd)
 |del (tag:Nat) (m k:Opd)
 |clrm (m:Opd)
 |clrs (sz:Nat) (zero:List C) (m:Opd)
 |call (f:Nat) (args:List Opd)
 |callv (f:Opd) (args:List Opd)
 |rng (m:Opd)
 |nxt (it:Opd)
 |ent (it:Opd)
 |nilq (a:Opd)
 |bslm (sz:Nat) (parts:List Opd)
 |cpy (sz:Nat) (a b:Opd)
def Qwj (row:List C)(k:Nat)(vs:List C):List C:=row.take k++vs++row.drop (k+vs.length)
def Qagw (H:Heap)(p:C)(vs:List C)(K:V→Heap→Prop):Prop:=
 match p with
 |.ptr l k=>match H l with
  |.st cells=>k+vs.length≤cells.length∧K .unk (H.set l (.st (Qwj cells k vs)))
  |_=>False
 |.ep (.vsl l sz st n) z i k=>match H l with
  |.vec y rows=>y=sz∧z=sz∧i<n∧st+n≤rows.length∧k+vs.length≤sz∧
    K .unk (H.set l (.vec sz (rows.set (st+i) (Qwj (rows.getD (st+i) []) k vs))))
  |_=>False
 |_=>False
def appT (H:Heap)(sz:Nat)(a b:C)(K:V→Heap→Prop):Prop:=
 okSl H b∧b.elemSz=sz∧match a with
 |.sl true z rows=>z=sz∧(rows=[]∨rowsOf H b≠[])∧(∀r∈rows++rowsOf H b,noOw r=true)∧rows.length+lenC b≤LIM∧
   ∀l,H l=.none→K (.c (.vsl l sz 0 (rows.length+lenC b))) (H.set l (.vec sz (rows++rowsOf H b)))
 |.vsl l z st n=>match H l with
  |.vec y rows=>z=sz∧y=sz∧st+n≤rows.length∧(∀r∈rowsOf H b,noOw r=true)∧n+lenC b≤LIM∧
    ∀l',(H.set l .none) l'=.none→
     K (.c (.vsl l' sz 0 (n+lenC b))) ((H.set l .none).set l' (.vec sz ((rows.drop st).take n++rowsOf H b)))
  |_=>False
 |_=>False
def updE (k:C)(v:V):List (C×V)→List (C×V)
 |[]=>[(k,v)]
 |e::es=>if Qbp2 k e.1 then (k,v)::es else e::updE k v es
def delE (k:C):List (C×V)→List (C×V)
 |[]=>[]
 |e::es=>if Qbp2 k e.1 then es else e::delE k es
def updT (H:Heap)(tag:Nat)(m k:C)(v:V)(K:V→Heap→Prop):Prop:=
 match m with
 |.mp l=>match H l with
  |.map n es=>Qast tag k es∧es.length+1≤LIM∧K .unk (H.set l (.map (n+1) (updE k v es)))
  |_=>False
 |_=>False
def delT (H:Heap)(tag:Nat)(m k:C)(K:V→Heap→Prop):Prop:=
 match m with
 |.mp l=>match H l with
  |.map n es=>Qast tag k es∧K .unk (H.set l (.map (n+1) (delE k es)))
  |_=>False
 |.mnil=>Qast tag k []∧K .unk H
 |_=>False
def cpyT (H:Heap)(sz:Nat)(a b:C)(K:V→Heap→Prop):Prop:=
 okSl H b∧b.elemSz=sz∧match a with
 |.vsl l z st n=>match H l with
  |.vec y rows=>z=sz∧y=sz∧st+n≤rows.length∧lenC b≤n∧(∀r∈rowsOf H b,noOw r=true)∧
    K (.c (.int .i64 (lenC b))) (H.set l (.vec sz (rows.take st++rowsOf H b++rows.drop (st+lenC b))))
  |_=>False
 |_=>False
def EOp.eff (P:Program)(p:Bool)(e:Env)(H:Heap)(K:V→Heap→Prop):EOp→Prop
 |.alloc cells=>∀l,H l=.none→K (.c (.ptr l 0)) (H.set l (.st cells))
 |.boxm a=>a.fine p e∧(a.v e).cells≠[]∧∀l,H l=.none→K (.c (.ptr l 0)) (H.set l (.st (a.v e).cells))
 |.sto n a v=>a.fine p e∧v.fine p e∧(a.v e).isC∧(v.v e).cells.length=n∧0<n∧Qagw H (a.v e).c1 (v.v e).cells K
 |.app sz a b=>a.fine p e∧b.fine p e∧(a.v e).isC∧(b.v e).isC∧appT H sz (a.v e).c1 (b.v e).c1 K
 |.mks sz zero n=>n.fine p e∧Qt0 (n.v e)∧0≤Q9 (n.v e)∧Q9 (n.v e)≤LIM∧
   ∀l,H l=.none→K (.c (.vsl l sz 0 (Q9 (n.v e)).toNat)) (H.set l (.vec sz (List.replicate (Q9 (n.v e)).toNat zero)))
 |.mkm=>∀l,H l=.none→K (.c (.mp l)) (H.set l (.map 0 []))
 |.upd tag m k v=>m.fine p e∧k.fine p e∧v.fine p e∧(m.v e).isC∧(k.v e).isC∧(v.v e).cells≠[]∧updT H tag (m.v e).c1 (k.v e).c1 (v.v e) K
 |.del tag m k=>m.fine p e∧k.fine p e∧(m.v e).isC∧(k.v e).isC∧delT H tag (m.v e).c1 (k.v e).c1 K
 |.clrm m=>m.fine p e∧match m.v e with
  |.c (.mp l)=>match H l with
   |.map n _=>K .unk (H.set l (.map (n+1) []))
   |_=>False
  |_=>False
 |.clrs sz zero m=>m.fine p e∧match m.v e with
  |.c (.vsl l z st n)=>z=sz∧match H l with
   |.vec y rows=>y=sz∧st+n≤rows.length∧K .unk (H.set l (.vec sz (rows.take st++List.replicate n zero++rows.drop (st+n))))
   |_=>False
  |_=>False
 |.call f args=>(∀x∈args,x.fine p e)∧Qs P f (args.map fun x=>x.v e) H K
 |.callv f args=>f.fine p e∧(∀x∈args,x.fine p e)∧match f.v e with
  |.c (.fn n caps)=>Qs P n ((args.map fun x=>x.v e)++caps.map .c) H K
  |_=>False
 |.rng m=>m.fine p e∧match m.v e with
  |.c (.mp l)=>match H l with
   |.map n es=>es.Nodup∧∀i,H i=.none→K (.c (.itr i)) (H.set i (.iter (some (l,n)) es none))
   |_=>False
  |.c .mnil=>∀i,H i=.none→K (.c (.itr i)) (H.set i (.iter none [] none))
  |_=>False
 |.nxt it=>it.fine p e∧match it.v e with
  |.c (.itr i)=>match H i with
   |.iter none left _=>K (.tup [.c (.bool false)]) H
   |.iter (some (l,n)) left cur=>(∃es,H l=.map n es)∧(left=[]→K (.tup [.c (.bool false)]) H)∧
     ∀x left',x∈left→(∀y,y∈left'↔y∈left∧y≠x)→left'.Nodup→left'.length+1=left.length→
      K (.tup [.c (.bool true),.c x.1,x.2]) (H.set i (.iter (some (l,n)) left' (some x)))
   |_=>False
  |_=>False
 |.ent it=>it.fine p e∧match it.v e with
  |.c (.itr i)=>match H i with
   |.iter (some (l,n)) left (some x)=>(∃es,H l=.map n es)∧K (.tup [.c x.1,x.2]) H
   |_=>False
  |_=>False
 |.nilq a=>a.fine p e∧match a.v e with
  |.c (.sl _ _ rows)=>∀b:Bool,(b=true→rows=[])→K (.c (.bool b)) H
  |_=>False
 |.cpy sz a b=>a.fine p e∧b.fine p e∧(a.v e).isC∧(b.v e).isC∧cpyT H sz (a.v e).c1 (b.v e).c1 K
 |.bslm sz parts=>(∀x∈parts,x.fine p e∧(x.v e).cells.length=sz)∧∀l,H l=.none→K (.c (.vsl l sz 0 parts.length)) (H.set l (.vec sz (parts.map fun x=>(x.v e).cells)))
inductive Item where
 |f (dst:Option Nat) (g:Option (Nat×Bool)) (op:FOp)
 |p (dst:Option Nat) (g:Option (Nat×Bool)) (f:Nat) (args:List Opd)
 |e (dst:Option Nat) (g:Option (Nat×Bool)) (op:EOp)
 |chk (dst:Nat) (g:Option (Nat×Bool)) (op:FOp)
def Q9a (d:Option Nat)(v:V)(e:Env):Env:=
 match d with
 |some t=>(t,v)::e
 |none=>e
def gdB (e:Env):Option (Nat×Bool)→Bool
 |none=>true
 |some (t,w)=>match lk t e with
  |.c (.bool b)=>b == w
  |.gd q (.c (.bool b))=>q&&(b == w)
  |_=>false
def gdO (e:Env):Option (Nat×Bool)→Prop
 |none=>True
 |some (t,_)=>match lk t e with
  |.c (.bool _)=>True
  |.gd _ (.c (.bool _))=>True
  |.gd q _=>q=false
  |_=>False
def gdV (g:Option (Nat×Bool))(p:Bool)(v:V):V:=
 match g with
 |none=>v
 |some _=>.gd p v
def Qa0b (KP:Value→Heap→Prop)(K:V→Heap→Prop):V→Heap→Prop
 |.pn v,H=>KP v H
 |v,H=>K v H
def regT (P:Program):List Item→Env→Heap→(Value→Heap→Prop)→(Env→Heap→Prop)→Prop
 |[],e,H,KP,K=>K e H
 |.f d g op::r,e,H,KP,K=>gdO e g∧(gdB e g=true→op.obl (gdB e g) e H)∧
   ((gdB e g=true→op.fct e H)→regT P r (Q9a d (gdV g (gdB e g) (op.val e H)) e) H KP K)
 |.p d g f args::r,e,H,KP,K=>gdO e g∧∃v,(gdB e g=true→(∀x∈args,x.fine (gdB e g) e)∧Qbjx P f (args.map fun x=>x.v e) v)∧
   regT P r (Q9a d (gdV g (gdB e g) v) e) H KP K
 |.e d g op::r,e,H,KP,K=>gdO e g∧
   (gdB e g=true→op.eff P (gdB e g) e H (Qa0b KP fun v H'=>regT P r (Q9a d v e) H' KP K))∧
   (gdB e g=false→regT P r (Q9a d .unk e) H KP K)
 |.chk _ _ _::_,_,_,_,_=>False
def Qop (P:Program):List Item→Env→Heap→(Value→Heap→Prop)→(Env→Heap→Prop)→Prop
 |[],e,H,KP,K=>K e H
 |.f d g op::r,e,H,KP,K=>gdO e g∧(gdB e g=true→op.obl (gdB e g) e H)∧Qop P r (Q9a d (gdV g (gdB e g) (op.val e H)) e) H KP K
 |.p d g f args::r,e,H,KP,K=>gdO e g∧∃v,(gdB e g=true→(∀x∈args,x.fine (gdB e g) e)∧Qbjx P f (args.map fun x=>x.v e) v)∧
   Qop P r (Q9a d (gdV g (gdB e g) v) e) H KP K
 |.e d g op::r,e,H,KP,K=>gdO e g∧
   (gdB e g=true→op.eff P (gdB e g) e H (Qa0b KP fun v H'=>Qop P r (Q9a d v e) H' KP K))∧
   (gdB e g=false→Qop P r (Q9a d .unk e) H KP K)
 |.chk d g op::r,e,H,KP,K=>(gdO e g∧(gdB e g=true→op.obl (gdB e g) e H)∧lk d e=gdV g (gdB e g) (op.val e H))∧Qop P r e H KP K
def trim (ks:List Nat)(e:Env):Env:=ks.map fun t=>(t,lk t e)
def Qbjw (e:Env)(H:Heap)(e':Env)(H':Heap):Prop:=
 ∀(g:G) (w:World) (tmps:Nat→Value),Sat H g w→(∀t,RepV w g (lk t e) (tmps t))→
  ∃g',Stp H g w H' g' w∧∀t,RepV w g' (lk t e') (tmps t)
inductive SC where
 |skip
 |reg (its:List Item) (keep:List Nat)
 |dreg (fa:Nat) (ord:List Nat) (its:List Item) (keep:List Nat)
 |seq (a b:SC)
 |cond (t:Opd) (a b:SC)
 |block (id:Nat) (a:SC)
 |loop (a:SC)
 |exit (id:Nat)
 |ret
 |gh
inductive X where
 |nrm
 |exit (id:Nat)
 |ret
 |pan (v:Value)
def X.panK (Q:X→Env→Heap→Prop)(v:Value)(H:Heap):Prop:=Q (.pan v) [] H
def X.next (K:Env→Heap→Prop)(Q:X→Env→Heap→Prop):X→Env→Heap→Prop
 |.nrm,e,H=>K e H
 |x,e,H=>Q x e H
def X.inBlock (id:Nat)(Q:X→Env→Heap→Prop):X→Env→Heap→Prop
 |.exit i,e,H=>if i=id then Q .nrm e H else Q (.exit i) e H
 |x,e,H=>Q x e H
def Qah (P:Program):SC→(X→Env→Heap→Prop)→Env→Heap→Prop
 |.skip,Q,e,H=>Q .nrm e H
 |.reg its keep,Q,e,H=>regT P its e H (X.panK Q) fun e' H'=>Q .nrm (trim keep e') H'
 |.dreg _ _ its keep,Q,e,H=>Qop P its e H (X.panK Q) fun e' H'=>Q .nrm (trim keep e') H'
 |.seq a b,Q,e,H=>Qah P a (X.next (Qah P b Q) Q) e H
 |.cond t a b,Q,e,H=>∃c,t.raw e=.c (.bool c)∧(c=true→Qah P a Q e H)∧(c=false→Qah P b Q e H)
 |.block id a,Q,e,H=>Qah P a (X.inBlock id Q) e H
 |.loop a,Q,e,H=>∃(I:Nat→Env→Heap→Prop),(∃n,I n e H)∧
   ∀n e1 H1,I n e1 H1→Qah P a (X.next (fun e2 H2=>∃m,m<n∧I m e2 H2) Q) e1 H1
 |.exit id,Q,e,H=>Q (.exit id) e H
 |.ret,Q,e,H=>Q .ret e H
 |.gh,Q,e,H=>∃e' H',Qbjw e H e' H'∧Q .nrm e' H'
inductive RS where
 |tmp (t:Nat)
 |cell (t n:Nat) (agg:Bool)
def RS.op:RS→FOp
 |.tmp t=>.mv (.t t)
 |.cell t n agg=>.ld n agg (.t t)
def Qab (rs:List RS)(e:Env)(H:Heap)(K:V→Heap→Prop):Prop:=
 (∀r∈rs,r.op.obl true e H)∧K (match rs with
  |[r]=>r.op.val e H
  |_=>.tup (rs.map fun r=>r.op.val e H)) H
def zipE (i:Nat):List V→Env
 |[]=>[]
 |v::r=>(i,v)::zipE (i+1) r
variable {P:Program}
theorem Qkn {t:TypeId}{i:TypeInfo}(h:P.info? t=some i)(w:World):(typeInfo t).run P w=.ok i w:=by
 simp[typeInfo,h]
theorem Qbi {t:TypeId}{i:TypeInfo}(h:P.info? t=some i)(w:World):(sizeOf t).run P w=.ok i.size w:=by
 simp[sizeOf,Qkn h]
theorem Qaz {t:TypeId}{d:TypeDesc}(h:P.underlying t=some d)(w:World):(underlying t).run P w=.ok d w:=by
 simp[underlying,h]
theorem Qari {t:TypeId}{i:TypeInfo}(h:P.info? t=some i):P.cellsOf t=i.size:=by simp[Program.cellsOf,h]
def Qio:TypeDesc→Bool
 |.struct _|.array _ _=>true
 |_=>false
theorem Qans {t:TypeId}{d:TypeDesc}(h:P.underlying t=some d)(w:World):(isAgg t).run P w=.ok (Qio d) w:=by
 cases d <;> simp[isAgg,Qaz h,Qio]
theorem Qb2 (b o j:Nat):(⟨b,o,none⟩:Addr).add j=⟨b,o+j,none⟩:=by
 unfold Addr.add;split
 ·subst_vars;rfl
 ·rfl
theorem Qas8 {t:TypeId}{d:TypeDesc}{i:TypeInfo}(hd:P.underlying t=some d)(hi:P.info? t=some i)(w:World)(b o n:Nat)(f:Nat→Value)
  (hn:Qio d=true→i.size=n) (h1:Qio d=false→n=1) (hc:∀j,j<n→w.cell? ⟨b,o+j,none⟩=some (f j)) :
  (loadVar t ⟨b,o,none⟩).run P w=.ok (if Qio d then .agg ((List.range n).map f).toArray else f 0) w:=by
 unfold loadVar;simp only[Sem.run_bind,Qans hd,Result.andThen_ok]
 cases ha:Qio d with
 |true=>
  simp only[Sem.run_bind,Qbi hi,Result.andThen_ok,if_true,hn ha];rw[run_loadCells w _ n f (fun j hj=>by rw[Qb2];exact hc j hj)];simp
 |false=>
  have h0:=hc 0 (by have:=h1 ha;omega);simp only[J1]at h0;simp[h0]
def getV (w:World)(b o:Nat)(j:Nat):Value:=(w.cell? ⟨b,o+j,none⟩).getD undef
theorem RepC.noOw {w:World}{g:G}{c:C}{v:Value}(h:RepC w g c v):c.isOw=false:=by cases h <;> rfl
theorem Qcr {w:World}{b o:Nat}{cs:Array Value}{T:TypeId}(h:w.heap[b]? = some (.cells cs T (0,0))):w.cell? ⟨b,o,none⟩=cs[o]?:=by
 simp[World.cell?,h]
theorem RepO.toC {w:World}{g:G}{l:Nat}{p:List Nat}{c:C}{v:Value}(h:RepO w g l p c v)(hn:c.isOw=false):RepC w g c v:=
 h.plain_of (fun sz rows e=>by subst e;simp[C.isOw]at hn)
theorem Qty {H:Heap}{g:G}{w:World}(hs:Sat H g w){s:C}{v:Value}(h:RepC w g s v)(ho:okSl H s) :
  ∃a cap,v=.slice a (lenC s) cap∧lenC s≤LIM∧(rowsOf H s).length=lenC s∧
   (∀(i:Nat) (row:List C),(rowsOf H s)[i]? = some row→row.length=s.elemSz)∧
   (lenC s≠0→∃b off,a=some ⟨b,off,none⟩∧∀(i:Nat) (row:List C) (j:Nat) (c:C),(rowsOf H s)[i]? = some row→row[j]? = some c→c.isOw=false→
    ∃u,w.cell? ⟨b,off+i * s.elemSz+j,none⟩=some u∧RepC w g c u):=by
 cases h with
 |slnil fl sz a=>exact⟨a,0,rfl,by simp[lenC,LIM],rfl,by simp[rowsOf],by simp[lenC]⟩
 |sl fl sz rows b off cap val hl hf hcap hp hr hc hv=>
  refine⟨some ⟨b,off,none⟩,cap,rfl,hl,rfl,hr,fun _=>⟨b,off,rfl,fun i row j c h1 h2 _=>⟨_,hc i row j c h1 h2,hv i row j c h1 h2⟩⟩⟩
 |vslnil l sz st a=>
  simp only[okSl]at ho;refine⟨a,0,rfl,by simp[lenC,LIM],?_,?_,by simp[lenC]⟩
  ·simp only[rowsOf,lenC];split <;> simp
  ·intro i row h1;simp only[rowsOf]at h1;split at h1 <;> simp at h1
 |vsl l sz st n cap b base T m hio hn hsh hm=>
  simp only[okSl]at ho;split at ho
  ·rename_i z rows hH
   obtain⟨rfl,hst⟩:=ho;have hob:=hs.objs l;rw[hH]at hob;obtain⟨b',base',T',cs,val,h1,h2,h3,h4,h5,h6,h7,h8⟩:=SatVec.of hob hio;rw[hio]at h1;simp only[Je,Ju,true_and]at h1;obtain⟨rfl,rfl⟩:=h1;have hrow:∀i row,(rowsOf H (.vsl l z st n))[i]? = some row→i<n∧rows[st+i]? = some row:=by
    intro i row hi;simp only[rowsOf,hH,Jn,Jq]at hi;split at hi
    ·rename_i hlt;exact⟨hlt,hi⟩
    ·simp at hi
   refine⟨_,cap,rfl,by simp only[lenC];omega,?_,?_,fun _=>⟨b,base+st * z,rfl,?_⟩⟩
   ·simp only[rowsOf,hH,lenC,List.length_take,List.length_drop];omega
   ·intro i row hi;exact h6 _ _ (hrow i row hi).2
   ·intro i row j c hi hj ho;obtain⟨hi1,hi2⟩:=hrow i row hi;have e1:=h7 _ _ _ _ hi2 hj;refine⟨val (st+i) j,?_,(h8 _ _ _ _ hi2 hj).toC ho⟩;rw[Qcr h3,←e1];simp only[C.elemSz];congr 1;rw[Jg];omega
  ·exact ho.elim
 |_=>simp[okSl]at ho
theorem Qak9 {H:Heap}{g:G}{w:World}(hs:Sat H g w){x:C}{v:Value}(h:RepC w g x v)(ho:Qbbb H x) :
  ∃b o,v=.pointer (some ⟨b,o,none⟩)∧∀(j:Nat) (c:C),(Qih H x)[j]? = some c→c.isOw=false→∃u,w.cell? ⟨b,o+j,none⟩=some u∧RepC w g c u:=by
 cases h with
 |pp cells b off val hp hc hv=>exact⟨b,off,rfl,fun j c h1 _=>⟨_,hc j c h1,hv j c h1⟩⟩
 |ptr l k b sz base hio=>
  simp only[Qbbb]at ho;split at ho
  ·rename_i cells hH
   have hob:=hs.objs l;rw[hH]at hob;obtain⟨b',sz',T,cs,h1,h2,h3,h4,h5⟩:=hob;rw[hio]at h1;simp only[Je,Ju]at h1;obtain⟨rfl,rfl,rfl⟩:=h1;refine⟨b,0+k,rfl,fun j c hj hw=>?_⟩;simp only[Qih,hH,Jq]at hj;have hlt:k+j<cs.size:=by
    rw[h4];rcases Ji (k+j) cells.length with h|h
    ·exact h
    ·rw[Jf h]at hj;simp at hj
   have hv:cs[k+j]? = some cs[k+j]:=Jc hlt;exact⟨cs[k+j],by rw[Qcr h3,show 0+k+j=k+j by omega];exact hv,(h5 _ _ _ hj hv).toC hw⟩
  ·exact ho.elim
 |ep s sz i k b off n cap hsl hz hi=>
  simp only[Qbbb]at ho;obtain⟨ho1,ho2,ho3⟩:=ho;obtain⟨a,cap',hv,h1,h2,h3,h4⟩:=Qty hs hsl ho1;simp only[Value.slice.injEq]at hv;obtain⟨rfl,rfl,rfl⟩:=hv;obtain⟨b',off',hb,h5⟩:=h4 (by omega);simp only[Je,Addr.mk.injEq,and_true]at hb;obtain⟨rfl,rfl⟩:=hb;refine⟨b,off+i * sz+k,rfl,fun j c hj hw=>?_⟩;simp only[Qih,Jq]at hj;have hrow:(rowsOf H s)[i]? = some ((rowsOf H s).getD i []):=by
   rw[J2,Jd (by omega)];rfl
  obtain⟨u,e1,e2⟩:=h5 i _ (k+j) c hrow hj hw;refine⟨u,?_,e2⟩;rw[hz]at e1;rw[←e1];congr 2;omega
 |_=>simp[Qbbb]at ho
def mK:V→Value→Bool
 |.c (.int k n),.int k' n'=>k == k'&&n == n'
 |.c (.bool b),.bool b'=>b == b'
 |.c (.str s),.string b=>decide (s=b.data.toList)&&decide (s.length≤1000000)
 |.c (.sl _ _ []),.slice none 0 0=>true
 |.c .pnil,.pointer none=>true
 |.c .mnil,.map none=>true
 |.c .fnil,.nilFunc=>true
 |_,_=>false
def mO:Opd→Operand→Bool
 |.t n,.tmp m=>n == m
 |.k v,.const c=>mK v c
 |.k (.c (.fn f [])),.func f'=>f == f'
 |_,_=>false
theorem Qbsd {w:World}{g:G}{v:V}{u:Value}(h:mK v u=true):RepV w g v u:=by
 unfold mK at h;split at h
 ·simp at h;obtain⟨rfl,rfl⟩:=h;exact .c _ _ (.int _ _)
 ·simp at h;subst h;exact .c _ _ (.bool _)
 ·rename_i s b
  simp only[Ja,decide_eq_true_eq]at h;obtain⟨rfl,h2⟩:=h;have hb:b=⟨b.data.toList.toArray⟩:=by cases b;rfl
  have:=RepC.str (w:=w) (g:=g) b.data.toList (by unfold LIM;omega);rw[←hb]at this;exact .c _ _ this
 ·exact .c _ _ (.slnil _ _ _)
 ·exact .c _ _ .pnil
 ·exact .c _ _ .mnil
 ·exact .c _ _ .fnil
 ·simp at h
theorem Qboh {w:World}{g:G}{e:Env}{a:Act}(he:∀t,RepV w g (lk t e) (a.tmps.getD t undef)){x:Opd}{y:Operand}(h:mO x y=true) :
  RepV w g (x.raw e) (a.eval y):=by
 unfold mO at h;split at h
 ·simp at h;subst h;exact he _
 ·exact Qbsd h
 ·simp at h;subst h;exact .c _ _ (.fn _ [] [] rfl (by intro j c u h1;simp at h1))
 ·simp at h
theorem Qay {w:World}{g:G}{e:Env}{a:Act}(he:∀t,RepV w g (lk t e) (a.tmps.getD t undef)){x:Opd}{y:Operand}(h:mO x y=true)
  {p:Bool} (hp:p=true) (hf:x.fine p e):RepV w g (x.v e) (a.eval y):=by
 have hr:=Qboh he h;unfold Opd.v Opd.fine at *
 cases hx:x.raw e with
 |gd q v=>
  rw[hx]at hr hf;simp only[V.fine]at hf
  cases hr with
  |gd _ _ _ hv _=>exact hv (hf hp)
 |_=>rw[hx]at hr;exact hr
theorem RepV.c_inv {w:World}{g:G}{x:C}{v:Value}(h:RepV w g (.c x) v):RepC w g x v:=by cases h;assumption
theorem RepC.int_inv {w:World}{g:G}{k:IntKind}{n:Int}{v:Value}(h:RepC w g (.int k n) v):v=.int k n:=by cases h;rfl
theorem RepC.bool_inv {w:World}{g:G}{b:Bool}{v:Value}(h:RepC w g (.bool b) v):v=.bool b:=by cases h;rfl
theorem RepC.str_inv {w:World}{g:G}{s:List UInt8}{v:Value}(h:RepC w g (.str s) v):v=.string ⟨s.toArray⟩∧s.length≤LIM:=by cases h;exact⟨rfl,by assumption⟩
theorem RepC.pnil_inv {w:World}{g:G}{v:Value}(h:RepC w g .pnil v):v=.pointer none:=by cases h;rfl
theorem RepC.ptr_inv {w:World}{g:G}{x:C}{v:Value}(h:RepC w g x v)(hx:x.isPtr=true):∃b o,v=.pointer (some ⟨b,o,none⟩):=by
 cases h <;> simp[C.isPtr]at hx <;> exact⟨_,_,rfl⟩
theorem RepC.fn_inv {w:World}{g:G}{f:Nat}{caps:List C}{v:Value}(h:RepC w g (.fn f caps) v) :
  ∃vs:List Value,v=.func (.func f) #[] vs.toArray∧vs.length=caps.length∧∀(j:Nat) (c:C) (u:Value),caps[j]? = some c→vs[j]? = some u→RepC w g c u:=by
 cases h with
 |fn f caps vs hl hv=>exact⟨vs,rfl,hl,hv⟩
theorem RepV.tup_inv {w:World}{g:G}{xs:List V}{v:Value}(h:RepV w g (.tup xs) v) :
  ∃vs:List Value,v=.tuple vs.toArray∧vs.length=xs.length∧∀(j:Nat) (x:V) (u:Value),xs[j]? = some x→vs[j]? = some u→RepV w g x u:=by
 cases h with
 |tup xs vs hl hv=>exact⟨vs,rfl,hl,hv⟩
theorem RepV.ag_inv {w:World}{g:G}{cs:List C}{v:Value}(h:RepV w g (.ag cs) v) :
  ∃vs:List Value,v=.agg vs.toArray∧vs.length=cs.length∧∀(j:Nat) (x:C) (u:Value),cs[j]? = some x→vs[j]? = some u→RepC w g x u:=by
 cases h with
 |ag cs vs hl hv=>exact⟨vs,rfl,hl,hv⟩
theorem Qip {v:V}(h:v.isC):v=.c v.c1:=by cases v <;> simp_all[V.isC,V.c1]
end Go.AE
namespace Go.AE
variable {P:Program}{H:Heap}{g:G}{w:World}{e:Env}{a:Act}{o:Oper}{p:Bool}
def FOk (P:Program)(H:Heap)(g:G)(w:World)(e:Env)(a:Act)(o:Oper)(op:FOp):Prop:=
 ∃v w' g',(execOp a.eval o).run P w=.ok (.value v) w'∧Stp H g w H g' w'∧RepV w' g' (op.val e H) v∧op.fct e H
abbrev EnvOk (w:World)(g:G)(e:Env)(a:Act):Prop:=∀t,RepV w g (lk t e) (a.tmps.getD t undef)
theorem FOk.mk' {op:FOp}(hs:Sat H g w){v:Value}(h1:(execOp a.eval o).run P w=.ok (.value v) w)(h2:RepV w g (op.val e H) v)(h3:op.fct e H) :
  FOk P H g w e a o op:=⟨v,w,g,h1,.refl hs,h2,h3⟩
def mTag (P:Program)(tag:Nat)(t:TypeId):Bool:=
 match tag with
 |1=>(match P.underlying t with|some .bool=>true|_=>false)
 |2=>(match P.underlying t with|some (.pointer _)=>true|_=>false)
 |_=>true
theorem s_mv {x:Opd}{y:Operand}(hm:o.op=.move y∨o.op=.assign y)(hx:mO x y=true)(hs:Sat H g w)(he:EnvOk w g e a)(hp:p=true)
  (ho:(FOp.mv x).obl p e H):FOk P H g w e a o (.mv x):=by
 refine .mk' hs (v:=a.eval y) ?_ (Qay he hx hp ho) trivial;rcases hm with hm|hm <;> simp[execOp,hm]
theorem Qbsw {c x y:Opd}{c' x' y':Operand}(hm:o.op=.pick c' x' y')(hc:mO c c'=true)(hx:mO x x'=true)(hy:mO y y'=true)
  (hs:Sat H g w) (he:EnvOk w g e a) (hp:p=true) (ho:(FOp.pick c x y).obl p e H):FOk P H g w e a o (.pick c x y):=by
 simp only[FOp.obl]at ho;obtain⟨h1,h2⟩:=ho;have hr:=Qay he hc hp h1
 cases hv:c.v e with
 |c z=>
  cases z with
  |bool t=>
   rw[hv]at hr h2;simp only at h2;have hb:a.eval c'=.bool t:=hr.c_inv.bool_inv;refine .mk' hs (v:=if t then a.eval x' else a.eval y') (by simp[execOp,hm,hb,asBool]) ?_ trivial;simp only[FOp.val,hv];have gen:∀(u v:V) (s r:Value),(t=true→RepV w g u s)→(t=false→RepV w g v r)→RepV w g (Qbme t u v) (if t then s else r):=by
    intro u v s r hu hv;unfold Qbme;split
    ·cases t
     ·simpa using hv rfl
     ·simpa using hu rfl
    ·cases t
     ·simpa using hv rfl
     ·simpa using hu rfl
   refine gen _ _ _ _ (fun ht=>?_) (fun ht=>?_)
   ·exact Qay he hx (p:=p&&t) (by simp[hp,ht]) h2.1
   ·exact Qay he hy (p:=p&&!t) (by simp[hp,ht]) h2.2
  |_=>rw[hv]at h2;exact h2.elim
 |_=>rw[hv]at h2;exact h2.elim
theorem Q24 {k:IntKind}{n:Int}(h:inR k n):k.wrap n=n:=by
 unfold inR at h;cases k <;> simp[IntKind.min,IntKind.max,IntKind.signed,IntKind.bits]at h <;> simp[IntKind.wrap,IntKind.signed,IntKind.bits] <;> omega
theorem Qa0h (s:List UInt8):(⟨s.toArray⟩:ByteArray).toList=s:=by
 rw[ByteArray.toList_eq]
theorem Qa74 (s:List UInt8):(⟨s.toArray⟩:ByteArray).size=s.length:=by simp[ByteArray.size]
theorem Qx6:LIM=549755813888:=rfl
theorem Qar (op:BinOp)(t:TypeId)(x y:Operand)(u v:Value)(h:∀cs ds,¬(u=.agg cs∧v=.agg ds))(h':¬(u=.nilIface∧v=.nilIface))(w:World) :
  (eqGuard op t x y u v).run P w=.ok () w:=by
 unfold eqGuard;cases op <;> simp <;> (cases u <;> cases v <;> simp_all)
theorem Qarp {t:TypeId}(h:P.underlying t=some .bool)(d:Nat)(x y:Bool)(w:World):(Op.equalIn (d+1) t (.bool x) (.bool y)).run P w=.ok (x == y) w:=by
 simp[Op.equalIn,Qaz h]
theorem Qa0u {t pe:TypeId}(h:P.underlying t=some (.pointer pe))(d:Nat)(x:Addr)(w:World):(Op.equalIn (d+1) t (.pointer (some x)) (.pointer none)).run P w=.ok false w:=by
 simp[Op.equalIn,Qaz h]
theorem Qa0t {t pe:TypeId}(h:P.underlying t=some (.pointer pe))(d:Nat)(w:World):(Op.equalIn (d+1) t (.pointer none) (.pointer none)).run P w=.ok true w:=by
 simp[Op.equalIn,Qaz h]
theorem Q3b {t:TypeId}(h:P.underlying t=some .bool)(x y:Bool)(w:World):(Op.equal t (.bool x) (.bool y)).run P w=.ok (x == y) w:=Qarp h 9999 x y w
theorem Qaaq {t pe:TypeId}(h:P.underlying t=some (.pointer pe))(x:Addr)(w:World):(Op.equal t (.pointer (some x)) (.pointer none)).run P w=.ok false w:=Qa0u h 9999 x w
theorem Qaap {t pe:TypeId}(h:P.underlying t=some (.pointer pe))(w:World):(Op.equal t (.pointer none) (.pointer none)).run P w=.ok true w:=Qa0t h 9999 w
theorem Qbtt {tag:Nat}{bo:BinOp}{x y:Opd}{x' y':Operand}{t t':TypeId}(hm:o.op=.binOp bo t x' y' t')(ht:mTag P tag t=true)(hx:mO x x'=true)(hy:mO y y'=true)
  (hs:Sat H g w) (he:EnvOk w g e a) (hp:p=true) (ho:(FOp.bin tag bo x y).obl p e H):FOk P H g w e a o (.bin tag bo x y):=by
 simp only[FOp.obl]at ho;obtain⟨h1,h2,h3,h4,h5⟩:=ho;have hrx:=Qay he hx hp h1;have hry:=Qay he hy hp h2;rw[Qip h3]at hrx;rw[Qip h4]at hry;have hcx:=hrx.c_inv;have hcy:=hry.c_inv;have key:∀(u v:Value) (c d:C),RepC w g c u→RepC w g d v→binO tag bo c d→
   ∃r,(do eqGuard bo t x' y' u v;binOp bo t u v:Sem Value).run P w=.ok r w∧RepC w g (binC bo c d) r:=by
  intro u v c d hu hv hO;unfold binO at hO;split at hO
  case h_1=>
   obtain⟨rfl,hr⟩:=hO;rw[hu.int_inv,hv.int_inv];exact⟨_,by simp[Qar,binOp,Op.intArith];try rfl,by rw[Q24 hr];exact .int _ _⟩
  case h_2=>
   obtain⟨rfl,hr⟩:=hO;rw[hu.int_inv,hv.int_inv];exact⟨_,by simp[Qar,binOp,Op.intArith];try rfl,by rw[Q24 hr];exact .int _ _⟩
  case h_3=>
   obtain⟨rfl,hr⟩:=hO;rw[hu.int_inv,hv.int_inv];exact⟨_,by simp[Qar,binOp,Op.intArith];try rfl,by rw[Q24 hr];exact .int _ _⟩
  case h_4=>
   obtain⟨rfl,h0,hr⟩:=hO;rw[hu.int_inv,hv.int_inv];exact⟨_,by simp[Qar,binOp,Op.intDiv,h0];try rfl,by rw[Q24 hr];exact .int _ _⟩
  case h_5=>
   obtain⟨rfl,h0⟩:=hO;rw[hu.int_inv,hv.int_inv];exact⟨_,by simp[Qar,binOp,Op.intDiv,h0];try rfl,.int _ _⟩
  case h_6=>
   subst hO;rw[hu.int_inv,hv.int_inv];exact⟨_,by simp[Qar,binOp,Op.intBits];try rfl,.int _ _⟩
  case h_7=>
   subst hO;rw[hu.int_inv,hv.int_inv];exact⟨_,by simp[Qar,binOp,Op.intBits];try rfl,.int _ _⟩
  case h_8=>
   subst hO;rw[hu.int_inv,hv.int_inv];exact⟨_,by simp[Qar,binOp,Op.intBits];try rfl,.int _ _⟩
  case h_9=>
   subst hO;rw[hu.int_inv,hv.int_inv];exact⟨_,by simp[Qar,binOp,Op.intCmp];try rfl,.bool _⟩
  case h_10=>
   subst hO;rw[hu.int_inv,hv.int_inv];refine⟨.bool (!decide (_=_)),?_,.bool _⟩;simp[Qar,binOp,Op.intCmp,bne];rfl
  case h_11=>
   subst hO;rw[hu.int_inv,hv.int_inv];exact⟨_,by simp[Qar,binOp,Op.intCmp];try rfl,.bool _⟩
  case h_12=>
   subst hO;rw[hu.int_inv,hv.int_inv];exact⟨_,by simp[Qar,binOp,Op.intCmp];try rfl,.bool _⟩
  case h_13=>
   subst hO;rw[hu.int_inv,hv.int_inv];exact⟨_,by simp[Qar,binOp,Op.intCmp];try rfl,.bool _⟩
  case h_14=>
   subst hO;rw[hu.int_inv,hv.int_inv];exact⟨_,by simp[Qar,binOp,Op.intCmp];try rfl,.bool _⟩
  case h_15=>
   subst hO;rw[hu.bool_inv,hv.bool_inv];have hb:P.underlying t=some .bool:=by
    simp only[mTag]at ht;split at ht <;> simp_all
   exact⟨_,by simp only[Sem.run_bind,Qar _ _ _ _ (.bool _) (.bool _) (by simp) (by simp),Result.andThen_ok,binOp,Q3b hb];rfl,.bool _⟩
  case h_16=>
   subst hO;rw[hu.bool_inv,hv.bool_inv];have hb:P.underlying t=some .bool:=by
    simp only[mTag]at ht;split at ht <;> simp_all
   exact⟨_,by simp only[Sem.run_bind,Qar _ _ _ _ (.bool _) (.bool _) (by simp) (by simp),Result.andThen_ok,binOp,Q3b hb];rfl,.bool _⟩
  case h_17=>
   rename_i s s'
   rw[hu.str_inv.1,hv.str_inv.1];rw[Qx6]at hO;refine⟨.string (⟨s.toArray⟩++⟨s'.toArray⟩),?_,?_⟩
   ·simp only[Sem.run_bind,Qar _ _ _ _ (.string _) (.string _) (by simp) (by simp),Result.andThen_ok,binOp,Op.stringOp,Qa74];rw[if_neg (by simp[IntKind.max,IntKind.signed,IntKind.bits];omega)];rfl
   ·have:(⟨s.toArray⟩++⟨s'.toArray⟩:ByteArray)=⟨(s++s').toArray⟩:=by
     apply Ja2;simp
    rw[this];exact .str _ (by simp[Qx6];omega)
  case h_18=>
   rw[hu.str_inv.1,hv.str_inv.1];refine⟨_,by simp only[Sem.run_bind,Qar _ _ _ _ (.string _) (.string _) (by simp) (by simp),Result.andThen_ok,binOp,Op.stringOp,Qa0h];rfl,?_⟩
   rename_i s s'
   rw[show (s == s')=decide (s=s') from by rw[Jbc];simp];exact .bool _
  case h_19=>
   rw[hu.str_inv.1,hv.str_inv.1];refine⟨_,by simp only[Sem.run_bind,Qar _ _ _ _ (.string _) (.string _) (by simp) (by simp),Result.andThen_ok,binOp,Op.stringOp,Qa0h];rfl,?_⟩
   rename_i s s'
   rw[show (s == s')=decide (s=s') from by rw[Jbc];simp];exact .bool _
  case h_20=>
   obtain⟨rfl,hO⟩:=hO;rw[hv.pnil_inv];obtain⟨pe,hb⟩:∃pe,P.underlying t=some (.pointer pe):=by
    simp only[mTag]at ht;split at ht <;> simp_all
   rcases hO with hO|rfl
   ·obtain⟨b,of,rfl⟩:=hu.ptr_inv hO;refine⟨_,by simp only[Sem.run_bind,Qar _ _ _ _ (.pointer _) (.pointer _) (by simp) (by simp),Result.andThen_ok,binOp,Qaaq hb];rfl,?_⟩;cases c <;> simp[C.isPtr]at hO <;> exact .bool _
   ·rw[hu.pnil_inv];exact⟨_,by simp only[Sem.run_bind,Qar _ _ _ _ (.pointer _) (.pointer _) (by simp) (by simp),Result.andThen_ok,binOp,Qaap hb];rfl,.bool _⟩
  case h_21=>
   obtain⟨rfl,hO⟩:=hO;rw[hv.pnil_inv];obtain⟨pe,hb⟩:∃pe,P.underlying t=some (.pointer pe):=by
    simp only[mTag]at ht;split at ht <;> simp_all
   rcases hO with hO|rfl
   ·obtain⟨b,of,rfl⟩:=hu.ptr_inv hO;refine⟨_,by simp only[Sem.run_bind,Qar _ _ _ _ (.pointer _) (.pointer _) (by simp) (by simp),Result.andThen_ok,binOp,Qaaq hb];rfl,?_⟩;cases c <;> simp[C.isPtr]at hO <;> exact .bool _
   ·rw[hu.pnil_inv];exact⟨_,by simp only[Sem.run_bind,Qar _ _ _ _ (.pointer _) (.pointer _) (by simp) (by simp),Result.andThen_ok,binOp,Qaap hb];rfl,.bool _⟩
  case h_22=>exact hO.elim
 obtain⟨r,hr1,hr2⟩:=key _ _ _ _ hcx hcy h5;refine .mk' hs (v:=r) ?_ ?_ trivial
 ·simp only[execOp,hm,Sem.run_bind]at hr1⊢;simp only[hr1];rfl
 ·exact .c _ _ hr2
theorem Qbua {x:Opd}{x':Operand}{t:TypeId}(hm:o.op=.unOp .not t x')(hx:mO x x'=true)(hs:Sat H g w)(he:EnvOk w g e a)(hp:p=true)
  (ho:(FOp.not x).obl p e H):FOk P H g w e a o (.not x):=by
 simp only[FOp.obl]at ho;obtain⟨h1,h2⟩:=ho;have hr:=Qay he hx hp h1;split at h2
 ·rename_i b hv
  rw[hv]at hr;have hb:=hr.c_inv.bool_inv;refine .mk' hs (v:=.bool (!b)) (by simp[execOp,hm,hb,Op.unary]) ?_ trivial;simp only[FOp.val,hv];exact .c _ _ (.bool _)
 ·exact h2.elim
theorem Qa8k {α:Type}(l:List α)(i j:Nat):(l.drop i)[j]? = l[i+j]?:=by simp[Jq]
theorem Qbtz {off:Nat}{x:Opd}{x':Operand}{s:TypeId}{k:Nat}{fs:Array Field}{f:Field}{i:TypeInfo}(hm:o.op=.fieldAddr s x' k)(hu:P.underlying s=some (.struct fs))
  (hf:fs[k]? = some f) (hoff:f.offset=off) (hi:P.info? f.type=some i) (hz:i.size≠0) (hx:mO x x'=true)
  (hs:Sat H g w) (he:EnvOk w g e a) (hp:p=true) (ho:(FOp.fad off x).obl p e H):FOk P H g w e a o (.fad off x):=by
 simp only[FOp.obl]at ho;obtain⟨h1,h2⟩:=ho;have hr:=Qay he hx hp h1;have run:∀b q,a.eval x'=.pointer (some ⟨b,q,none⟩)→(execOp a.eval o).run P w=.ok (.value (.pointer (some ⟨b,q+off,none⟩))) w:=by
  intro b q hq;simp[execOp,hm,hq,Instr.fieldAt,Qaz hu,hf,Instr.sureAddr,fieldPlace,Qbi hi,hz,Qb2,hoff]
 generalize hq:a.eval x'=vv at hr;split at h2
 ·rename_i cells hv
  rw[hv]at hr
  cases hr.c_inv with
  |pp _ b q val hper hc hvv=>
   refine .mk' hs (run b q hq) ?_ trivial;simp only[FOp.val,hv,V.c1,fadC];refine .c _ _ (.pp _ b (q+off) (fun j=>val (off+j)) hper (fun j c hj=>?_) (fun j c hj=>?_))
   ·rw[Qa8k]at hj;rw[Jao];exact hc _ _ hj
   ·rw[Qa8k]at hj;exact hvv _ _ hj
 ·rename_i l kk hv
  rw[hv]at hr
  cases hr.c_inv with
  |ptr _ _ b sz base hio=>
   refine .mk' hs (run b _ hq) ?_ trivial;simp only[FOp.val,hv,V.c1,fadC];rw[Jao];exact .c _ _ (.ptr _ _ b sz base hio)
 ·rename_i sl sz ii kk hv
  rw[hv]at hr
  cases hr.c_inv with
  |ep _ _ _ _ b q n cap hsl hz' hin=>
   refine .mk' hs (run b _ hq) ?_ trivial;simp only[FOp.val,hv,V.c1,fadC];rw[Jao];exact .c _ _ (.ep _ _ _ _ b q n cap hsl hz' hin)
 ·exact h2.elim
theorem Qbkw {v:V}(h:Qt0 v):v=.c (.int .i64 (Q9 v)):=by
 unfold Qt0 at h;split at h
 ·subst h;rfl
 ·exact h.elim
theorem Qbky {v:V}(h:Qbkx v):∃k,v=.c (.int k (Q9 v)):=by
 unfold Qbkx at h;split at h
 ·exact⟨_,rfl⟩
 ·exact h.elim
theorem Qkb {x:Opd}{y:Operand}(he:EnvOk w g e a)(h:mO x y=true)(hp:p=true)(hf:x.fine p e)(hi:Qt0 (x.v e)) :
  a.eval y=.int .i64 (Q9 (x.v e)):=by
 have hr:=Qay he h hp hf;rw[Qbkw hi]at hr;exact hr.c_inv.int_inv
theorem Qbt2 {sz:Nat}{x y:Opd}{x' y':Operand}{t el:TypeId}{i:TypeInfo}(hm:o.op=.indexAddr t x' y')(hu:P.underlying t=some (.slice el))
  (hi:P.info? el=some i) (hz:i.size=sz) (hx:mO x x'=true) (hy:mO y y'=true)
  (hs:Sat H g w) (he:EnvOk w g e a) (hp:p=true) (ho:(FOp.iad sz x y).obl p e H):FOk P H g w e a o (.iad sz x y):=by
 simp only[FOp.obl]at ho;obtain⟨h1,h2,h3,h4,h5,h6,h7,h8⟩:=ho;have hr:=Qay he hx hp h1;have hn:=Qkb he hy hp h2 h6;rw[Qip h3]at hr;obtain⟨b0,cap,hv,r1,r2,r3,r4⟩:=Qty hs hr.c_inv h4;obtain⟨b,off,rfl,r5⟩:=r4 (by omega);refine .mk' hs (v:=.pointer (some ⟨b,off+(Q9 (y.v e)).toNat * sz+0,none⟩)) ?_ ?_ trivial
 ·simp only[execOp,hm,hv,hn,Instr.indexAt,Sem.run_bind,asIntOf,Sem.run_pure,Result.andThen_ok,Qaz hu];rw[if_pos ⟨h7,by omega⟩];simp[Qbi hi,hz,Qb2]
 ·simp only[FOp.val];refine .c _ _ (.ep _ _ _ _ b off (lenC (x.v e).c1) cap ?_ h5 h8);rw[←hv];exact hr.c_inv
theorem Qbe1 (f:Nat→Value)(n j:Nat)(u:Value)(h:(((List.range n).map f))[j]? = some u):j<n∧u=f j:=by
 simp only[Jh]at h
 cases hj:(List.range n)[j]? with
 |none=>rw[hj]at h;simp at h
 |some m=>
  rw[hj]at h;rw[Jam]at hj;obtain⟨h1,h2⟩:=hj;simp only[List.getElem_range]at h2;subst h2;simp only[Ja7]at h1;simp at h;exact⟨h1,h.symm⟩
theorem Qbgx {cs:List C}(h:noOw cs=true){j:Nat}{c:C}(hj:cs[j]? = some c):c.isOw=false:=by
 unfold noOw at h;rw[J7]at h;have:=h c (Jm hj);simpa using this
theorem Qazq {n:Nat}{agg:Bool}{x:Opd}{x':Operand}{t:TypeId}{d:TypeDesc}{i:TypeInfo}(hm:o.op=.load t x')(hu:P.underlying t=some d)(hi:P.info? t=some i)
  (ha:Qio d=agg) (hn:agg=true→i.size=n) (hn1:agg=false→n=1) (hx:mO x x'=true)
  (hs:Sat H g w) (he:EnvOk w g e a) (hp:p=true) (ho:(FOp.ld n agg x).obl p e H):∃v,(execOp a.eval o).run P w=.ok (.value v) w∧RepV w g ((FOp.ld n agg x).val e H) v:=by
 simp only[FOp.obl]at ho;obtain⟨h1,h2,h3,h4,h5⟩:=ho;have hr:=Qay he hx hp h1;rw[Qip h2]at hr;obtain⟨b,q,hv,hc⟩:=Qak9 hs hr.c_inv h3;have hcell:∀j,j<n→∃c,(Qih H (x.v e).c1)[j]? = some c∧w.cell? ⟨b,q+j,none⟩=some (getV w b q j)∧RepC w g c (getV w b q j):=by
  intro j hj;have hj':j<(Qih H (x.v e).c1).length:=by omega
  have hg:(Qih H (x.v e).c1)[j]? = some (Qih H (x.v e).c1)[j]:=Jd hj';have hw:((Qih H (x.v e).c1)[j]).isOw=false:=Qbgx h5 (j:=j) (by rw[Jn,if_pos hj];exact hg);obtain⟨u,e1,e2⟩:=hc j _ hg hw;refine⟨_,hg,?_,?_⟩
  ·rw[getV,e1];rfl
  ·rw[getV,e1];exact e2
 have hrun:=Qas8 (t:=t) hu hi w b q n (getV w b q) (fun h=>hn (ha▸h)) (fun h=>hn1 (ha▸h)) (fun j hj=>(hcell j hj).choose_spec.2.1);refine⟨if Qio d then .agg ((List.range n).map (getV w b q)).toArray else getV w b q 0,?_,?_⟩
 ·simp only[execOp,hm,hv,Instr.loadAt,Instr.sureAddr,Sem.run_bind,Sem.run_pure,Result.andThen_ok,hrun]
 ·simp only[FOp.val,Qbau];rw[ha]
  cases agg with
  |true=>
   simp only[if_true];refine .ag _ _ (by simp;omega) fun j c u hj hu'=>?_;obtain⟨hjn,rfl⟩:=Qbe1 _ _ _ _ hu';obtain⟨c',e1,e2,e3⟩:=hcell j hjn;rw[Jn,if_pos hjn,e1]at hj;simp at hj;subst hj;exact e3
  |false=>
   have hn1':=hn1 rfl;subst hn1';obtain⟨c',e1,e2,e3⟩:=hcell 0 (by omega);simp only[Jal,if_false];have:((Qih H (x.v e).c1).take 1).headD .unk=c':=by
    cases hb:Qih H (x.v e).c1 with
    |nil=>rw[hb]at e1;simp at e1
    |cons c r=>rw[hb]at e1;simp at e1;simp[e1]
   rw[this];exact .c _ _ e3
theorem s_ld {n:Nat}{agg:Bool}{x:Opd}{x':Operand}{t:TypeId}{d:TypeDesc}{i:TypeInfo}(hm:o.op=.load t x')(hu:P.underlying t=some d)(hi:P.info? t=some i)
  (ha:Qio d=agg) (hn:agg=true→i.size=n) (hn1:agg=false→n=1) (hx:mO x x'=true)
  (hs:Sat H g w) (he:EnvOk w g e a) (hp:p=true) (ho:(FOp.ld n agg x).obl p e H):FOk P H g w e a o (.ld n agg x):=by
 obtain⟨v,h1,h2⟩:=Qazq hm hu hi ha hn hn1 hx hs he hp ho;exact .mk' hs h1 h2 trivial
theorem Qbt9 {x:Opd}{x':Operand}(hm:o.op=.nilCheck x')(hx:mO x x'=true)
  (hs:Sat H g w) (he:EnvOk w g e a) (hp:p=true) (ho:(FOp.nck x).obl p e H):FOk P H g w e a o (.nck x):=by
 simp only[FOp.obl]at ho;obtain⟨h1,h2⟩:=ho;have hr:=Qay he hx hp h1;have hptr:(x.v e).isC→(x.v e).c1.isPtr=true→FOk P H g w e a o (.nck x):=by
  intro hc hq;have hr':=hr;rw[Qip hc]at hr';obtain⟨b,q,hv⟩:=hr'.c_inv.ptr_inv hq;exact .mk' hs (v:=a.eval x') (by simp[execOp,hm,hv]) hr trivial
 split at h2
 ·rename_i hv;exact hptr (by rw[hv];trivial) (by rw[hv];rfl)
 ·rename_i hv;exact hptr (by rw[hv];trivial) (by rw[hv];rfl)
 ·rename_i hv;exact hptr (by rw[hv];trivial) (by rw[hv];rfl)
 ·rename_i hv
  have hr':=hr;rw[hv]at hr';obtain⟨vs,hq,_⟩:=hr'.c_inv.fn_inv;exact .mk' hs (v:=a.eval x') (by simp[execOp,hm,hq]) hr trivial
 ·exact h2.elim
theorem Qbt7 {x:Opd}{x':Operand}{t el:TypeId}{ats:Array TypeId}(hm:o.op=.call { callee:=.builtin .len,args:=#[x'],argTypes:=ats })(hat:ats[0]? = some t)
  (hu:P.underlying t=some (.slice el)) (hx:mO x x'=true)
  (hs:Sat H g w) (he:EnvOk w g e a) (hp:p=true) (ho:(FOp.len x).obl p e H):FOk P H g w e a o (.len x):=by
 simp only[FOp.obl]at ho;obtain⟨h1,h2,h3⟩:=ho;have hr:=Qay he hx hp h1;rw[Qip h2]at hr;obtain⟨b0,cap,hv,r1,r2,r3,r4⟩:=Qty hs hr.c_inv h3;refine .mk' hs (v:=.int .i64 (lenC (x.v e).c1)) ?_ (.c _ _ (.int _ _)) r1;simp[execOp,hm,resolve,invoke,builtin,Builtin.len_,hat,hv,Qaz hu,goInt]
theorem Qbsv {x:Opd}{x':Operand}{t:TypeId}{ats:Array TypeId}(hm:o.op=.call { callee:=.builtin .len,args:=#[x'],argTypes:=ats })(hat:ats[0]? = some t)
  (hu:P.underlying t=some .string) (hx:mO x x'=true)
  (hs:Sat H g w) (he:EnvOk w g e a) (hp:p=true) (ho:(FOp.lens x).obl p e H):FOk P H g w e a o (.lens x):=by
 simp only[FOp.obl]at ho;obtain⟨h1,h2⟩:=ho;have hr:=Qay he hx hp h1;split at h2
 ·rename_i s hv
  rw[hv]at hr;obtain⟨hq,hl⟩:=hr.c_inv.str_inv;refine .mk' hs (v:=.int .i64 s.length) ?_ (by simp only[FOp.val,hv];exact .c _ _ (.int _ _)) (by simp only[FOp.fct,hv];exact hl);simp[execOp,hm,resolve,invoke,builtin,Builtin.len_,hat,hq,Qaz hu,goInt,Qa74]
 ·exact h2.elim
theorem map_rep (hs:Sat H g w){c:C}{v:Value}(h:RepC w g c v)(ho:Qbba H c) :
  (v=.map none∧Qcd H c=[])∨∃b ms clock,v=.map (some b)∧w.heap[b]? = some (.map ms clock)∧ms.size=(Qcd H c).length∧(Qcd H c).length≤LIM∧
   ∀(i:Nat) (x:C×V) (m:MapEntry),(Qcd H c)[i]? = some x→ms[i]? = some m→RepE w g x m:=by
 cases h with
 |mp l b hio=>
  simp only[Qbba]at ho;split at ho
  ·rename_i n es hH
   have hob:=hs.objs l;rw[hH]at hob;obtain⟨b',ms,clock,k1,k2,k3,k4,k5,k6,_⟩:=hob;rw[hio]at k1;simp only[Je,Ju,and_true]at k1;subst k1;simp only[Qcd,hH];exact .inr ⟨b,ms,clock,rfl,k3,k4,k5,k6⟩
  ·exact ho.elim
 |mnil=>exact .inl ⟨rfl,rfl⟩
 |_=>simp[Qbba]at ho
theorem Qbty {x:Opd}{x':Operand}{i:Nat}(hm:o.op=.extract x' i)(hx:mO x x'=true)
  (hs:Sat H g w) (he:EnvOk w g e a) (hp:p=true) (ho:(FOp.ext x i).obl p e H):FOk P H g w e a o (.ext x i):=by
 simp only[FOp.obl]at ho;obtain⟨h1,h2⟩:=ho;have hr:=Qay he hx hp h1;split at h2
 ·rename_i xs hv
  rw[hv]at hr;obtain⟨vs,hq,hl,hh⟩:=hr.tup_inv;have hi:i<vs.length:=by omega
  refine .mk' hs (v:=vs[i]) ?_ ?_ trivial
  ·simp[execOp,hm,Instr.extract,hq,hi]
  ·simp only[FOp.val,hv];refine hh i _ _ ?_ (Jd hi);rw[J2,Jd h2];rfl
 ·exact h2.elim
theorem Qbtx {x:Opd}{x':Operand}{k:IntKind}{src dst:TypeId}{d:TypeDesc}(hm:o.op=.convert src dst x')(hu:P.underlying dst=some (.int k))(hu':P.underlying src=some d)(hx:mO x x'=true)
  (hs:Sat H g w) (he:EnvOk w g e a) (hp:p=true) (ho:(FOp.cvt k x).obl p e H):FOk P H g w e a o (.cvt k x):=by
 simp only[FOp.obl]at ho;obtain⟨h1,h2,h3⟩:=ho;have hr:=Qay he hx hp h1;obtain⟨k',hk⟩:=Qbky h2;rw[hk]at hr;have hq:=hr.c_inv.int_inv;refine .mk' hs (v:=.int k (Q9 (x.v e))) ?_ (.c _ _ (.int _ _)) trivial;simp[execOp,hm,hq,convert,Qaz hu,Qaz hu',Conv.intToInt,Q24 h3]
theorem s_mx {x y:Opd}{x' y':Operand}{ats:Array TypeId}(hm:o.op=.call { callee:=.builtin .max,args:=#[x',y'],argTypes:=ats })(hx:mO x x'=true)(hy:mO y y'=true)
  (hs:Sat H g w) (he:EnvOk w g e a) (hp:p=true) (ho:(FOp.mx x y).obl p e H):FOk P H g w e a o (.mx x y):=by
 simp only[FOp.obl]at ho;obtain⟨h1,h2,h3,h4⟩:=ho;have q1:=Qkb he hx hp h1 h3;have q2:=Qkb he hy hp h2 h4;refine .mk' hs (v:=.int .i64 (if Q9 (y.v e) > Q9 (x.v e)then Q9 (y.v e)else Q9 (x.v e))) ?_ (.c _ _ (.int _ _)) trivial;simp[execOp,hm,resolve,invoke,builtin,Builtin.max_,q1,q2,Builtin.max2]
theorem s_mn {x y:Opd}{x' y':Operand}{ats:Array TypeId}(hm:o.op=.call { callee:=.builtin .min,args:=#[x',y'],argTypes:=ats })(hx:mO x x'=true)(hy:mO y y'=true)
  (hs:Sat H g w) (he:EnvOk w g e a) (hp:p=true) (ho:(FOp.mn x y).obl p e H):FOk P H g w e a o (.mn x y):=by
 simp only[FOp.obl]at ho;obtain⟨h1,h2,h3,h4⟩:=ho;have q1:=Qkb he hx hp h1 h3;have q2:=Qkb he hy hp h2 h4;refine .mk' hs (v:=.int .i64 (if Q9 (y.v e)<Q9 (x.v e)then Q9 (y.v e)else Q9 (x.v e))) ?_ (.c _ _ (.int _ _)) trivial;simp[execOp,hm,resolve,invoke,builtin,Builtin.min_,q1,q2,Builtin.min2]
theorem Qbt4 {x y:Opd}{x' y':Operand}{t:TypeId}(hm:o.op=.index t x' y')(hu:P.underlying t=some .string)(hx:mO x x'=true)(hy:mO y y'=true)
  (hs:Sat H g w) (he:EnvOk w g e a) (hp:p=true) (ho:(FOp.idx x y).obl p e H):FOk P H g w e a o (.idx x y):=by
 simp only[FOp.obl]at ho;obtain⟨h1,h2,h3,h4⟩:=ho;have hr:=Qay he hx hp h1;have q2:=Qkb he hy hp h2 h3;split at h4
 ·rename_i s hv
  rw[hv]at hr;obtain⟨hq,hl⟩:=hr.c_inv.str_inv;refine .mk' hs (v:=.int .u8 ((s.getD (Q9 (y.v e)).toNat 0).toNat)) ?_ (by simp only[FOp.val,hv];exact .c _ _ (.int _ _)) trivial;have hb:(⟨s.toArray⟩:ByteArray)[(Q9 (y.v e)).toNat]? = some (s.getD (Q9 (y.v e)).toNat 0):=by
   rw[getElem?_pos _ _ (by simpa[ByteArray.size]using h4.2)];rw[J2,Jd h4.2];rfl
  simp only[execOp,hm,hq,q2,Instr.index,Sem.run_bind,asIntOf,Sem.run_pure,Result.andThen_ok,Qaz hu,if_pos h4.1,hb]
 ·exact h4.elim
def Q0z (g:G)(w:World)(g':G)(w':World)(l:Nat):Prop:=
 ∀b q,g.own b=some (l,q)→g'.own b=some (l,q)∧w'.heap[b]? = w.heap[b]?
theorem RepE.mono {g':G}{w':World}(hle:Le g w g' w'){x:C×V}{m:MapEntry}(h:RepE w g x m):RepE w' g' x m:=⟨h.1.mono hle,h.2.mono hle⟩
theorem SatObj.keep {H':Heap}{g':G}{w':World}(hs:Sat H g w)(hle:Le g w g' w'){l:Nat}(hk:Q0z g w g' w' l)(hH:H' l=H l)
  (hit:∀m v left cur,H l=.iter (some (m,v)) left cur→∀v' es,H' m=.map v' es→(H m=.map v' es∧Q0z g w g' w' m)∨∃v0 es0,H m=.map v0 es0∧v0<v') :
  SatObj H' g' w' l (H' l):=by
 have ho:=hs.objs l;rw[hH]
 cases hc:H l with
 |none=>exact trivial
 |st cells=>
  rw[hc]at ho;obtain⟨b,sz,T,cs,h1,h2,h3,h4,h5⟩:=ho;have k0:=hk b [] h2;refine⟨b,sz,T,cs,hle.io _ _ h1,k0.1,k0.2.trans h3,h4,fun k c v e1 e2=>?_⟩;exact (h5 k c v e1 e2).move hle fun q b' hb=>hk b' _ hb
 |vec sz rows=>
  rw[hc]at ho;rcases ho with ⟨q1,x,q2,q3⟩|⟨b,base,T,cs,val,h1,h2,h3,h4,h5,h6,h7,h8⟩
  ·exact .inl ⟨q1,x,hle.io _ _ q2,q3⟩
  have k0:=hk b [] h2;refine .inr ⟨b,base,T,cs,val,hle.io _ _ h1,k0.1,k0.2.trans h3,h4,h5,h6,h7,fun i row j c e1 e2=>?_⟩;exact (h8 i row j c e1 e2).move hle fun q b' hb=>hk b' _ hb
 |map v es=>
  rw[hc]at ho;obtain⟨b,ms,clock,h1,h2,h3,h4,h5,h6,h7,h8⟩:=ho;have k0:=hk b [] h2;exact⟨b,ms,clock,hle.io _ _ h1,k0.1,k0.2.trans h3,h4,h5,fun i x m e1 e2=>(h6 i x m e1 e2).mono hle,h7,h8⟩
 |gl b cells=>
  rw[hc]at ho;obtain⟨sz,val,h1,h2,h3,h4⟩:=ho;refine⟨sz,val,hle.io _ _ h1,(hle.per b h2).1,fun j c e=>?_,fun j c e=>(h4 j c e).mono hle⟩;rw[Qjb (w:=w) (hle.per b h2).2];exact h3 j c e
 |iter m left cur=>
  rw[hc]at ho
  cases m with
  |none=>
   obtain⟨b,si,se,la,h1,h2,h3,h4⟩:=ho;have k0:=hk b [] h2;exact⟨b,si,se,la,hle.io _ _ h1,k0.1,k0.2.trans h3,h4⟩
  |some mv=>
   obtain⟨m,ver⟩:=mv;obtain⟨b,mb,si,se,h1,h2,h3,h4,h5⟩:=ho;have k0:=hk b [] h2;refine⟨b,mb,si,se,hle.io _ _ h1,k0.1,k0.2.trans h3,hle.io _ _ h4,fun v es hv=>?_⟩;rcases hit m ver left cur hc v es hv with ⟨a1,a2⟩|⟨v0,es0,a1,a2⟩
   ·obtain⟨b1,b2⟩:=h5 v es a1;refine⟨b1,fun hvv=>?_⟩;obtain⟨ms,c1,c2⟩:=b2 hvv;refine⟨ms,?_,c2⟩;have hm:=hs.objs m;rw[a1]at hm;obtain⟨mb',ms',clock,d1,d2,d3,_⟩:=hm;rw[h4]at d1;simp only[Je,Ju,and_true]at d1;subst d1;rw[(a2 mb [] d2).2];exact c1
   ·obtain⟨b1,b2⟩:=h5 v0 es0 a1;exact⟨by omega,fun hvv=>by omega⟩
theorem SatObj.keep_all {g':G}{w':World}(hs:Sat H g w)(hle:Le g w g' w')(hk:∀l,Q0z g w g' w' l)(l:Nat):SatObj H g' w' l (H l):=
 SatObj.keep (H':=H) hs hle (hk l) rfl fun m v left cur _ v' es hv=>.inl ⟨hv,hk m⟩
theorem Qalm (hs:Sat H g w){b:Nat}{x:Nat×List Nat}(h:g.own b=some x):b<w.heap.size:=by
 rcases Ji b w.heap.size with h'|h'
 ·exact h'
 ·rw[(hs.fresh b h').2]at h;simp at h
theorem Qbg0 (hs:Sat H g w){b:Nat}(h:g.per b=true):b<w.heap.size:=by
 rcases Ji b w.heap.size with h'|h'
 ·exact h'
 ·rw[(hs.fresh b h').1]at h;simp at h
theorem Qfj (w:World)(x:Go.Obj){b:Nat}(h:b<w.heap.size):(w.alloc x).heap[b]? = w.heap[b]?:=by
 simp only[World.alloc,Jay];rw[if_neg (by omega)]
theorem Qc6 (w:World)(x:Go.Obj):(w.alloc x).heap[w.heap.size]? = some x:=by
 simp only[World.alloc,Jay,if_true]
theorem Qaq2 {w:World}{b:Nat}{T:TypeId}{n:Nat}(h:w.shape? b=some (T,n)):b<w.heap.size:=by
 unfold World.shape? at h;rcases Ji b w.heap.size with h'|h'
 ·exact h'
 ·simp[Js h']at h
theorem Qfh {w w':World}{b:Nat}(h:w'.heap[b]? = w.heap[b]?):w'.shape? b=w.shape? b:=by simp only[World.shape?,h]
def G.newPer (g:G)(nb:Nat):G:={ g with per:=fun b=>if b=nb then true else g.per b }
theorem Qame (hs:Sat H g w)(x:Go.Obj):Stp H g w H (g.newPer w.heap.size) (w.alloc x):=by
 have hle:Le g w (g.newPer w.heap.size) (w.alloc x):=by
  refine⟨fun b hb=>⟨?_,Qfj _ _ (Qbg0 hs hb)⟩,fun _ _ h=>h,by simp,fun b T n hn=>?_,rfl,rfl,rfl⟩
  ·simp only[G.newPer];split
   ·rfl
   ·exact hb
  ·rw[Qfh (Qfj _ _ (Qaq2 hn))];exact hn
 have hk:∀l,Q0z g w (g.newPer w.heap.size) (w.alloc x) l:=fun l b q hb=>⟨hb,Qfj _ _ (Qalm hs hb)⟩;refine⟨hle,fun l _ hn=>⟨hn,fun b q hb=>hk l b q hb⟩,⟨fun b hb=>?_,hs.names,fun b y hb=>?_,hs.named,fun l=>SatObj.keep_all hs hle hk l⟩⟩
 ·simp only[World.size_alloc]at hb;refine⟨?_,(hs.fresh b (by omega)).2⟩;simp only[G.newPer];rw[if_neg (by omega)];exact (hs.fresh b (by omega)).1
 ·have hb':g.own b=some y:=hb;simp only[G.newPer];have:=Qalm hs hb';rw[if_neg (by omega)];exact hs.excl b y hb'
theorem Qbnw (hs:Sat H g w):Stp H g w H g w.drew:=by
 have hle:Le g w g w.drew:=⟨fun _ h=>⟨h,rfl⟩,fun _ _ h=>h,Jx _,fun _ _ _ h=>h,rfl,rfl,rfl⟩;have hk:∀l,Q0z g w g w.drew l:=fun l b q hb=>⟨hb,rfl⟩;exact⟨hle,fun l _ hn=>⟨hn,fun b q hb=>hk l b q hb⟩,⟨hs.fresh,hs.names,hs.excl,hs.named,fun l=>SatObj.keep_all hs hle hk l⟩⟩
theorem Qaal (w:World)(cs:Array Value)(T:TypeId)(j:Nat):(w.alloc (.cells cs T)).cell? ⟨w.heap.size,j,none⟩=cs[j]?:=
 World.cell?_alloc_new w cs T j
theorem Q9o {v:V}{u:Value}(h:RepV w g v u)(hn:v.cells≠[]) :
  u.cells.size=v.cells.length∧∀(j:Nat) (c:C) (x:Value),v.cells[j]? = some c→u.cells[j]? = some x→RepC w g c x:=by
 cases h with
 |c x v h=>
  have h1:=h.one;have hu:u.cells=#[u]:=by cases u <;> simp_all[Value.cells,Value.oneCell']
  rw[hu];refine⟨rfl,fun j c y e1 e2=>?_⟩
  cases j with
  |zero=>simp[V.cells]at e1 e2;subst e1;subst e2;exact h
  |succ j=>simp[V.cells]at e1
 |ag cs vs hl hh=>
  refine⟨by simpa[Value.cells,V.cells]using hl,fun j c y e1 e2=>hh j c y e1 (by simpa[Value.cells]using e2)⟩
 |_=>simp[V.cells]at hn
theorem Qbtv {x:Opd}{x':Operand}{t:TypeId}(hm:o.op=.box t x')(hx:mO x x'=true)
  (hs:Sat H g w) (he:EnvOk w g e a) (hp:p=true) (ho:(FOp.box x).obl p e H):FOk P H g w e a o (.box x):=by
 simp only[FOp.obl]at ho;obtain⟨h1,h2⟩:=ho;have hr:=Qay he hx hp h1;obtain⟨hz,hc⟩:=Q9o hr h2;have hst:=Qame hs (.cells (a.eval x').cells t);refine⟨.pointer (some ⟨w.heap.size,0,none⟩),w.alloc (.cells (a.eval x').cells t),g.newPer w.heap.size,?_,hst,?_,trivial⟩
 ·simp[execOp,hm,Instr.box,newVar,newRow]
 ·simp only[FOp.val];have hget:∀(j:Nat) (c:C),(x.v e).cells[j]? = some c→∃y,(a.eval x').cells[j]? = some y∧RepC w g c y:=by
   intro j c hj;have hlt:j<(a.eval x').cells.size:=by
    rw[hz];rcases Ji j (x.v e).cells.length with h|h
    ·exact h
    ·rw[Jf h]at hj;simp at hj
   exact⟨_,Jc hlt,hc j c _ hj (Jc hlt)⟩
  refine .c _ _ (.pp _ _ 0 (fun j=>(a.eval x').cells.getD j undef) (by simp[G.newPer]) (fun j c hj=>?_) (fun j c hj=>?_))
  ·obtain⟨y,e1,e2⟩:=hget j c hj;rw[J5,Qaal];simp[e1]
  ·obtain⟨y,e1,e2⟩:=hget j c hj;simp only[Jb,e1,J9];exact e2.mono hst.le
theorem Qbt8 {f:Nat}{caps:List Opd}{caps':Array Operand}(hm:o.op=.makeFunc (.func f) #[] caps')(hl:caps.length=caps'.size)
  (hx:∀(j:Nat) (x:Opd) (y:Operand),caps[j]? = some x→caps'[j]? = some y→mO x y=true)
  (hs:Sat H g w) (he:EnvOk w g e a) (hp:p=true) (ho:(FOp.mkf f caps).obl p e H):FOk P H g w e a o (.mkf f caps):=by
 simp only[FOp.obl]at ho;refine .mk' hs (v:=.func (.func f) #[] (caps'.toList.map a.eval).toArray) ?_ ?_ trivial
 ·simp only[execOp,hm,Instr.makeFunc,Sem.run_bind,Sem.run_pure,Result.andThen_ok];congr 4 <;> (apply Jae;simp)
 ·simp only[FOp.val];refine .c _ _ (.fn f _ _ (by simp[hl]) fun j c u h1 h2=>?_);simp only[Jh]at h1 h2
  cases hj:caps[j]? with
  |none=>rw[hj]at h1;simp at h1
  |some x=>
   rw[hj]at h1;simp at h1;subst h1
   cases hj':caps'[j]? with
   |none=>simp[hj']at h2
   |some y=>
    simp[hj']at h2;subst h2;obtain⟨f1,f2⟩:=ho x (Jm hj);have:=Qay he (hx j x y hj hj') hp f1;rw[Qip f2]at this;exact this.c_inv
def mOpt:Option Opd→Option Operand→Bool
 |none,none=>true
 |some x,some y=>mO x y
 |_,_=>false
theorem Qaam (he:EnvOk w g e a)(hp:p=true){x:Option Opd}{y:Option Operand}(h:mOpt x y=true)(hf:optF p x e)(hi:optI x e) :
  y.map a.eval=(x.map fun z=>Q9 (z.v e)).map fun n=>Value.int .i64 n:=by
 cases x with
 |none=>cases y with
  |none=>rfl
  |some _=>simp[mOpt]at h
 |some x=>cases y with
  |none=>simp[mOpt]at h
  |some y=>
   simp only[mOpt]at h;simp only[optF]at hf;simp only[optI]at hi;simp only[Jr,Qkb he h hp hf hi]
theorem Qma (isS:Bool)(len cap:Nat)(lo hi:Option Int)(hlc:len≤cap)(hb:bnds lo hi len)(w:World) :
  (Instr.sliceBounds isS len cap (lo.map fun n=>Value.int .i64 n) (hi.map fun n=>Value.int .i64 n) none).run P w=.ok ((lo.getD 0).toNat,(hi.getD len).toNat,cap) w:=by
 obtain⟨b1,b2,b3⟩:=hb;unfold Instr.sliceBounds
 cases hi with
 |none=>
  cases lo with
  |none=>simp
  |some l=>
   simp only[J9,Jaq]at b1 b2 b3;simp only[Jr,J4,Sem.run_bind,Instr.sliceBound,asIntOf,Sem.run_pure,Result.andThen_ok];rw[if_pos (by omega)];simp
 |some h=>
  cases lo with
  |none=>
   simp only[J9,Jaq]at b1 b2 b3;simp only[Jr,J4,Sem.run_bind,Instr.sliceBound,asIntOf,Sem.run_pure,Result.andThen_ok];rw[if_pos (by omega)];simp
  |some l=>
   simp only[J9]at b1 b2 b3;simp only[Jr,Sem.run_bind,Instr.sliceBound,asIntOf,Sem.run_pure,Result.andThen_ok];rw[if_pos (by omega)];simp only[Sem.run_pure,Result.andThen_ok];rw[if_pos (by omega)];simp
theorem Qbub {x:Opd}{lo hi:Option Opd}{x':Operand}{lo' hi':Option Operand}{t el:TypeId}{i:TypeInfo}{sz:Nat}(hm:o.op=.slice t x' lo' hi' none)(hu:P.underlying t=some (.slice el))
  (hi0:P.info? el=some i) (hz:i.size=sz) (hx:mO x x'=true) (hlo:mOpt lo lo'=true) (hhi:mOpt hi hi'=true)
  (hs:Sat H g w) (he:EnvOk w g e a) (hp:p=true) (ho:(FOp.sli sz x lo hi).obl p e H):FOk P H g w e a o (.sli sz x lo hi):=by
 simp only[FOp.obl]at ho;obtain⟨h1,h2,h3,h4,h5,h6,h7,h8,hb⟩:=ho;have hr:=Qay he hx hp h1;have el:=Qaam he hp hlo h2 h4;have eh:=Qaam he hp hhi h3 h5;generalize hL:(lo.map fun z=>Q9 (z.v e))=L at *;generalize hU:(hi.map fun z=>Q9 (z.v e))=U at *;rw[Qip h6]at hr;generalize hq:a.eval x'=vv at hr;have run:∀(ad:Option Addr) (len cap:Nat),vv=.slice ad len cap→len≤cap→bnds L U len→
   (execOp a.eval o).run P w=.ok (.value (.slice (if cap=(L.getD 0).toNat then ad else ad.map (·.add ((L.getD 0).toNat * sz))) ((U.getD len).toNat-(L.getD 0).toNat) (cap-(L.getD 0).toNat))) w:=by
  intro ad len cap hv hlc hbb;simp only[execOp,hm,hq,hv,Instr.sliceAt,Sem.run_bind,Qaz hu,Result.andThen_ok,el,eh,J4,Instr.slice,Qma (P:=P) true len cap L U hlc hbb w,Qbi hi0,hz,Sem.run_pure]
 have fin:∀r v,(execOp a.eval o).run P w=.ok (.value v) w→RepC w g r v→sliC L U (x.v e).c1=r→FOk P H g w e a o (.sli sz x lo hi):=by
  intro r v h1 h2 h3;refine .mk' hs h1 ?_ trivial;simp only[FOp.val,hL,hU,h3];exact .c _ _ h2
 generalize hc:(x.v e).c1=cc at *;have hcc:=hr.c_inv
 cases hcc with
 |slnil fl sz' ad=>
  have hb':bnds L U 0:=hb;have hb2:=hb';obtain⟨b1,b2,b3⟩:=hb2;refine fin (sliC L U (.sl fl sz' [])) _ (run ad 0 0 rfl (Jx _) hb') ?_ rfl;have e1:(L.getD 0).toNat=0:=by omega
  have e2:(U.getD ((0:Nat):Int)).toNat=0:=by omega
  simp only[e1,e2,sliC];simp;exact .slnil _ _ _
 |sl fl sz' rows b off cap val hl hf hcap hper hrw hce hva=>
  simp only[lenC]at hb;simp only[C.elemSz]at h8;subst h8;obtain⟨b1,b2,b3⟩:=hb;refine fin (sliC L U (.sl fl sz' rows)) _ (run _ _ cap rfl hcap ⟨b1,b2,b3⟩) ?_ rfl;simp only[sliC];generalize hln:(L.getD 0).toNat=ln;generalize hun:(U.getD (rows.length:Int)).toNat=un;have q1:ln≤un:=by omega
  have q2:un≤rows.length:=by omega
  have hlen:((rows.take un).drop ln).length=un-ln:=by simp;omega
  have hrow:∀(i:Nat) (row:List C),((rows.take un).drop ln)[i]? = some row→rows[ln+i]? = some row:=by
   intro i row hi;simp only[Jq,Jn]at hi;split at hi
   ·exact hi
   ·simp at hi
  by_cases hcl:cap=ln
  ·rw[if_pos hcl];have hnil:(rows.take un).drop ln=[]:=Jz.1 (by omega);have q3:un-ln=0:=by omega
   have q4:cap-ln=0:=by omega
   rw[hnil,q3,q4];exact RepC.sl _ _ [] b off 0 val (by simp[Qx6]) (by simp) (by simp) hper (by simp) (by simp) (by simp)
  ·rw[if_neg hcl];simp only[Jr,Qb2];rw[←hlen];refine .sl _ _ _ b _ _ (fun i j=>val (ln+i) j) (by rw[hlen];omega) (fun hfl=>?_) (by rw[hlen];omega) hper (fun i row h=>hrw _ _ (hrow i row h)) (fun i row j c h hj=>?_) (fun i row j c h hj=>hva _ _ _ _ (hrow i row h) hj)
   ·rw[Ja]at hfl;rcases Jaf _ _▸hfl.2 with h0|h0
    ·have:U=none:=(by simpa using h0);subst this;simp at hun;rw[hlen,hf hfl.1];omega
    ·have:rows=[]:=(by simpa using h0);subst this;have:=hf hfl.1;simp at this q2;omega
   ·have:=hce _ _ _ _ (hrow i row h) hj;rw[←this];congr 2;rw[Jg];omega
 |vslnil l sz' st ad=>
  have hb':bnds L U 0:=hb;have hb2:=hb';obtain⟨b1,b2,b3⟩:=hb2;refine fin (sliC L U (.vsl l sz' st 0)) _ (run ad 0 0 rfl (Jx _) hb') ?_ rfl;have e1:(L.getD 0).toNat=0:=by omega
  have e2:(U.getD ((0:Nat):Int)).toNat=0:=by omega
  simp only[e1,e2,sliC];simp;exact .vslnil _ _ _ _
 |vsl l sz' st n cap b base T m hio hn hsh hmm=>
  simp only[lenC]at hb;simp only[C.elemSz]at h8;subst h8;obtain⟨b1,b2,b3⟩:=hb;refine fin (sliC L U (.vsl l sz' st n)) _ (run _ _ cap rfl hn ⟨b1,b2,b3⟩) ?_ rfl;simp only[sliC];generalize hln:(L.getD 0).toNat=ln;generalize hun:(U.getD (n:Int)).toNat=un;by_cases hcl:cap=ln
  ·rw[if_pos hcl];have q3:un-ln=0:=by omega
   have q4:cap-ln=0:=by omega
   rw[q3,q4];exact .vslnil _ _ _ _
  ·rw[if_neg hcl];simp only[Jr,Qb2];have:base+st * sz'+ln * sz'=base+(st+ln) * sz':=by rw[Jg];omega
   rw[this];refine .vsl _ _ _ _ _ b base T m hio (by omega) hsh ?_;have:st+ln+(cap-ln)=st+cap:=by omega
   rw[this];exact hmm
 |_=>simp[okSl]at h7
theorem Qbsx {x:Opd}{lo hi:Option Opd}{x':Operand}{lo' hi':Option Operand}{t:TypeId}(hm:o.op=.slice t x' lo' hi' none)(hu:P.underlying t=some .string)
  (hx:mO x x'=true) (hlo:mOpt lo lo'=true) (hhi:mOpt hi hi'=true)
  (hs:Sat H g w) (he:EnvOk w g e a) (hp:p=true) (ho:(FOp.slis x lo hi).obl p e H):FOk P H g w e a o (.slis x lo hi):=by
 simp only[FOp.obl]at ho;obtain⟨h1,h2,h3,h4,h5,hb⟩:=ho;have hr:=Qay he hx hp h1;have el:=Qaam he hp hlo h2 h4;have eh:=Qaam he hp hhi h3 h5;generalize hL:(lo.map fun z=>Q9 (z.v e))=L at *;generalize hU:(hi.map fun z=>Q9 (z.v e))=U at *;split at hb
 ·rename_i s hv
  rw[hv]at hr;obtain⟨hq,hl⟩:=hr.c_inv.str_inv;have hex:(⟨s.toArray⟩:ByteArray).extract (L.getD 0).toNat (U.getD s.length).toNat=⟨((s.take (U.getD s.length).toNat).drop (L.getD 0).toNat).toArray⟩:=by
   apply Ja2;apply Jae;simp[Jac,Jaw]
  refine .mk' hs (v:=.string ⟨((s.take (U.getD s.length).toNat).drop (L.getD 0).toNat).toArray⟩) ?_ ?_ trivial
  ·simp only[execOp,hm,hq,Instr.sliceAt,Sem.run_bind,Qaz hu,Result.andThen_ok,el,eh,J4,Instr.slice,Qa74,Sem.run_pure];simp only[Option.isSome_none,Jal,if_false,Sem.run_bind,Sem.run_pure,Result.andThen_ok];rw[Qma (P:=P) false s.length s.length L U (Jx _) hb w];simp[hex]
  ·simp only[FOp.val,hv,hL,hU];refine .c _ _ (.str _ ?_);simp;omega
 ·exact hb.elim
theorem Qbt1 {sz n:Nat}{x y:Opd}{x' y':Operand}{t el:TypeId}{i:TypeInfo}(hm:o.op=.indexAddr t x' y')(hu:P.underlying t=some (.array n el))
  (hi:P.info? el=some i) (hz:i.size=sz) (hx:mO x x'=true) (hy:mO y y'=true)
  (hs:Sat H g w) (he:EnvOk w g e a) (hp:p=true) (ho:(FOp.iaa sz n x y).obl p e H):FOk P H g w e a o (.iaa sz n x y):=by
 simp only[FOp.obl]at ho;obtain⟨h1,h2,h6,h7,h8,h9⟩:=ho;have hr:=Qay he hx hp h1;have hn:=Qkb he hy hp h2 h6;split at h9
 ·rename_i l k hv
  rw[hv]at hr;have hrc:=hr.c_inv;generalize hq:a.eval x'=xv at hrc
  cases hrc with
  |ptr _ _ b s base hio=>
   refine .mk' hs (v:=.pointer (some ⟨b,base+k+(Q9 (y.v e)).toNat * sz,none⟩)) ?_ ?_ trivial
   ·simp only[execOp,hm,hq,hn,Instr.indexAt,Sem.run_bind,asIntOf,Sem.run_pure,Result.andThen_ok,Qaz hu,Instr.sureAddr];rw[if_pos ⟨h7,h8⟩];simp[Qbi hi,hz,Qb2]
   ·simp only[FOp.val,hv];have e:base+k+(Q9 (y.v e)).toNat * sz=base+(k+(Q9 (y.v e)).toNat * sz):=(by omega);rw[e];exact .c _ _ (.ptr l _ b s base hio)
 ·exact h9.elim
theorem Qbt6 {n b l:Nat}{t:TypeId}{d:TypeDesc}{i:TypeInfo}(hm:o.op=.load t (.global b))(hu:P.underlying t=some d)(hi:P.info? t=some i)(ha:Qio d=true)(hn:i.size=n)
  (hs:Sat H g w) (ho:(FOp.ldg n b l).obl p e H):FOk P H g w e a o (.ldg n b l):=by
 simp only[FOp.obl]at ho;split at ho
 ·rename_i b' cells hH
  obtain⟨rfl,h2⟩:=ho;have hob:=hs.objs l;rw[hH]at hob;obtain⟨s,val,k1,k2,k3,k4⟩:=hob;have hq:a.eval (.global b')=.pointer (some ⟨b',0,none⟩):=rfl;have hc:∀j,j<n→w.cell? ⟨b',0+j,none⟩=some (val j):=fun j hj=>by
   rw[J5];exact k3 j _ (Jd (by omega))
  have hr:=Qas8 hu hi w b' 0 n val (fun _=>hn) (fun h=>by rw[ha]at h;simp at h) hc;refine .mk' hs (v:=.agg ((List.range n).map val).toArray) ?_ ?_ trivial
  ·simp only[execOp,hm,hq,Instr.loadAt,Instr.sureAddr,Sem.run_bind,Sem.run_pure,Result.andThen_ok,hr,ha,if_true]
  ·simp only[FOp.val,hH];refine .ag _ _ (by simp;omega) fun j c u h1 h2=>?_;rw[Jn]at h1;split at h1
   ·rename_i hj
    simp[hj]at h2;subst h2;exact k4 j c h1
   ·simp at h1
 ·exact ho.elim
theorem Qbt3 {sz n:Nat}{x y:Opd}{x' y':Operand}{t el:TypeId}{d:TypeDesc}{i:TypeInfo}(hm:o.op=.index t x' y')(hu:P.underlying t=some (.array n el))
  (hd:P.underlying el=some d) (ha:Qio d=true) (hi:P.info? el=some i) (hz:i.size=sz) (hx:mO x x'=true) (hy:mO y y'=true)
  (hs:Sat H g w) (he:EnvOk w g e a) (hp:p=true) (ho:(FOp.iax sz n x y).obl p e H):FOk P H g w e a o (.iax sz n x y):=by
 simp only[FOp.obl]at ho;obtain⟨h1,h2,h6,h7,h8,h9,h10⟩:=ho;have hr:=Qay he hx hp h1;have hn:=Qkb he hy hp h2 h6;have hv:∃cs,x.v e=.ag cs:=by cases hv:x.v e <;> simp_all[V.isAg]
 obtain⟨cs,hv⟩:=hv;rw[hv]at hr h10;simp only[V.cells]at h10;obtain⟨vs,hq,hl,hh⟩:=hr.ag_inv;refine .mk' hs (v:=.agg ((vs.drop ((Q9 (y.v e)).toNat * sz)).take sz).toArray) ?_ ?_ trivial
 ·simp only[execOp,hm,hq,hn,Instr.index,Sem.run_bind,asIntOf,Sem.run_pure,Result.andThen_ok,Qaz hu];rw[if_pos ⟨h7,h8⟩];simp only[Sem.run_bind,Qbi hi,hz,Result.andThen_ok,part,Qans hd,ha,if_true,Sem.run_pure];congr 4;apply Jae;simp[Jac,Jaw]
 ·simp only[FOp.val,hv,V.cells];refine .ag _ _ (by simp[hl]) fun j c u h1 h2=>?_;simp only[Jn,Jq]at h1 h2;split at h1
  ·rename_i hj;rw[if_pos hj]at h2;exact hh _ _ _ h1 h2
  ·simp at h1
theorem Qbsp {n:Nat}{x:Opd}{x':Operand}{hi:Option Opd}{hi':Option Operand}{t el:TypeId}{i:TypeInfo}(hm:o.op=.slice t x' none hi' none)(hu2:P.underlying t=some (.array n el))
  (hi0:P.info? el=some i) (hx:mO x x'=true) (hhi:mOpt hi hi'=true)
  (hs:Sat H g w) (he:EnvOk w g e a) (hp:p=true) (ho:(FOp.aslp n x hi).obl p e H):FOk P H g w e a o (.aslp n x hi):=by
 simp only[FOp.obl]at ho;obtain⟨h1,h3,h5,hb,hlim,h2⟩:=ho;have hr:=Qay he hx hp h1;have eh:=Qaam he hp hhi h3 h5;have hnone:(hi.map fun z=>Q9 (z.v e)).isNone=hi.isNone:=by cases hi <;> rfl
 split at h2
 ·rename_i cells hv
  rw[hv]at hr;have hrc:=hr.c_inv;generalize hq:a.eval x'=xv at hrc
  cases hrc with
  |pp _ b off val hper hc hva=>
   have hval:(FOp.aslp n x hi).val e H=.c (.sl hi.isNone 1 ((cells.take ((hi.map fun x=>Q9 (x.v e)).getD n).toNat).map fun c=>[c])):=by simp only[FOp.val,hv]
   rw[←hnone]at hval;generalize hU:(hi.map fun z=>Q9 (z.v e))=U at *;have hrun:=Qma (P:=P) false n n none U (Jx _) hb w;have hb0:=hb;obtain⟨b1,b2,b3⟩:=hb0;simp only[Jaq,J4]at b1 b2 b3 hrun;have e0:(U.getD (n:Int)).toNat≤n:=by omega
   refine .mk' hs (v:=.slice (some ⟨b,off,none⟩) (U.getD n).toNat n) ?_ ?_ trivial
   ·simp only[execOp,hm,hq,Instr.sliceAt,Sem.run_bind,Qaz hu2,Result.andThen_ok,Instr.sureAddr,Sem.run_pure,eh,J4,hrun,Qbi hi0];have ha:(⟨b,off,none⟩:Addr).add (0 * i.size)=⟨b,off,none⟩:=(by rw[Nat.zero_mul,Qb2,J1]);by_cases hn:n=0
    ·subst hn;simp
    ·simp[hn,ha];try rw[Qb2,J1]
   ·rw[hval];have hlen:((cells.take (U.getD (n:Int)).toNat).map fun c=>[c]).length=(U.getD (n:Int)).toNat:=(by simp;omega);have hrow:∀(k:Nat) (row:List C),((cells.take (U.getD (n:Int)).toNat).map fun c=>[c])[k]? = some row→∃c,row=[c]∧cells[k]? = some c:=by
     intro k row hk;rw[Jh,Jn]at hk;split at hk
     ·cases hcc:cells[k]? with
      |none=>rw[hcc]at hk;simp at hk
      |some c=>rw[hcc]at hk;simp at hk;exact⟨c,hk.symm,rfl⟩
     ·simp at hk
    have:=RepC.sl (w:=w) (g:=g) U.isNone 1 ((cells.take (U.getD (n:Int)).toNat).map fun c=>[c]) b off n (fun k _=>val k) (by rw[hlen];omega)
     (fun hu=>by
      have:U=none:=(by simpa using hu);subst this;rw[hlen];simp) (by rw[hlen];omega) hper (fun k row hk=>by obtain⟨c,rfl,_⟩:=hrow k row hk;rfl)
     (fun k row j c hk hj=>by
      obtain⟨c',rfl,hc'⟩:=hrow k row hk
      cases j with
      |zero=>simp only[Nat.mul_one,J1];exact hc k c' hc'
      |succ j=>simp at hj)
     (fun k row j c hk hj=>by
      obtain⟨c',rfl,hc'⟩:=hrow k row hk
      cases j with
      |zero=>simp at hj;subst hj;exact hva k c' hc'
      |succ j=>simp at hj)
    rw[hlen]at this;exact .c _ _ this
 ·exact h2.elim
theorem Qbuc {sz:Nat}{x hi:Opd}{x' h1' h2':Operand}{t el:TypeId}{i:TypeInfo}(hm:o.op=.slice t x' none (some h1') (some h2'))(hu:P.underlying t=some (.slice el))
  (hi0:P.info? el=some i) (hx:mO x x'=true) (hh1:mO hi h1'=true) (hh2:mO hi h2'=true)
  (hs:Sat H g w) (he:EnvOk w g e a) (hp:p=true) (ho:(FOp.slm sz x hi).obl p e H):FOk P H g w e a o (.slm sz x hi):=by
 simp only[FOp.obl]at ho;obtain⟨h1,h2,h3,h4,h5⟩:=ho;have hr:=Qay he hx hp h1;have e1:=Qkb he hh1 hp h2 h3;have e2:=Qkb he hh2 hp h2 h3;split at h5
 ·rename_i fl z rows hv
  obtain⟨rfl,h6⟩:=h5;rw[hv]at hr;have hrc:=hr.c_inv;have hval:(FOp.slm z x hi).val e H=.c (.sl true z (rows.take (Q9 (hi.v e)).toNat)):=by simp only[FOp.val,hv]
  generalize Q9 (hi.v e)=n at *;obtain⟨n,rfl⟩:=Int.eq_ofNat_of_zero_le h4;have h7:n≤rows.length:=by omega
  simp only[Jan]at hval;generalize hq:a.eval x'=xv at hrc;have run:∀(ad:Option Addr) (len cap:Nat),xv=.slice ad len cap→n≤cap→
    (execOp a.eval o).run P w=.ok (.value (.slice (if n=0 then ad else ad.map (·.add (0 * i.size))) n n)) w:=by
   intro ad len cap hxv hcap;have hb:(Instr.sliceBounds true len cap none (some (.int .i64 (n:Int))) (some (.int .i64 (n:Int)))).run P w=.ok (0,n,n) w:=by
    unfold Instr.sliceBounds;simp only[Sem.run_bind,Instr.sliceBound,asIntOf,Sem.run_pure,Result.andThen_ok];rw[if_pos ⟨Ja3 _,by omega⟩];simp only[Sem.run_pure,Result.andThen_ok,Jan];rw[if_pos ⟨Ja3 _,Int.le_refl _⟩];simp only[Sem.run_pure,Result.andThen_ok,Jan]
   simp only[execOp,hm,hq,hxv,Instr.sliceAt,Sem.run_bind,Qaz hu,Result.andThen_ok,e1,e2,Jr,J4,Instr.slice,hb,Qbi hi0,Sem.run_pure,Nat.sub_zero]
  cases hrc with
  |slnil _ _ ad=>
   have h0:n=0:=by simpa using h7
   subst h0;refine .mk' hs (run ad 0 0 rfl (Jx _)) ?_ trivial;rw[hval];exact .c _ _ (.slnil _ _ _)
  |sl _ _ _ b off cap val hl hf hcap hper hrw hce hva=>
   refine .mk' hs (run _ _ cap rfl (by omega)) ?_ trivial;rw[hval];have ha:(if n=0 then (some ⟨b,off,none⟩:Option Addr)else (some ⟨b,off,none⟩:Option Addr).map (·.add (0 * i.size)))=some ⟨b,off,none⟩:=by
    split
    ·rfl
    ·simp only[Jr,Nat.zero_mul,Qb2,J1]
   rw[ha];have hlen:(rows.take n).length=n:=by simp;omega
   have hrow:∀(k:Nat) (row:List C),(rows.take n)[k]? = some row→rows[k]? = some row:=by
    intro k row hk;rw[Jn]at hk;split at hk
    ·exact hk
    ·simp at hk
   have:=RepC.sl (w:=w) (g:=g) true z (rows.take n) b off n val (by rw[hlen];omega) (fun _=>by rw[hlen]) (by rw[hlen];exact Jx _) hper (fun k row hk=>hrw _ _ (hrow k row hk))
    (fun k row j c hk hj=>hce _ _ _ _ (hrow k row hk) hj) (fun k row j c hk hj=>hva _ _ _ _ (hrow k row hk) hj)
   rw[hlen]at this;exact .c _ _ this
 ·exact h5.elim
theorem Qbt0 {off n:Nat}{agg:Bool}{x:Opd}{x':Operand}{s:TypeId}{k:Nat}{fs:Array Field}{f:Field}{i:TypeInfo}{d:TypeDesc}(hm:o.op=.field s x' k)(hu:P.underlying s=some (.struct fs))
  (hf:fs[k]? = some f) (hoff:f.offset=off) (hi:P.info? f.type=some i) (hd:P.underlying f.type=some d) (ha:Qio d=agg) (hn:agg=true→i.size=n) (hn1:agg=false→n=1) (hx:mO x x'=true)
  (hs:Sat H g w) (he:EnvOk w g e a) (hp:p=true) (ho:(FOp.fld off n agg x).obl p e H):FOk P H g w e a o (.fld off n agg x):=by
 simp only[FOp.obl]at ho;obtain⟨h1,h2,h3⟩:=ho;have hr:=Qay he hx hp h1;have hv:∃cs,x.v e=.ag cs:=by cases hv:x.v e <;> simp_all[V.isAg]
 obtain⟨cs,hv⟩:=hv;rw[hv]at hr h3;simp only[V.cells]at h3;obtain⟨vs,hq,hl,hh⟩:=hr.ag_inv
 cases agg with
 |true=>
  have hz:=hn rfl;refine .mk' hs (v:=.agg ((vs.drop off).take n).toArray) ?_ ?_ trivial
  ·simp only[execOp,hm,hq,Instr.field,Sem.run_bind,Qaz hu,Result.andThen_ok,hf,asAgg,Sem.run_pure,part,Qans hd,ha,if_true,Qbi hi,hz,hoff];congr 4;apply Jae;simp[Jac,Jaw]
  ·simp only[FOp.val,Qbau,hv,V.cells,if_true];refine .ag _ _ (by simp;omega) fun j c u h1 h2=>?_;simp only[Jn,Jq]at h1 h2;split at h1
   ·rename_i hj;rw[if_pos hj]at h2;exact hh _ _ _ h1 h2
   ·simp at h1
 |false=>
  have hz:=hn1 rfl;subst hz;have hlt:off<vs.length:=by omega
  refine .mk' hs (v:=vs[off]) ?_ ?_ trivial
  ·simp only[execOp,hm,hq,Instr.field,Sem.run_bind,Qaz hu,Result.andThen_ok,hf,asAgg,Sem.run_pure,part,Qans hd,ha,hoff];simp[hlt]
  ·simp only[FOp.val,Qbau,hv,V.cells,Jal,if_false];have hlt':off<cs.length:=by omega
   have:((cs.drop off).take 1).headD .unk=cs[off]:=by
    rw[List.drop_eq_getElem_cons hlt'];rfl
   rw[this];exact .c _ _ (hh off _ _ (Jd hlt') (Jd hlt))
theorem Qyd (off:Nat):∀(vs:List Value) (s:Nat) (cs:Array Value) (k:Nat),off+s+vs.length≤cs.size→
  ((vs.zipIdx s).foldl (fun (cs:Array Value) (x:Value×Nat)=>cs.setIfInBounds (off+x.2) x.1) cs).size=cs.size∧
  ((vs.zipIdx s).foldl (fun (cs:Array Value) (x:Value×Nat)=>cs.setIfInBounds (off+x.2) x.1) cs)[k]? =
   if off+s≤k∧k<off+s+vs.length then vs[k-(off+s)]? else cs[k]?
 |[],s,cs,k,_=>by
  refine⟨rfl,?_⟩;rw[if_neg (by simp only[Jat];omega)];rfl
 |v::vs,s,cs,k,h=>by
  simp only[J8]at h;have ih:=Qyd off vs (s+1) (cs.setIfInBounds (off+s) v) k (by simp;omega);simp only[List.zipIdx_cons,List.foldl_cons];refine⟨by rw[ih.1];simp,?_⟩;rw[ih.2];simp only[J8];by_cases h1:off+(s+1)≤k∧k<off+(s+1)+vs.length
  ·rw[if_pos h1,if_pos (by omega)];have:k-(off+s)=(k-(off+(s+1)))+1:=by omega
   rw[this,List.getElem?_cons_succ]
  ·rw[if_neg h1];by_cases h2:k=off+s
   ·subst h2;rw[if_pos (by omega)];simp only[Nat.sub_self,List.getElem?_cons_zero];rw[Jv (by omega)]
   ·rw[if_neg (by omega),Jp (by omega)]
theorem Qa8o {place:Nat→Option (Nat×Nat)}{cells:Array Value}{i off sz:Nat}{v:Value}{rest:List (Nat×Value)}(hp:place i=some (off,sz))(hz:v.cells.size=sz)
  (hb:off+sz≤cells.size):∃cs:Array Value,Instr.fill place cells ((i,v)::rest)=Instr.fill place cs rest∧cs.size=cells.size∧
   ∀k,cs[k]? = if off≤k∧k<off+sz then v.cells[k-off]? else cells[k]?:=by
 have hf:=fun k=>Qyd off v.cells.toList 0 cells k (by simp;omega);refine⟨v.cells.zipIdx.foldl (fun (cs:Array Value) (x:Value×Nat)=>cs.setIfInBounds (off+x.2) x.1) cells,?_,?_,fun k=>?_⟩
 ·simp only[Instr.fill,hp];rw[if_neg (by simp;omega)]
 ·rw[←Ja1,Jaz];exact (hf 0).1
 ·rw[←Ja1,Jaz,(hf k).2];simp only[J1,Array.length_toList,hz,Jy]
def RepL (w:World)(g:G)(cs:List C)(vs:Array Value):Prop:=
 vs.size=cs.length∧∀(j:Nat) (c:C) (u:Value),cs[j]? = some c→vs[j]? = some u→RepC w g c u
theorem RepL.put {cs ps:List C}{vs us vs':Array Value}{off:Nat}(h:RepL w g cs vs)(hp:RepL w g ps us)(hb:off+ps.length≤cs.length)(hsz:vs'.size=vs.size)
  (hv:∀k,vs'[k]? = if off≤k∧k<off+ps.length then us[k-off]? else vs[k]?) :
  RepL w g (cs.take off++ps++cs.drop (off+ps.length)) vs':=by
 refine⟨by rw[hsz,h.1];simp;omega,fun j c u h1 h2=>?_⟩;rw[hv]at h2;by_cases hj:off≤j∧j<off+ps.length
 ·rw[if_pos hj]at h2;rw[J0,Jl (by simp;omega),Jk (by simp;omega)]at h1;refine hp.2 _ c u ?_ h2;rw[←h1];congr 1;simp;omega
 ·rw[if_neg hj]at h2;refine h.2 j c u ?_ h2;by_cases hl:j<off
  ·rw[J0,Jk (by simp;omega),Jn,if_pos hl]at h1;exact h1
  ·rw[Jl (by simp;omega),Jq]at h1;rw[←h1];congr 1;simp;omega
def Qbrn:C→Value→Bool
 |.int k n,.int k' n'=>k == k'&&n == n'
 |.bool b,.bool b'=>b == b'
 |.str [],.string b=>decide (b.data.toList=[])
 |.sl _ _ [],.slice none 0 0=>true
 |.pnil,.pointer none=>true
 |.mnil,.map none=>true
 |.fnil,.nilFunc=>true
 |_,_=>false
theorem Qbjt {c:C}{v:Value}(h:Qbrn c v=true):RepC w g c v:=by
 unfold Qbrn at h;split at h
 ·simp at h;obtain⟨rfl,rfl⟩:=h;exact .int _ _
 ·simp at h;subst h;exact .bool _
 ·rename_i b
  have hb:b=⟨([]:List UInt8).toArray⟩:=by
   apply Ja2;apply Jae;simpa using h
  rw[hb];exact .str _ (by simp[Qx6])
 ·exact .slnil _ _ _
 ·exact .pnil
 ·exact .mnil
 ·exact .fnil
 ·simp at h
def Qa8a (cs:List C)(v:Value):Bool:=cs.length == v.cells.size&&(cs.zip v.cells.toList).all fun x=>Qbrn x.1 x.2
theorem Q0y {cs:List C}{v:Value}(h:Qa8a cs v=true):RepL w g cs v.cells:=by
 unfold Qa8a at h;rw[Ja,J7]at h;obtain⟨h1,h2⟩:=h;refine⟨by simpa using (beq_iff_eq.1 h1).symm,fun j c u e1 e2=>Qbjt (h2 (c,u) ?_)⟩;have:(cs.zip v.cells.toList)[j]? = some (c,u):=by
  rw[List.getElem?_zip_eq_some];exact⟨e1,by simpa using e2⟩
 exact Jm this
theorem Qabe {t:TypeId}{i:TypeInfo}{z:Value}(hi:P.info? t=some i)(hz:i.zero=some z)(w:World):(zeroValue t).run P w=.ok z w:=by
 simp[zeroValue,Qkn hi,hz]
theorem Qanx (fs:List Field)(h:∀f∈fs,∃i,P.info? f.type=some i)(w:World) :
  (fs.mapM fun f=>(do pure (f.offset,←sizeOf f.type):Sem (Nat×Nat))).run P w=.ok (fs.map fun f=>(f.offset,P.cellsOf f.type)) w:=by
 induction fs with
 |nil=>simp
 |cons f fs ih=>
  obtain⟨i,hi⟩:=h f (by simp);have ih':=ih fun f hf=>h f (by simp[hf]);simp only[List.mapM_cons,Sem.run_bind,Qbi hi,Result.andThen_ok,Sem.run_pure,ih',Jab,Qari hi]
theorem Qala (place:Nat→Option (Nat×Nat)):∀(parts:List (Nat×Nat×List C)) (ps:List (Nat×Value)) (cells:Array Value) (cs:List C),
  RepL w g cs cells→ps.length=parts.length→
  (∀(j:Nat) (x:Nat×Nat×List C) (y:Nat×Value),parts[j]? = some x→ps[j]? = some y→place y.1=some (x.1,x.2.1)∧x.2.2.length=x.2.1∧x.1+x.2.1≤cs.length∧RepL w g x.2.2 y.2.cells)→
  ∃out,Instr.fill place cells ps=some out∧RepL w g (Qym cs (parts.map fun x=>(x.1,x.2.2))) out
 |[],[],cells,cs,h,_,_=>⟨cells,rfl,h⟩
 |[],y::ps,_,_,_,hl,_=>by simp at hl
 |x::parts,[],_,_,_,hl,_=>by simp at hl
 |x::parts,(i,v)::ps,cells,cs,h,hl,hh=>by
  obtain⟨h1,h2,h3,h4⟩:=hh 0 x (i,v) rfl rfl;obtain⟨cs',f1,f2,f3⟩:=Qa8o (rest:=ps) (cells:=cells) h1 (by rw[h4.1,h2]) (by rw[h.1];exact h3);have hr:RepL w g (cs.take x.1++x.2.2++cs.drop (x.1+x.2.2.length)) cs':=h.put h4 (by rw[h2];exact h3) f2 (by rw[h2];exact f3);obtain⟨out,o1,o2⟩:=Qala place parts ps cs' _ hr (by simpa using hl) (fun j x' y' e1 e2=>by
   obtain⟨q1,q2,q3,q4⟩:=hh (j+1) x' y' (by simpa using e1) (by simpa using e2);refine⟨q1,q2,?_,q4⟩;have:(cs.take x.1++x.2.2++cs.drop (x.1+x.2.2.length)).length=cs.length:=by simp;omega
   rw[this];exact q3)
  exact⟨out,f1.trans o1,by simpa[Qym]using o2⟩
theorem Qg6 {v:V}{u:Value}(h:RepV w g v u)(hn:v.cells≠[]):RepL w g v.cells u.cells:=Q9o h hn
theorem Qbtu {zero:List C}{parts:List (Nat×Nat×Opd)}{t:TypeId}{parts':Array (Nat×Operand)}{fs:Array Field}{i:TypeInfo}{z:Value}
  (hm:o.op=.build t parts') (hu:P.underlying t=some (.struct fs)) (hi:P.info? t=some i) (hz:i.zero=some z) (hzero:Qa8a zero z=true)
  (hfs:∀f∈fs.toList,∃i,P.info? f.type=some i) (hl:parts.length=parts'.size)
  (hx:∀(j:Nat) (x:Nat×Nat×Opd) (y:Nat×Operand),parts[j]? = some x→parts'[j]? = some y→
   mO x.2.2 y.2=true∧(∃f,fs[y.1]? = some f∧f.offset=x.1∧P.cellsOf f.type=x.2.1)∧x.1+x.2.1≤zero.length∧x.2.1≠0)
  (hs:Sat H g w) (he:EnvOk w g e a) (hp:p=true) (ho:(FOp.bld zero parts).obl p e H):FOk P H g w e a o (.bld zero parts):=by
 simp only[FOp.obl]at ho;have hlen:(parts'.toList.map fun (x:Nat×Operand)=>(x.1,a.eval x.2)).length=(parts.map fun q=>(q.1,q.2.1,(q.2.2.v e).cells)).length:=by simp[hl]
 obtain⟨out,f1,f2⟩:=Qala (w:=w) (g:=g) (fun (j:Nat)=>(fs.toList.map fun f=>(f.offset,P.cellsOf f.type))[j]?) (parts.map fun q=>(q.1,q.2.1,(q.2.2.v e).cells))
  (parts'.toList.map fun (x:Nat×Operand)=>(x.1,a.eval x.2)) z.cells zero (Q0y hzero) hlen (fun j x y e1 e2=>by
   simp only[Jh]at e1 e2
   cases hj:parts[j]? with
   |none=>rw[hj]at e1;simp at e1
   |some q=>
    cases hj':parts'.toList[j]? with
    |none=>rw[hj']at e2;simp at e2
    |some y'=>
     rw[hj]at e1;rw[hj']at e2;simp only[Jr,Je]at e1 e2;subst e1;subst e2;obtain⟨m1,⟨f,m2,m3,m4⟩,m5,m6⟩:=hx j q y' hj (by simpa using hj');obtain⟨o1,o2⟩:=ho q (Jm hj);refine⟨?_,o2,m5,Qg6 (Qay he m1 hp o1) (fun hn=>m6 (by rw[←o2,hn];rfl))⟩;simp only[Jh,Jy,m2,Jr,m3,m4])
 have hmap:(fs.mapM fun f=>(do pure (f.offset,←sizeOf f.type):Sem (Nat×Nat))).run P w=.ok ((fs.toList.map fun f=>(f.offset,P.cellsOf f.type)).toArray) w:=by
  rw[Array.mapM_eq_mapM_toList];simp only[Sem.run_map,Qanx fs.toList hfs w,Result.andThen_ok]
 refine .mk' hs (v:=.agg out) ?_ ?_ trivial
 ·simp only[execOp,hm,Instr.build,Sem.run_bind,Qabe hi hz,Result.andThen_ok,Qaz hu,hmap];have:(fun (x:Nat)=>((fs.toList.map fun f=>(f.offset,P.cellsOf f.type)).toArray)[x]?)=(fun (j:Nat)=>(fs.toList.map fun f=>(f.offset,P.cellsOf f.type))[j]?):=by
   funext j;simp
  rw[this];have hpt:(parts'.map fun (x:Nat×Operand)=>(x.1,a.eval x.2)).toList=parts'.toList.map fun (x:Nat×Operand)=>(x.1,a.eval x.2):=by simp
  rw[hpt,f1];simp
 ·simp only[FOp.val];have hout:out=out.toList.toArray:=by simp
  rw[hout];refine .ag _ _ ?_ ?_
  ·have:=f2.1;simp only[Jbf,Ja4]at this;simpa using this
  ·intro j c u h1 h2;refine f2.2 j c u ?_ (by simpa using h2);simpa only[Jbf,Ja4]using h1
theorem Q9v (size:Nat):∀(ps:List (Nat×Value)) (s:Nat) (cells:Array Value),(∀(j:Nat) (y:Nat×Value),ps[j]? = some y→y.1=s+j∧y.2.cells.size=size)→
  (s+ps.length) * size≤cells.size→
  ∃out:Array Value,Instr.fill (fun i=>some (i * size,size)) cells ps=some out∧out.size=cells.size∧
   (∀k,k<s * size→out[k]? = cells[k]?)∧
   ∀(j:Nat) (y:Nat×Value) (k:Nat),ps[j]? = some y→k<size→out[(s+j) * size+k]? = y.2.cells[k]?
 |[],s,cells,_,_=>⟨cells,rfl,rfl,fun _ _=>rfl,by simp⟩
 |(i,v)::ps,s,cells,h,hb=>by
  obtain⟨h1,h2⟩:=h 0 (i,v) rfl;simp only[J1]at h1 h2;subst h1;have hb':(i+1+ps.length) * size≤cells.size:=by
   have e:i+((i,v)::ps).length=i+1+ps.length:=by simp only[J8];omega
   rw[e]at hb;exact hb
  have hone:i * size+size≤cells.size:=by
   have:(i+1) * size≤(i+1+ps.length) * size:=Jj _ (by omega);rw[Jg,Jai]at this;omega
  obtain⟨cs,f1,f2,f3⟩:=Qa8o (place:=fun i=>some (i * size,size)) (rest:=ps) (cells:=cells) (i:=i) (v:=v) rfl h2 hone;obtain⟨out,o1,o2,o3,o4⟩:=Q9v size ps (i+1) cs (fun j y hj=>by
   have:=h (j+1) y (by simpa using hj);exact⟨by rw[this.1];omega,this.2⟩) (by rw[f2];exact hb')
  refine⟨out,f1.trans o1,o2.trans f2,fun k hk=>?_,fun j y k hj hk=>?_⟩
  ·rw[o3 k (by rw[Jg];omega),f3 k,if_neg (by omega)]
  ·cases j with
   |zero=>
    simp at hj;subst hj;simp only[J1];rw[o3 _ (by rw[Jg];omega),f3 _,if_pos (by omega)];congr 1;omega
   |succ j=>
    have:=o4 j y k (by simpa using hj) hk;rw[←this];congr 3;omega
theorem Qbtw {sz:Nat}{parts:List Opd}{t el:TypeId}{n:Nat}{parts':Array (Nat×Operand)}{i:TypeInfo}{z:Value}
  (hm:o.op=.buildSlice t n parts') (hu:P.underlying t=some (.slice el)) (hi:P.info? el=some i) (hz:i.zero=some z) (hsz:i.size=sz) (hsz0:sz≠0)
  (hn:n=parts'.size) (hbig:n * sz≤2 ^ 24) (hl:parts.length=parts'.size)
  (hx:∀(j:Nat) (x:Opd) (y:Nat×Operand),parts[j]? = some x→parts'[j]? = some y→y.1=j∧mO x y.2=true)
  (hs:Sat H g w) (he:EnvOk w g e a) (hp:p=true) (ho:(FOp.bsl sz parts).obl p e H):FOk P H g w e a o (.bsl sz parts):=by
 simp only[FOp.obl]at ho;have hpt:(parts'.map fun (x:Nat×Operand)=>(x.1,a.eval x.2)).toList=parts'.toList.map fun (x:Nat×Operand)=>(x.1,a.eval x.2):=by simp
 have hget:∀(j:Nat) (y:Nat×Value),(parts'.toList.map fun (x:Nat×Operand)=>(x.1,a.eval x.2))[j]? = some y→
   ∃x y',parts[j]? = some x∧parts'[j]? = some y'∧y=(y'.1,a.eval y'.2):=by
  intro j y hj;simp only[Jh]at hj
  cases hj':parts'.toList[j]? with
  |none=>rw[hj']at hj;simp at hj
  |some y'=>
   rw[hj']at hj;simp at hj;have hlt:j<parts.length:=by
    rw[hl];rcases Ji j parts'.size with h|h
    ·exact h
    ·simp[Js h]at hj'
   exact⟨_,y',Jd hlt,by simpa using hj',hj.symm⟩
 have hrow:∀x∈parts,x.fine p e∧(x.v e).cells.length=sz∧(x.v e).cells≠[]:=fun x hx=>by
  obtain⟨q1,q2⟩:=ho x hx;exact⟨q1,q2,fun hn=>hsz0 (by rw[←q2,hn];rfl)⟩
 have hlen0:(parts'.toList.map fun (x:Nat×Operand)=>(x.1,a.eval x.2)).length=n:=by simp[hn]
 obtain⟨out,f1,f2,f3,f4⟩:=Q9v sz (parts'.toList.map fun (x:Nat×Operand)=>(x.1,a.eval x.2)) 0
  ((Array.range (n * sz)).map ((if n * sz=0 then #[]else z.cells)[· % (if n * sz=0 then #[]else z.cells).size]!)) (fun j y hj=>by
   obtain⟨x,y',e1,e2,rfl⟩:=hget j y hj;obtain⟨q1,q2⟩:=hx j x y' e1 e2;obtain⟨q3,q4,q5⟩:=hrow x (Jm e1);refine⟨by simp[q1],?_⟩;rw[(Qg6 (Qay he q2 hp q3) q5).1,q4]) (by rw[hlen0];simp)
 have hst:=Qame hs (.cells out el);refine⟨.slice (some ⟨w.heap.size,0,none⟩) n n,w.alloc (.cells out el),g.newPer w.heap.size,?_,hst,?_,trivial⟩
 ·simp only[execOp,hm,Instr.buildSlice,Sem.run_bind,Qaz hu,Result.andThen_ok,Qbi hi,hsz,hpt];rw[if_neg (by omega)];by_cases h0:n * sz=0
  ·simp only[if_pos h0]at f1⊢;simp only[Sem.run_bind,Sem.run_pure,Result.andThen_ok];rw[f1];simp[newRow]
  ·simp only[if_neg h0]at f1⊢;simp only[Sem.run_bind,Sem.run_pure,Result.andThen_ok,Qabe hi hz];rw[f1];simp[newRow]
 ·simp only[FOp.val];have hlenp:(parts.map fun x=>(x.v e).cells).length=n:=by simp[hl,hn]
  refine .c _ _ ?_;have hgl:∀(k:Nat) (row:List C),(parts.map fun x=>(x.v e).cells)[k]? = some row→∃x y,parts[k]? = some x∧parts'[k]? = some y∧row=(x.v e).cells:=by
   intro k row hk;simp only[Jh]at hk
   cases hj:parts[k]? with
   |none=>rw[hj]at hk;simp at hk
   |some x=>
    rw[hj]at hk;simp at hk;have hlt:k<parts'.size:=by
     rw[←hl];rcases Ji k parts.length with h|h
     ·exact h
     ·rw[Jf h]at hj;simp at hj
    exact⟨x,parts'[k],rfl,Jc hlt,hk.symm⟩
  have hcell:∀(k:Nat) (row:List C) (j:Nat) (c:C),(parts.map fun x=>(x.v e).cells)[k]? = some row→row[j]? = some c→∃u,out[0+k * sz+j]? = some u∧RepC w g c u:=by
   intro k row j c hk hj;obtain⟨x,y,e1,e2,rfl⟩:=hgl k row hk;obtain⟨q1,q2⟩:=hx k x y e1 e2;obtain⟨q3,q4,q5⟩:=hrow x (Jm e1);have hr:=Qg6 (Qay he q2 hp q3) q5;have hjlt:j<sz:=by
    rw[←q4];rcases Ji j (x.v e).cells.length with h|h
    ·exact h
    ·rw[Jf h]at hj;simp at hj
   have hj2:j<(a.eval y.2).cells.size:=by rw[hr.1,q4];exact hjlt
   have:=f4 k (y.1,a.eval y.2) j (by simp only[Jh,Jy,e2,Jr]) hjlt;simp only[J5]at this⊢;rw[this];exact⟨_,Jc hj2,hr.2 j c _ hj (Jc hj2)⟩
  have:=RepC.sl (w:=w.alloc (.cells out el)) (g:=g.newPer w.heap.size) true sz (parts.map fun x=>(x.v e).cells) w.heap.size 0 n (fun k j=>out.getD (0+k * sz+j) undef)
   (by rw[hlenp,Qx6]
       have hn1:n * 1≤n * sz:=Ja0 _ (by omega);have h24:(2:Nat) ^ 24=16777216:=(by decide);rw[h24]at hbig;omega) (fun _=>hlenp.symm) (by rw[hlenp];exact Jx _) (by simp[G.newPer])
   (fun k row hk=>by obtain⟨x,y,e1,e2,rfl⟩:=hgl k row hk;exact (hrow x (Jm e1)).2.1)
   (fun k row j c hk hj=>by
    obtain⟨u,e1,e2⟩:=hcell k row j c hk hj;rw[Qaal,Jb,e1];rfl)
   (fun k row j c hk hj=>by
    obtain⟨u,e1,e2⟩:=hcell k row j c hk hj;simp only[Jb,e1,J9];exact e2.mono hst.le)
  rw[hlenp]at this;exact this
end Go.AE
namespace Go.AE
open Go.MapKept (IsKey findNow_spec run_checkKey run_findKey run_keyThatStays)
variable {P:Program}{H:Heap}{g:G}{w:World}{e:Env}{a:Act}{o:Oper}{p:Bool}
def tagD:Nat→TypeDesc
 |0=>.int .i64
 |1=>.string
 |_=>.bool
end Go.AE
namespace Go.AE
variable {P:Program}{H:Heap}{g:G}{w:World}{e:Env}{a:Act}{o:Oper}{p:Bool}
def Qali (P:Program)(fs:Array Field)(zl:Nat):List (Nat×Nat×Opd)→List (Nat×Operand)→Bool
 |[],[]=>true
 |(off,sz,x)::r,(i,y)::r'=>mO x y&&(match fs[i]? with
   |some f=>f.offset == off&&P.cellsOf f.type == sz
   |none=>false)&&decide (off+sz≤zl)&&decide (sz≠0)&&Qali P fs zl r r'
 |_,_=>false
def mRow:Nat→List Opd→List (Nat×Operand)→Bool
 |_,[],[]=>true
 |k,x::r,(i,y)::r'=>i == k&&mO x y&&mRow (k+1) r r'
 |_,_,_=>false
def mOs:List Opd→List Operand→Bool
 |[],[]=>true
 |x::r,y::r'=>mO x y&&mOs r r'
 |_,_=>false
theorem Qam7:∀(xs:List Opd) (ys:List Operand),mOs xs ys=true→xs.length=ys.length∧∀(j:Nat) (x:Opd) (y:Operand),xs[j]? = some x→ys[j]? = some y→mO x y=true
 |[],[],_=>⟨rfl,by simp⟩
 |[],_::_,h=>by simp[mOs]at h
 |_::_,[],h=>by simp[mOs]at h
 |x::r,y::r',h=>by
  simp only[mOs,Ja]at h;obtain⟨h1,h2⟩:=Qam7 r r' h.2;refine⟨by simp[h1],fun j x' y' e1 e2=>?_⟩
  cases j with
  |zero=>simp at e1 e2;subst e1;subst e2;exact h.1
  |succ j=>exact h2 j x' y' (by simpa using e1) (by simpa using e2)
theorem Qaab {fs:Array Field}{zl:Nat}:∀(xs:List (Nat×Nat×Opd)) (ys:List (Nat×Operand)),Qali P fs zl xs ys=true→
  xs.length=ys.length∧∀(j:Nat) (x:Nat×Nat×Opd) (y:Nat×Operand),xs[j]? = some x→ys[j]? = some y→
   mO x.2.2 y.2=true∧(∃f,fs[y.1]? = some f∧f.offset=x.1∧P.cellsOf f.type=x.2.1)∧x.1+x.2.1≤zl∧x.2.1≠0
 |[],[],_=>⟨rfl,by simp⟩
 |[],_::_,h=>by simp[Qali]at h
 |_::_,[],h=>by simp[Qali]at h
 |(off,sz,x)::r,(i,y)::r',h=>by
  simp only[Qali,Ja,decide_eq_true_eq]at h;obtain⟨⟨⟨⟨h1,h2⟩,h3⟩,h4⟩,h5⟩:=h;obtain⟨k1,k2⟩:=Qaab r r' h5;refine⟨by simp[k1],fun j x' y' e1 e2=>?_⟩
  cases j with
  |zero=>
   simp at e1 e2;subst e1;subst e2;refine⟨h1,?_,h3,h4⟩;split at h2
   ·rename_i f hf;simp at h2;exact⟨f,hf,h2.1,h2.2⟩
   ·simp at h2
  |succ j=>exact k2 j x' y' (by simpa using e1) (by simpa using e2)
theorem Qaac:∀(k:Nat) (xs:List Opd) (ys:List (Nat×Operand)),mRow k xs ys=true→
  xs.length=ys.length∧∀(j:Nat) (x:Opd) (y:Nat×Operand),xs[j]? = some x→ys[j]? = some y→y.1=k+j∧mO x y.2=true
 |_,[],[],_=>⟨rfl,by simp⟩
 |_,[],_::_,h=>by simp[mRow]at h
 |_,_::_,[],h=>by simp[mRow]at h
 |k,x::r,(i,y)::r',h=>by
  simp only[mRow,Ja,beq_iff_eq]at h;obtain⟨⟨h1,h2⟩,h3⟩:=h;obtain⟨k1,k2⟩:=Qaac (k+1) r r' h3;refine⟨by simp[k1],fun j x' y' e1 e2=>?_⟩
  cases j with
  |zero=>simp at e1 e2;subst e1;subst e2;exact⟨by simp[h1],h2⟩
  |succ j=>
   have:=k2 j x' y' (by simpa using e1) (by simpa using e2);exact⟨by rw[this.1];omega,this.2⟩
def Qa1b (P:Program)(t:TypeId)(n:Nat)(agg:Bool):Bool:=
 match P.underlying t,P.info? t with
 |some d,some i=>Qio d == agg&&(if agg then i.size == n else n == 1)
 |_,_=>false
theorem Qka {t:TypeId}{n:Nat}{agg:Bool}(h:Qa1b P t n agg=true) :
  ∃d i,P.underlying t=some d∧P.info? t=some i∧Qio d=agg∧(agg=true→i.size=n)∧(agg=false→n=1):=by
 unfold Qa1b at h;split at h
 ·rename_i d i hd hi
  simp only[Ja,beq_iff_eq]at h;refine⟨d,i,hd,hi,h.1,fun ha=>?_,fun ha=>?_⟩
  ·subst ha;simpa using h.2
  ·subst ha;simpa using h.2
 ·simp at h
def Qag6 (P:Program)(t:TypeId)(sz:Nat):Bool:=
 match P.info? t with
 |some i=>i.size == sz
 |none=>false
theorem Qdu {t:TypeId}{sz:Nat}(h:Qag6 P t sz=true):∃i,P.info? t=some i∧i.size=sz:=by
 unfold Qag6 at h;split at h
 ·rename_i i hi;exact⟨i,hi,by simpa using h⟩
 ·simp at h
def Qbfz (P:Program)(t:TypeId)(zero:List C):Bool:=
 match P.info? t with
 |some i=>(match i.zero with
  |some z=>Qa8a zero z
  |none=>false)
 |none=>false
theorem Qtt {t:TypeId}{zero:List C}(h:Qbfz P t zero=true):∃i z,P.info? t=some i∧i.zero=some z∧Qa8a zero z=true:=by
 unfold Qbfz at h;split at h
 ·rename_i i hi
  split at h
  ·rename_i z hz;exact⟨i,z,hi,hz,h⟩
  ·simp at h
 ·simp at h
def Qbp1 (d:TypeDesc)(tag:Nat):Bool:=
 match d,tag with
 |.int .i64,0=>true
 |.string,1=>true
 |.bool,2=>true
 |_,_=>false
theorem Qbal {d:TypeDesc}{tag:Nat}(h:Qbp1 d tag=true):d=tagD tag:=by
 unfold Qbp1 at h;split at h <;> first|rfl|simp at h
def mF (P:Program)(o:Oper):FOp→Bool
 |.mv x=>match o.op with
  |.move y=>mO x y
  |.assign y=>mO x y
  |_=>false
 |.pick c a b=>match o.op with
  |.pick c' a' b'=>mO c c'&&mO a a'&&mO b b'
  |_=>false
 |.bin tag op a b=>match o.op with
  |.binOp op' t a' b' _=>op == op'&&mTag P tag t&&mO a a'&&mO b b'
  |_=>false
 |.not a=>match o.op with
  |.unOp .not _ a'=>mO a a'
  |_=>false
 |.fad off a=>match o.op with
  |.fieldAddr s y k=>mO a y&&(match P.underlying s with
   |some (.struct fs)=>(match fs[k]? with
    |some f=>f.offset == off&&(match P.info? f.type with
     |some i=>decide (i.size≠0)
     |none=>false)
    |none=>false)
   |_=>false)
  |_=>false
 |.iad sz a i=>match o.op with
  |.indexAddr t a' i'=>mO a a'&&mO i i'&&(match P.underlying t with
   |some (.slice el)=>Qag6 P el sz
   |_=>false)
  |_=>false
 |.ld n agg a=>match o.op with
  |.load t a'=>mO a a'&&Qa1b P t n agg
  |_=>false
 |.nck a=>match o.op with
  |.nilCheck a'=>mO a a'
  |_=>false
 |.len a=>match o.op with
  |.call { callee:=.builtin .len,args:=⟨[a']⟩,argTypes:=ats }=>mO a a'&&(match ats[0]? with
   |some t=>(match P.underlying t with
    |some (.slice _)=>true
    |_=>false)
   |none=>false)
  |_=>false
 |.lens a=>match o.op with
  |.call { callee:=.builtin .len,args:=⟨[a']⟩,argTypes:=ats }=>mO a a'&&(match ats[0]? with
   |some t=>(match P.underlying t with
    |some .string=>true
    |_=>false)
   |none=>false)
  |_=>false
 |.lenm a=>false
 |.sli sz a lo hi=>match o.op with
  |.slice t a' lo' hi' none=>mO a a'&&mOpt lo lo'&&mOpt hi hi'&&(match P.underlying t with
   |some (.slice el)=>Qag6 P el sz
   |_=>false)
  |_=>false
 |.iaa sz n a i=>match o.op with
  |.indexAddr t a' i'=>mO a a'&&mO i i'&&(match P.underlying t with
   |some (.array m el)=>m == n&&Qag6 P el sz
   |_=>false)
  |_=>false
 |.aslp n a hi=>match o.op with
  |.slice t a' none hi' none=>mO a a'&&mOpt hi hi'&&(match P.underlying t with
   |some (.array m el)=>m == n&&(P.info? el).isSome
   |_=>false)
  |_=>false
 |.slm sz a hi=>match o.op with
  |.slice t a' none (some h1) (some h2)=>mO a a'&&mO hi h1&&mO hi h2&&(match P.underlying t with
   |some (.slice el)=>Qag6 P el sz
   |_=>false)
  |_=>false
 |.ldg n b _=>match o.op with
  |.load t (.global b')=>b' == b&&Qa1b P t n true
  |_=>false
 |.iax sz n a i=>match o.op with
  |.index t a' i'=>mO a a'&&mO i i'&&(match P.underlying t with
   |some (.array m el)=>m == n&&Qa1b P el sz true
   |_=>false)
  |_=>false
 |.asl n a=>false
 |.slis a lo hi=>match o.op with
  |.slice t a' lo' hi' none=>mO a a'&&mOpt lo lo'&&mOpt hi hi'&&(match P.underlying t with
   |some .string=>true
   |_=>false)
  |_=>false
 |.ext a i=>match o.op with
  |.extract a' i'=>mO a a'&&i == i'
  |_=>false
 |.fld off n agg a=>match o.op with
  |.field s y k=>mO a y&&(match P.underlying s with
   |some (.struct fs)=>(match fs[k]? with
    |some f=>f.offset == off&&Qa1b P f.type n agg
    |none=>false)
   |_=>false)
  |_=>false
 |.idx a i=>match o.op with
  |.index t a' i'=>mO a a'&&mO i i'&&(match P.underlying t with
   |some .string=>true
   |_=>false)
  |_=>false
 |.bld zero parts=>match o.op with
  |.build t parts'=>(match P.underlying t with
   |some (.struct fs)=>Qbfz P t zero&&fs.toList.all (fun f=>(P.info? f.type).isSome)&&Qali P fs zero.length parts parts'.toList
   |_=>false)
  |_=>false
 |.bsl sz parts=>match o.op with
  |.buildSlice t n parts'=>n == parts'.size&&decide (n * sz≤2 ^ 24)&&mRow 0 parts parts'.toList&&decide (sz≠0)&&(match P.underlying t with
   |some (.slice el)=>Qag6 P el sz&&(match P.info? el with
    |some i=>i.zero.isSome
    |none=>false)
   |_=>false)
  |_=>false
 |.box a=>match o.op with
  |.box _ a'=>mO a a'
  |_=>false
 |.cvt k a=>match o.op with
  |.convert src dst a'=>mO a a'&&(match P.underlying dst,P.underlying src with
   |some (.int k'),some _=>k == k'
   |_,_=>false)
  |_=>false
 |.mkf f caps=>match o.op with
  |.makeFunc (.func f') ⟨[]⟩ caps'=>f == f'&&mOs caps caps'.toList
  |_=>false
 |.lup tag zero m k=>false
 |.lup2 tag zero m k=>false
 |.mx a b=>false
 |.mn a b=>match o.op with
  |.call { callee:=.builtin .min,args:=⟨[a',b']⟩,argTypes:=_ }=>mO a a'&&mO b b'
  |_=>false
theorem Qarr {op:FOp}(hm:mF P o op=true)(hs:Sat H g w)(he:EnvOk w g e a)(hp:p=true)(ho:op.obl p e H):FOk P H g w e a o op:=by
 cases op with
 |mv x=>
  simp only[mF]at hm;split at hm
  ·exact s_mv (.inl ‹_›) hm hs he hp ho
  ·exact s_mv (.inr ‹_›) hm hs he hp ho
  ·simp at hm
 |pick c x y=>
  simp only[mF]at hm;split at hm
  ·simp only[Ja]at hm;exact Qbsw ‹_› hm.1.1 hm.1.2 hm.2 hs he hp ho
  ·simp at hm
 |bin tag bo x y=>
  simp only[mF]at hm;split at hm
  ·simp only[Ja,beq_iff_eq]at hm;obtain⟨⟨⟨rfl,h2⟩,h3⟩,h4⟩:=hm;exact Qbtt ‹_› h2 h3 h4 hs he hp ho
  ·simp at hm
 |not x=>
  simp only[mF]at hm;split at hm
  ·exact Qbua ‹_› hm hs he hp ho
  ·simp at hm
 |fad off x=>
  simp only[mF]at hm;split at hm
  ·rename_i s y k hop
   rw[Ja]at hm;obtain⟨h1,h2⟩:=hm;split at h2
   ·rename_i fs hfs
    split at h2
    ·rename_i f hf
     rw[Ja]at h2;obtain⟨h3,h4⟩:=h2;split at h4
     ·rename_i i hi
      exact Qbtz hop hfs hf (by simpa using h3) hi (by simpa using h4) h1 hs he hp ho
     ·simp at h4
    ·simp at h2
   ·simp at h2
  ·simp at hm
 |iad sz x y=>
  simp only[mF]at hm;split at hm
  ·rename_i t x' y' hop
   simp only[Ja]at hm;obtain⟨⟨h1,h2⟩,h3⟩:=hm;split at h3
   ·rename_i el hel
    obtain⟨i,hi,hz⟩:=Qdu h3;exact Qbt2 hop hel hi hz h1 h2 hs he hp ho
   ·simp at h3
  ·simp at hm
 |ld n agg x=>
  simp only[mF]at hm;split at hm
  ·rename_i t x' hop
   rw[Ja]at hm;obtain⟨d,i,h1,h2,h3,h4,h5⟩:=Qka hm.2;exact s_ld hop h1 h2 h3 h4 h5 hm.1 hs he hp ho
  ·simp at hm
 |nck x=>
  simp only[mF]at hm;split at hm
  ·exact Qbt9 ‹_› hm hs he hp ho
  ·simp at hm
 |len x=>
  simp only[mF]at hm;split at hm
  ·rename_i x' ats hop
   rw[Ja]at hm;obtain⟨h1,h2⟩:=hm;split at h2
   ·rename_i t ht
    split at h2
    ·exact Qbt7 hop ht ‹_› h1 hs he hp ho
    ·simp at h2
   ·simp at h2
  ·simp at hm
 |lens x=>
  simp only[mF]at hm;split at hm
  ·rename_i x' ats hop
   rw[Ja]at hm;obtain⟨h1,h2⟩:=hm;split at h2
   ·rename_i t ht
    split at h2
    ·exact Qbsv hop ht ‹_› h1 hs he hp ho
    ·simp at h2
   ·simp at h2
  ·simp at hm
 |lenm x=>
  simp[mF]at hm
 |sli sz x lo hi=>
  simp only[mF]at hm;split at hm
  ·rename_i t x' lo' hi' hop
   simp only[Ja]at hm;obtain⟨⟨⟨h1,h2⟩,h3⟩,h4⟩:=hm;split at h4
   ·rename_i el hel
    obtain⟨i,hi,hz⟩:=Qdu h4;exact Qbub hop hel hi hz h1 h2 h3 hs he hp ho
   ·simp at h4
  ·simp at hm
 |iaa sz n x y=>
  simp only[mF]at hm;split at hm
  ·rename_i t x' y' hop
   simp only[Ja]at hm;obtain⟨⟨h1,h2⟩,h3⟩:=hm;split at h3
   ·rename_i m el hel
    rw[Ja,beq_iff_eq]at h3;obtain⟨rfl,h3⟩:=h3;obtain⟨i,hi,hz⟩:=Qdu h3;exact Qbt1 hop hel hi hz h1 h2 hs he hp ho
   ·simp at h3
  ·simp at hm
 |aslp n x hi=>
  simp only[mF]at hm;split at hm
  ·rename_i t x' hi' hop
   simp only[Ja]at hm;obtain⟨⟨h1,h4⟩,h2⟩:=hm;split at h2
   ·rename_i m el hu2
    rw[Ja,beq_iff_eq]at h2;obtain⟨rfl,h3⟩:=h2;obtain⟨i,hi⟩:=J3.1 h3;exact Qbsp hop hu2 hi h1 h4 hs he hp ho
   ·simp at h2
  ·simp at hm
 |slm sz x hi=>
  simp only[mF]at hm;split at hm
  ·rename_i t x' h1' h2' hop
   simp only[Ja]at hm;obtain⟨⟨⟨h1,h2⟩,h3⟩,h4⟩:=hm;split at h4
   ·rename_i el hel
    obtain⟨i,hi,hz⟩:=Qdu h4;exact Qbuc hop hel hi h1 h2 h3 hs he hp ho
   ·simp at h4
  ·simp at hm
 |ldg n b l=>
  simp only[mF]at hm;split at hm
  ·rename_i t b' hop
   simp only[Ja,beq_iff_eq]at hm;obtain⟨rfl,h2⟩:=hm;obtain⟨d,i,k1,k2,k3,k4,k5⟩:=Qka h2;exact Qbt6 hop k1 k2 k3 (k4 rfl) hs ho
  ·simp at hm
 |iax sz n x y=>
  simp only[mF]at hm;split at hm
  ·rename_i t x' y' hop
   simp only[Ja]at hm;obtain⟨⟨h1,h2⟩,h3⟩:=hm;split at h3
   ·rename_i m el hel
    rw[Ja,beq_iff_eq]at h3;obtain⟨rfl,h3⟩:=h3;obtain⟨d,i,k1,k2,k3,k4,k5⟩:=Qka h3;exact Qbt3 hop hel k1 k3 k2 (k4 rfl) h1 h2 hs he hp ho
   ·simp at h3
  ·simp at hm
 |asl n x=>
  simp[mF]at hm
 |slis x lo hi=>
  simp only[mF]at hm;split at hm
  ·rename_i t x' lo' hi' hop
   simp only[Ja]at hm;obtain⟨⟨⟨h1,h2⟩,h3⟩,h4⟩:=hm;split at h4
   ·exact Qbsx hop ‹_› h1 h2 h3 hs he hp ho
   ·simp at h4
  ·simp at hm
 |ext x i=>
  simp only[mF]at hm;split at hm
  ·rename_i x' i' hop
   simp only[Ja,beq_iff_eq]at hm;obtain⟨h1,rfl⟩:=hm;exact Qbty hop h1 hs he hp ho
  ·simp at hm
 |fld off n agg x=>
  simp only[mF]at hm;split at hm
  ·rename_i s y k hop
   rw[Ja]at hm;obtain⟨h1,h2⟩:=hm;split at h2
   ·rename_i fs hfs
    split at h2
    ·rename_i f hf
     rw[Ja]at h2;obtain⟨h3,h4⟩:=h2;obtain⟨d,i,k1,k2,k3,k4,k5⟩:=Qka h4;exact Qbt0 hop hfs hf (by simpa using h3) k2 k1 k3 k4 k5 h1 hs he hp ho
    ·simp at h2
   ·simp at h2
  ·simp at hm
 |idx x y=>
  simp only[mF]at hm;split at hm
  ·rename_i t x' y' hop
   simp only[Ja]at hm;obtain⟨⟨h1,h2⟩,h3⟩:=hm;split at h3
   ·exact Qbt4 hop ‹_› h1 h2 hs he hp ho
   ·simp at h3
  ·simp at hm
 |bld zero parts=>
  simp only[mF]at hm;split at hm
  ·rename_i t parts' hop
   split at hm
   ·rename_i fs hfs
    simp only[Ja]at hm;obtain⟨⟨h1,h2⟩,h3⟩:=hm;obtain⟨i,z,k1,k2,k3⟩:=Qtt h1;obtain⟨k4,k5⟩:=Qaab _ _ h3;rw[J7]at h2;refine Qbtu hop hfs k1 k2 k3 (fun f hf=>J3.1 (h2 f hf)) (by simpa using k4) (fun j x y e1 e2=>k5 j x y e1 (by simpa using e2)) hs he hp ho
   ·simp at hm
  ·simp at hm
 |bsl sz parts=>
  simp only[mF]at hm;split at hm
  ·rename_i t n parts' hop
   simp only[Ja,decide_eq_true_eq,beq_iff_eq]at hm;obtain⟨⟨⟨⟨h1,h2⟩,h3⟩,h4⟩,h5⟩:=hm;split at h5
   ·rename_i el hel
    rw[Ja]at h5;obtain⟨i,hi,hz⟩:=Qdu h5.1;have h6:=h5.2;rw[hi]at h6;obtain⟨z,hz'⟩:=J3.1 h6;obtain⟨k1,k2⟩:=Qaac _ _ _ h3;exact Qbtw hop hel hi hz' hz h4 h1 h2 (by simpa using k1) (fun j x y e1 e2=>by
     have:=k2 j x y e1 (by simpa using e2);exact⟨by simpa using this.1,this.2⟩) hs he hp ho
   ·simp at h5
  ·simp at hm
 |box x=>
  simp only[mF]at hm;split at hm
  ·exact Qbtv ‹_› hm hs he hp ho
  ·simp at hm
 |cvt k x=>
  simp only[mF]at hm;split at hm
  ·rename_i src dst x' hop
   rw[Ja]at hm;obtain⟨h1,h2⟩:=hm;split at h2
   ·simp only[beq_iff_eq]at h2;subst h2;exact Qbtx hop ‹_› ‹_› h1 hs he hp ho
   ·simp at h2
  ·simp at hm
 |mkf f caps=>
  simp only[mF]at hm;split at hm
  ·rename_i f' caps' hop
   simp only[Ja,beq_iff_eq]at hm;obtain⟨rfl,h2⟩:=hm;obtain⟨k1,k2⟩:=Qam7 _ _ h2;exact Qbt8 hop (by simpa using k1) (fun j x y e1 e2=>k2 j x y e1 (by simpa using e2)) hs he hp ho
  ·simp at hm
 |lup tag zero m k=>
  simp[mF]at hm
 |lup2 tag zero m k=>
  simp[mF]at hm
 |mx x y=>
  simp[mF]at hm
 |mn x y=>
  simp only[mF]at hm;split at hm
  ·simp only[Ja]at hm;exact s_mn ‹_› hm.1 hm.2 hs he hp ho
  ·simp at hm
def EOk (P:Program)(H:Heap)(g:G)(w:World)(a:Act)(o:Oper)(K:V→Heap→Prop):Prop:=
 ∀(Q:Exit→Act→World→Prop) (next:Act→World→Prop),
  (∀x v w' H' g',K x H'→Stp H g w H' g' w'→RepV w' g' x v→next (a.put o.dst v) w')→
  (∀v w' H' g',K (.pn v) H'→Stp H g w H' g' w'→Q (.panic [{ v:=v,recovered:=false }]) a w')→o.wp P a w next Q
theorem EOk.value {K:V→Heap→Prop}{v:Value}{w':World}{x:V}{H':Heap}{g':G}(hr:(execOp a.eval o).run P w=.ok (.value v) w')(hk:K x H')(hst:Stp H g w H' g' w')(hv:RepV w' g' x v) :
  EOk P H g w a o K:=by
 intro Q next hn hpan;unfold Oper.wp;rw[hr,Oper.upon_value];exact hn x v w' H' g' hk hst hv
theorem EOk.skip {K:V→Heap→Prop}{w':World}{H':Heap}{g':G}(hr:(execOp a.eval o).run P w=.ok .skip w')(hk:K .unk H')(hst:Stp H g w H' g' w') :
  EOk P H g w a o K:=by
 intro Q next hn hpan;unfold Oper.wp;rw[hr,Oper.upon_skip];exact hn .unk undef w' H' g' hk hst (.unk _)
theorem Sat.newName (hs:Sat H g w):∃l,g.io l=none∧H l=.none:=by
 obtain⟨N,hN⟩:=hs.names;exact⟨N,hN N (Jx _),hs.none_of_io (hN N (Jx _))⟩
def G.newObj (g:G)(l nb sz base:Nat):G:=
 { g with own:=fun b=>if b=nb then some (l,[])else g.own b,io:=fun x=>if x=l then some (nb,sz,base)else g.io x }
theorem Qfn (hs:Sat H g w){l:Nat}(hl:g.io l=none)(sz base:Nat)(x:Go.Obj):Le g w (g.newObj l w.heap.size sz base) (w.alloc x):=by
 refine⟨fun b hb=>⟨hb,Qfj _ _ (Qbg0 hs hb)⟩,fun m y hm=>?_,by simp,fun b T n hn=>?_,rfl,rfl,rfl⟩
 ·simp only[G.newObj];have:m≠l:=fun h=>by subst h;rw[hl]at hm;simp at hm
  rw[if_neg this];exact hm
 ·rw[Qfh (Qfj _ _ (Qaq2 hn))];exact hn
theorem Qasr (hs:Sat H g w){l:Nat}(sz base:Nat)(x:Go.Obj)(m:Nat):Q0z g w (g.newObj l w.heap.size sz base) (w.alloc x) m:=by
 intro b q hb;have:=Qalm hs hb;refine⟨?_,Qfj _ _ this⟩;simp only[G.newObj];rw[if_neg (by omega)];exact hb
theorem Qe6 (hs:Sat H g w){l:Nat}(hl:g.io l=none)(sz base:Nat)(x:Go.Obj)(ob:Obj)
  (hob:∀g',g'=g.newObj l w.heap.size sz base→SatObj (H.set l ob) g' (w.alloc x) l ob) :
  Stp H g w (H.set l ob) (g.newObj l w.heap.size sz base) (w.alloc x):=by
 have hle:=Qfn hs hl sz base x;have hk:=Qasr hs (l:=l) sz base x;have hH:H l=.none:=hs.none_of_io hl;refine⟨hle,fun m hm hn=>?_,⟨fun b hb=>?_,?_,fun b y hb=>?_,fun b m q hb=>?_,fun m=>?_⟩⟩
 ·have:m≠l:=fun h=>by subst h;exact hm hl
  rw[Heap.set_other _ _ this];exact⟨hn,fun b q hb=>hk m b q hb⟩
 ·simp only[World.size_alloc]at hb;refine⟨(hs.fresh b (by omega)).1,?_⟩;simp only[G.newObj];rw[if_neg (by omega)];exact (hs.fresh b (by omega)).2
 ·obtain⟨N,hN⟩:=hs.names;refine⟨max N (l+1),fun m hm=>?_⟩;simp only[G.newObj];rw[if_neg (by omega)];exact hN m (by omega)
 ·simp only[G.newObj]at hb;split at hb
  ·rename_i h;subst h;exact (hs.fresh _ (Jx _)).1
  ·exact hs.excl b y hb
 ·simp only[G.newObj]at hb⊢;split at hb
  ·simp at hb;obtain⟨rfl,rfl⟩:=hb;simp
  ·split
   ·simp
   ·exact hs.named b m q hb
 ·by_cases hm:m=l
  ·subst hm;rw[Heap.set_same];exact hob _ rfl
  ·have hH':=Heap.set_other H ob hm;rw[hH',←hH'];refine SatObj.keep hs hle (hk m) hH' fun m' v left cur hc v' es hv=>?_;by_cases hm':m'=l
   ·subst hm';have hob':=hs.objs m;rw[hc]at hob';obtain⟨b,mb,si,se,h1,h2,h3,h4,h5⟩:=hob';rw[hl]at h4;simp at h4
   ·rw[Heap.set_other _ _ hm']at hv;exact .inl ⟨hv,hk m'⟩
theorem Qmu {l:Nat}{cells:List C}{vs:Array Value}{T:TypeId}{H':Heap}(hr:∀(j:Nat) (c:C) (u:Value),cells[j]? = some c→vs[j]? = some u→RepC w g c u)(hsz:vs.size=cells.length)
  (hle:Le g w (g.newObj l w.heap.size cells.length 0) (w.alloc (.cells vs T))) :
  SatObj H' (g.newObj l w.heap.size cells.length 0) (w.alloc (.cells vs T)) l (.st cells):=by
 refine⟨w.heap.size,cells.length,T,vs,by simp[G.newObj],by simp[G.newObj],Qc6 _ _,hsz,fun k c v h1 h2=>.plain _ _ _ _ ((hr k c v h1 h2).mono hle)⟩
theorem Qbo7 {cells:List C}{t:TypeId}{i:TypeInfo}{z:Value}{K:V→Heap→Prop}(hm:o.op=.alloc t)(hi:P.info? t=some i)(hz:i.zero=some z)(hzero:Qa8a cells z=true)
  (hs:Sat H g w) (ho:(EOp.alloc cells).eff P p e H K):EOk P H g w a o K:=by
 obtain⟨l,hl,hH⟩:=hs.newName;have hr:=Q0y (w:=w) (g:=g) hzero;have hle:=Qfn hs hl cells.length 0 (.cells z.cells t);have hst:=Qe6 hs hl cells.length 0 (.cells z.cells t) (.st cells) (fun g' hg=>by subst hg;exact Qmu hr.2 hr.1 hle);refine EOk.value (v:=.pointer (some ⟨w.heap.size,0,none⟩)) (x:=.c (.ptr l 0)) ?_ (ho l hH) hst ?_
 ·simp[execOp,hm,Instr.alloc,Qabe hi hz,newVar,newRow]
 ·exact .c _ _ (.ptr l 0 w.heap.size cells.length 0 (by simp[G.newObj]))
theorem Qbr0 {x:Opd}{x':Operand}{t:TypeId}{K:V→Heap→Prop}(hm:o.op=.box t x')(hx:mO x x'=true)
  (hs:Sat H g w) (he:EnvOk w g e a) (hp:p=true) (ho:(EOp.boxm x).eff P p e H K):EOk P H g w a o K:=by
 simp only[EOp.eff]at ho;obtain⟨h1,h2,h3⟩:=ho;have hr:=Qay he hx hp h1;obtain⟨hz,hc⟩:=Q9o hr h2;obtain⟨l,hl,hH⟩:=hs.newName;have hle:=Qfn hs hl (x.v e).cells.length 0 (.cells (a.eval x').cells t);have hst:=Qe6 hs hl (x.v e).cells.length 0 (.cells (a.eval x').cells t) (.st (x.v e).cells) (fun g' hg=>by subst hg;exact Qmu hc hz hle);refine EOk.value (v:=.pointer (some ⟨w.heap.size,0,none⟩)) (x:=.c (.ptr l 0)) ?_ (h3 l hH) hst ?_
 ·simp[execOp,hm,Instr.box,newVar,newRow]
 ·exact .c _ _ (.ptr l 0 w.heap.size (x.v e).cells.length 0 (by simp[G.newObj]))
def World.putCells (w:World)(b:Nat)(cs:Array Value)(T:TypeId):World:={ w with heap:=w.heap.setIfInBounds b (.cells cs T (0,0)) }
theorem Qcy {w:World}{b:Nat}{cs:Array Value}{T:TypeId}(h:b<w.heap.size):(World.putCells w b cs T).heap[b]? = some (.cells cs T (0,0)):=by
 simp[World.putCells,h]
theorem Qby {w:World}{b b':Nat}{cs:Array Value}{T:TypeId}(h:b'≠b):(World.putCells w b cs T).heap[b']? = w.heap[b']?:=by
 simp only[World.putCells];rw[Jp (Jbe h)]
theorem Q81 {w:World}{b k:Nat}{cs:Array Value}{T:TypeId}{v:Value}(h:w.heap[b]? = some (.cells cs T (0,0))) :
  w.setCell ⟨b,k,none⟩ v=World.putCells w b (cs.setIfInBounds k v) T:=by
 simp only[World.setCell,World.putCells];congr 1;apply Jae;apply Ja5;intro i;simp only[Jy,Array.getElem?_modify];by_cases hi:b=i
 ·subst hi;rw[if_pos rfl,h];have hlt:b<w.heap.size:=by
   rcases Ji b w.heap.size with h'|h'
   ·exact h'
   ·simp[Js h']at h
  simp[hlt]
 ·rw[if_neg hi,Jp hi]
theorem Q1v (w:World)(b:Nat)(cs cs':Array Value)(T:TypeId):World.putCells (World.putCells w b cs T) b cs' T=World.putCells w b cs' T:=by
 simp only[World.putCells,Array.setIfInBounds_setIfInBounds]
theorem Qiy:∀(vs:List Value) (i:Nat) (w:World) (b k:Nat) (cs:Array Value) (T:TypeId),w.heap[b]? = some (.cells cs T (0,0))→k+i+vs.length≤cs.size→(∀v∈vs,v.oneCell'=true)→
  (storeCells ⟨b,k,none⟩ vs i).run P w=.ok () (World.putCells w b ((vs.zipIdx i).foldl (fun (cs:Array Value) (x:Value×Nat)=>cs.setIfInBounds (k+x.2) x.1) cs) T)
 |[],i,w,b,k,cs,T,h,_,_=>by
  simp only[storeCells,Sem.run_pure,List.zipIdx_nil,List.foldl_nil];congr 1;simp only[World.putCells];have hlt:b<w.heap.size:=by
   rcases Ji b w.heap.size with h'|h'
   ·exact h'
   ·simp[Js h']at h
  have:w.heap.setIfInBounds b (.cells cs T (0,0))=w.heap:=by
   apply Jae;apply Ja5;intro j;simp only[Jy];by_cases hj:b=j
   ·subst hj;rw[h];simp[hlt]
   ·rw[Jp hj]
  rw[this]
 |v::vs,i,w,b,k,cs,T,h,hb,hv=>by
  simp only[J8]at hb;have hlt:k+i<cs.size:=by omega
  have hcell:w.cell? ⟨b,k+i,none⟩=some cs[k+i]:=by rw[Qcr h];exact Jc hlt
  have hfr:w.frozen? ⟨b,k+i,none⟩=false:=by simp[World.frozen?,h]
  have h1:=hv v (by simp);have hst:(store ⟨b,k+i,none⟩ v).run P w=.ok () (w.setCell ⟨b,k+i,none⟩ v):=by
   rw[run_store _ _ _ _ _ h1];simp[hcell,hfr]
  have hblt:b<w.heap.size:=by
   rcases Ji b w.heap.size with h'|h'
   ·exact h'
   ·simp[Js h']at h
  simp only[storeCells,Sem.run_bind,Qb2,hst,Result.andThen_ok];rw[Q81 h];rw[Qiy vs (i+1) _ b k (cs.setIfInBounds (k+i) v) T (Qcy hblt) (by simp;omega) (fun x hx=>hv x (by simp[hx]))];rw[Q1v];rfl
theorem Qbee (hs:Sat H g w){l b:Nat}(hb:g.own b=some (l,[])){w':World}(hsz:w'.heap.size=w.heap.size)(hot:∀b',b'≠b→w'.heap[b']? = w.heap[b']?)
  (hsh:∀T n,w.shape? b=some (T,n)→w'.shape? b=some (T,n)) (ht:w'.tape=w.tape) (hos:w'.os=w.os) (hou:w'.output=w.output):Le g w g w':=by
 refine⟨fun b' hb'=>⟨hb',hot b' fun h=>?_⟩,fun _ _ h=>h,by omega,fun b' T n hn=>?_,ht,hos,hou⟩
 ·subst h;rw[hs.excl _ _ hb]at hb';simp at hb'
 ·by_cases h:b'=b
  ·subst h;exact hsh T n hn
  ·rw[Qfh (hot b' h)];exact hn
theorem Qarj {l b:Nat}(hb:g.own b=some (l,[])){w':World}(hot:∀b',b'≠b→w'.heap[b']? = w.heap[b']?){m:Nat}(hm:m≠l):Q0z g w g w' m:=by
 intro b' q hq;refine⟨hq,hot b' fun h=>?_⟩;subst h;rw[hb]at hq;simp at hq;exact hm hq.1.symm
theorem Qlp {l b:Nat}(hb:g.own b=some (l,[])){w':World}(hle:Le g w g w')(hot:∀b',b'≠b→w'.heap[b']? = w.heap[b']?){q:List Nat}(hq:q≠[]){c:C}{v:Value}
  (h:RepO w g l q c v):RepO w' g l q c v:=by
 refine h.move hle fun r b' hb'=>⟨hb',hot b' fun h=>?_⟩;subst h;rw[hb]at hb';simp only[Je,Ju,true_and]at hb';have:=congrArg List.length hb';simp at this;exact hq (Jz.1 (by omega))
theorem Qbdx (hs:Sat H g w){l b:Nat}(hb:g.own b=some (l,[])){w':World}(hsz:w'.heap.size=w.heap.size)(hot:∀b',b'≠b→w'.heap[b']? = w.heap[b']?)
  (hsh:∀T n,w.shape? b=some (T,n)→w'.shape? b=some (T,n)) (ht:w'.tape=w.tape) (hos:w'.os=w.os) (hou:w'.output=w.output) (ob:Obj) (hl0:H l≠.none)
  (hob:Le g w g w'→SatObj (H.set l ob) g w' l ob) (hver:∀v es,ob=.map v es→∃v0 es0,H l=.map v0 es0∧v0<v):Stp H g w (H.set l ob) g w':=by
 have hle:=Qbee hs hb hsz hot hsh ht hos hou;have hk:=fun (m:Nat) (hm:m≠l)=>Qarj (g:=g) (w:=w) hb hot hm;refine⟨hle,fun m hm hn=>?_,⟨fun b' hb'=>hs.fresh b' (by omega),hs.names,hs.excl,hs.named,fun m=>?_⟩⟩
 ·have:m≠l:=fun h=>hl0 (h▸hn);rw[Heap.set_other _ _ this];exact⟨hn,fun b' q hq=>hk m this b' q hq⟩
 ·by_cases hm:m=l
  ·subst hm;rw[Heap.set_same];exact hob hle
  ·have hH':=Heap.set_other H ob hm;rw[hH',←hH'];refine SatObj.keep hs hle (hk m hm) hH' fun m' v left cur hc v' es hv=>?_;by_cases hm':m'=l
   ·subst hm';rw[Heap.set_same]at hv;obtain⟨v0,es0,q1,q2⟩:=hver v' es hv;exact .inr ⟨v0,es0,q1,q2⟩
   ·rw[Heap.set_other _ _ hm']at hv;exact .inl ⟨hv,hk m' hm'⟩
theorem Qamk {w:World}{b:Nat}{x:Go.Obj}(h:w.heap[b]? = some x):b<w.heap.size:=by
 rcases Ji b w.heap.size with h'|h'
 ·exact h'
 ·simp[Js h']at h
theorem Qit (hs:Sat H g w){l b:Nat}(hb:g.own b=some (l,[])){cs cs':Array Value}{T:TypeId}(hw:w.heap[b]? = some (.cells cs T (0,0)))(hsz:cs'.size=cs.size)(ob:Obj)(hl0:H l≠.none)
  (hob:Le g w g (World.putCells w b cs' T)→(World.putCells w b cs' T).heap[b]? = some (.cells cs' T (0,0))→SatObj (H.set l ob) g (World.putCells w b cs' T) l ob)
  (hver:∀v es,ob≠.map v es):Stp H g w (H.set l ob) g (World.putCells w b cs' T):=by
 have hlt:=Qamk hw;refine Qbdx hs hb (by simp[World.putCells]) (fun b' h=>Qby h) (fun T' n hn=>?_) rfl rfl rfl ob hl0 (fun hle=>hob hle (Qcy hlt)) (fun v es h=>absurd h (hver v es));simp only[World.shape?,hw,Je,Ju]at hn;simp only[World.shape?,Qcy hlt,Je,Ju];rw[hsz];exact hn
theorem Qama {row vs:List C}{k j:Nat}(hb:k+vs.length≤row.length):(Qwj row k vs)[j]? = if k≤j∧j<k+vs.length then vs[j-k]? else row[j]?:=by
 unfold Qwj;by_cases hj:k≤j∧j<k+vs.length
 ·rw[if_pos hj,J0,Jl (by simp;omega),Jk (by simp;omega)];congr 1;simp;omega
 ·rw[if_neg hj];by_cases hl:j<k
  ·rw[J0,Jk (by simp;omega),Jn,if_pos hl]
  ·rw[Jl (by simp;omega),Jq];congr 1;simp;omega
theorem Qamb {row vs:List C}{k:Nat}(hb:k+vs.length≤row.length):(Qwj row k vs).length=row.length:=by
 simp[Qwj];omega
theorem Qbtj {n:Nat}{x y:Opd}{x' y':Operand}{t:TypeId}{i:TypeInfo}{K:V→Heap→Prop}(hm:o.op=.store t x' y')(hi:P.info? t=some i)(hsz:i.size=n)(hx:mO x x'=true)(hy:mO y y'=true)
  (hs:Sat H g w) (he:EnvOk w g e a) (hp:p=true) (ho:(EOp.sto n x y).eff P p e H K):EOk P H g w a o K:=by
 simp only[EOp.eff]at ho;obtain⟨h1,h2,h3,h4,h5,h6⟩:=ho;have hr:=Qay he hx hp h1;have hry:=Qay he hy hp h2;have hcl:=Qg6 hry (fun hn=>by rw[hn]at h4;simp at h4;omega);rw[Qip h3]at hr;have hrc:=hr.c_inv;generalize hq:a.eval x'=xv at hrc;generalize hcc:(x.v e).c1=cc at hrc h6;have hone:∀v∈(a.eval y').cells.toList,v.oneCell'=true:=by
  intro v hv;obtain⟨j,hj⟩:=List.getElem?_of_mem hv;have hj':(a.eval y').cells[j]? = some v:=by simpa using hj
  have hlt:j<(y.v e).cells.length:=by
   rw[←hcl.1];rcases Ji j (a.eval y').cells.size with h|h
   ·exact h
   ·rw[Js h]at hj';simp at hj'
  exact (hcl.2 j _ v (Jd hlt) hj').one
 have run:∀(b k:Nat) (cs:Array Value) (T:TypeId),xv=.pointer (some ⟨b,k,none⟩)→w.heap[b]? = some (.cells cs T (0,0))→k+n≤cs.size→
   ∃cs':Array Value,(execOp a.eval o).run P w=.ok .skip (World.putCells w b cs' T)∧cs'.size=cs.size∧
    ∀j,cs'[j]? = if k≤j∧j<k+n then (a.eval y').cells[j-k]? else cs[j]?:=by
  intro b k cs T hv hw hb;have hlen:(a.eval y').cells.toList.length=n:=by simp[hcl.1,h4]
  have hf:=fun j=>Qyd k (a.eval y').cells.toList 0 cs j (by rw[hlen];omega);refine⟨_,?_,(hf 0).1,fun j=>?_⟩
  ·have hzz:(a.eval y').cells.size=n:=by rw[hcl.1,h4]
   simp only[execOp,hm,hq,hv,Instr.storeAt,Instr.sureAddr,Sem.run_bind,Sem.run_pure,Result.andThen_ok,storeVar,Qbi hi,hsz];rw[if_neg (by simp[hzz])];rw[Qiy _ 0 w b k cs T hw (by rw[hlen];omega) hone];rfl
  ·rw[(hf j).2];simp only[J1,hlen,Jy]
 cases hrc with
 |ptr l k b sz base hio=>
  simp only[Qagw]at h6;split at h6
  ·rename_i cells hH
   obtain⟨h7,h8⟩:=h6;have hob:=hs.objs l;rw[hH]at hob;obtain⟨b',sz',T,cs,q1,q2,q3,q4,q5⟩:=hob;rw[hio]at q1;simp only[Je,Ju]at q1;obtain⟨rfl,rfl,rfl⟩:=q1;obtain⟨cs',r1,r2,r3⟩:=run b (0+k) cs T rfl q3 (by omega);refine EOk.skip (g':=g) r1 h8 ?_;refine Qit hs q2 q3 r2 _ (by rw[hH];simp) (fun hle hw'=>?_) (by simp);refine⟨b,sz,T,cs',hio,q2,hw',by rw[r2,q4,Qamb h7],fun j c v e1 e2=>?_⟩;rw[Qama h7]at e1;rw[r3]at e2;by_cases hj:k≤j∧j<k+(y.v e).cells.length
   ·rw[if_pos hj]at e1;rw[if_pos (by omega)]at e2;exact .plain _ _ _ _ ((hcl.2 _ _ _ e1 (by rw[←e2];congr 1;omega)).mono hle)
   ·rw[if_neg hj]at e1;rw[if_neg (by omega)]at e2;exact Qlp q2 hle (fun b' h=>Qby h) (by simp) (q5 j c v e1 e2)
  ·exact h6.elim
 |ep s z i k b off m cap hsl hz hin=>
  simp only[Qagw]at h6;split at h6
  ·simp_all
  ·rename_i l sz st nn z' i' k' heq
   simp only[C.ep.injEq]at heq;obtain⟨rfl,rfl,rfl,rfl⟩:=heq;split at h6
   ·rename_i y' rows hH
    obtain⟨rfl,rfl,h7,h8,h9,h10⟩:=h6;have hob:=hs.objs l;rw[hH]at hob
    cases hsl with
    |vslnil=>omega
    |vsl _ _ _ _ _ _ base T mm hio hn hsh hmm=>
     obtain⟨b',base',T',cs,val,q1,q2,q3,q4,q5,q6,q7,q8⟩:=SatVec.of hob hio;rw[hio]at q1;simp only[Je,Ju,true_and]at q1;obtain⟨rfl,rfl⟩:=q1;have hrow:rows[st+i]? = some (rows.getD (st+i) []):=by
      rw[J2,Jd (by omega)];rfl
     generalize hrw:rows.getD (st+i) []=row at hrow h10;have hrl:=q6 _ _ hrow;have hfit:(st+i) * z+z≤rows.length * z:=by
      have:(st+i+1) * z≤rows.length * z:=Jj _ (by omega);rw[Jg,Jai]at this;exact this
     obtain⟨cs',r1,r2,r3⟩:=run b (base+st * z+i * z+k) cs T' rfl q3 (by
      have:st * z+i * z=(st+i) * z:=(by rw[Jg]);omega)
     refine EOk.skip (g':=g) r1 h10 ?_;refine Qit hs q2 q3 r2 _ (by rw[hH];simp) (fun hle hw'=>?_) (by simp);have hfl:k+(y.v e).cells.length≤row.length:=(by omega);have hnew:∀(i2:Nat) (row2:List C) (j:Nat) (c:C),(rows.set (st+i) (Qwj row k (y.v e).cells))[i2]? = some row2→row2[j]? = some c→
       ∃v,cs'[base+i2 * z+j]? = some v∧RepO (World.putCells w b cs' T') g l [i2,j] c v:=by
      intro i2 row2 j c e1 e2;have hst:st * z+i * z=(st+i) * z:=(by rw[Jg]);rw[Ja6]at e1;split at e1
      ·rename_i hii
       subst hii;rw[if_pos (by omega)]at e1;simp only[Je]at e1;subst e1;rw[Qama hfl]at e2;by_cases hj:k≤j∧j<k+(y.v e).cells.length
       ·rw[if_pos hj]at e2;have hjl:j-k<(a.eval y').cells.size:=(by rw[hcl.1];omega);refine⟨(a.eval y').cells[j-k],?_,?_⟩
        ·rw[r3,if_pos (by omega)];rw[show base+(st+i) * z+j-(base+st * z+i * z+k)=j-k by omega];exact Jc hjl
        ·exact .plain _ _ _ _ ((hcl.2 _ _ _ e2 (Jc hjl)).mono hle)
       ·rw[if_neg hj]at e2;refine⟨val (st+i) j,?_,Qlp q2 hle (fun b' h=>Qby h) (by simp) (q8 _ _ _ _ hrow e2)⟩;rw[r3,if_neg (by omega)];exact q7 _ _ _ _ hrow e2
      ·rename_i hii
       have hj2:=q6 _ _ e1;have hjlt:j<z:=by
        rw[←hj2];rcases Ji j row2.length with h|h
        ·exact h
        ·rw[Jf h]at e2;simp at e2
       refine⟨val i2 j,?_,Qlp q2 hle (fun b' h=>Qby h) (by simp) (q8 _ _ _ _ e1 e2)⟩;rw[r3,if_neg ?_]
       ·exact q7 _ _ _ _ e1 e2
       ·intro hcon;rcases Ji i2 (st+i)with h|h
        ·have:(i2+1) * z≤(st+i) * z:=Jj _ (by omega);rw[Jg,Jai]at this;omega
        ·have:(st+i+1) * z≤i2 * z:=Jj _ (by omega);rw[Jg,Jai]at this;omega
     refine .inr ⟨b,base,T',cs',fun i2 j=>cs'.getD (base+i2 * z+j) undef,hio,q2,hw',by rw[r2];simpa using q4,by simpa using q5,fun i2 row2 e1=>?_,fun i2 row2 j c e1 e2=>?_,fun i2 row2 j c e1 e2=>?_⟩
     ·rw[Ja6]at e1;split at e1
      ·rw[if_pos (by omega)]at e1;simp only[Je]at e1;subst e1;rw[Qamb hfl];exact hrl
      ·exact q6 _ _ e1
     ·obtain⟨v,f1,f2⟩:=hnew i2 row2 j c e1 e2;show _=some (cs'.getD (base+i2 * z+j) undef);rw[Jb,f1];rfl
     ·obtain⟨v,f1,f2⟩:=hnew i2 row2 j c e1 e2;show RepO _ _ _ _ _ (cs'.getD (base+i2 * z+j) undef);rw[Jb,f1];exact f2
   ·exact h6.elim
  ·exact h6.elim
 |_=>simp[Qagw]at h6
theorem Q03 {i j n sz:Nat}(hi:i<n)(hj:j<sz):i * sz+j<n * sz:=by
 have:(i+1) * sz≤n * sz:=Jj _ (by omega);rw[Jg,Jai]at this;omega
theorem Qdr {q n sz:Nat}(h:q<n * sz):q / sz<n∧q % sz<sz∧q / sz * sz+q % sz=q:=by
 have hz:0<sz:=by
  rcases Nat.eq_zero_or_pos sz with h0|h0
  ·subst h0;simp at h
  ·exact h0
 exact⟨Nat.div_lt_of_lt_mul (by rw[Ja9];exact h),Nat.mod_lt _ hz,by rw[Ja9];exact Nat.div_add_mod q sz⟩
theorem Qx5 (hs:Sat H g w){s:C}{v:Value}(h:RepC w g s v)(ho:okSl H s){sz:Nat}(hz:s.elemSz=sz)(hn:∀r∈rowsOf H s,noOw r=true) :
  ∃f:Nat→Value,(Builtin.firstCells sz (lenC s) v).run P w=.ok ((List.range (lenC s * sz)).map f).toArray w∧
   (∀q,q<lenC s * sz→(f q).oneCell'=true)∧
   ∀(i:Nat) (row:List C) (j:Nat) (c:C),(rowsOf H s)[i]? = some row→row[j]? = some c→RepC w g c (f (i * sz+j)):=by
 obtain⟨ad,cap,rfl,h1,h2,h3,h4⟩:=Qty hs h ho;by_cases h0:lenC s=0
 ·refine⟨fun _=>undef,?_,fun q hq=>by rw[h0]at hq;simp at hq,fun i row j c e1 _=>?_⟩
  ·rw[h0]
   cases ad with
   |none=>simp[Builtin.firstCells]
   |some x=>simp[Builtin.firstCells,loadCells,loadCellsFrom]
  ·have:(rowsOf H s)[i]? = none:=Jf (by omega);rw[this]at e1;simp at e1
 ·obtain⟨b,off,rfl,h5⟩:=h4 h0;rw[hz]at h3 h5;have known:∀(i:Nat) (row:List C) (j:Nat) (c:C),(rowsOf H s)[i]? = some row→row[j]? = some c→w.cell? ⟨b,off+(i * sz+j),none⟩=some (getV w b off (i * sz+j))∧RepC w g c (getV w b off (i * sz+j)):=by
   intro i row j c e1 e2;obtain⟨u,k1,k2⟩:=h5 i row j c e1 e2 (Qbgx (hn row (Jm e1)) e2);rw[Jao]at k1;simp only[getV,k1,J9];exact⟨trivial,k2⟩
  have flat:∀q,q<lenC s * sz→w.cell? ⟨b,off+q,none⟩=some (getV w b off q)∧(getV w b off q).oneCell'=true:=by
   intro q hq;obtain⟨a1,a2,a3⟩:=Qdr hq;have e1:(rowsOf H s)[q / sz]? = some ((rowsOf H s)[q / sz]'(by omega)):=Jd (by omega);have hl:=h3 _ _ e1;have e2:((rowsOf H s)[q / sz]'(by omega))[q % sz]? = some (((rowsOf H s)[q / sz]'(by omega))[q % sz]'(by omega)):=Jd (by omega);have:=known _ _ _ _ e1 e2;rw[a3]at this;exact⟨this.1,this.2.one⟩
  refine⟨getV w b off,?_,fun q hq=>(flat q hq).2,fun i row j c e1 e2=>(known i row j c e1 e2).2⟩;simp only[Builtin.firstCells];exact run_loadCells w _ _ _ fun j hj=>by rw[Qb2];exact (flat j hj).1
theorem Qaru (n:Nat):∀(r c:Nat),Builtin.growBy n r c≤max c (n+(n+768) / 4)
 |0,c=>by simp[Builtin.growBy];omega
 |r+1,c=>by
  simp only[Builtin.growBy];split
  ·omega
  ·have:=Qaru n r (c+(c+768) / 4);omega
theorem Qba9 {need cap:Nat}(h:cap<need):Builtin.nextslicecap need cap≤2 * need+512:=by
 unfold Builtin.nextslicecap;split
 ·omega
 ·split
  ·omega
  ·have:=Qaru need 4 cap;omega
theorem Q1x {ats:Array TypeId}{ty t t2 el el2:TypeId}{i:TypeInfo}{sz:Nat}(h0:ats[0]? = some t)(h1:ats[1]? = some t2)(hu:P.underlying t=some (.slice el))(hu2:P.underlying t2=some (.slice el2))
  (hi:P.info? el=some i) (hz:i.size=sz) {base:Option Addr} {n cap m cap2:Nat} {a2:Option Addr} {f:Nat→Value} (hroom:n+m≤cap)
  (hf:(Builtin.firstCells sz m (.slice a2 m cap2)).run P w=.ok ((List.range (m * sz)).map f).toArray w)
  {w':World} (hst:∀x,base=some x→(storeCells (x.add (n * sz)) ((List.range (m * sz)).map f)).run P w=.ok () w') (hnone:base=none→w'=w) :
  (Builtin.append_ ats ty #[.slice base n cap,.slice a2 m cap2]).run P w=.ok (.slice base (n+m) cap) w':=by
 simp only[Builtin.append_,h0,h1];simp[Qaz hu,Qaz hu2,Qbi hi,hz,Builtin.lenOf,hroom,hf]
 cases base with
 |none=>simp[hnone rfl]
 |some x=>simp[hst x rfl]
theorem Qalo {ats:Array TypeId}{ty t t2 el el2:TypeId}{i:TypeInfo}{sz:Nat}{z:Value}(h0:ats[0]? = some t)(h1:ats[1]? = some t2)(hu:P.underlying t=some (.slice el))(hu2:P.underlying t2=some (.slice el2))
  (hi:P.info? el=some i) (hz:i.size=sz) (hzero:i.zero=some z) (hzs:z.cells.size=sz) (hby:i.bytes≤128) (hby0:i.bytes≠0) {base:Option Addr} {n cap m cap2:Nat} {a2:Option Addr} {f f1:Nat→Value} (hroom:¬n+m≤cap) (hlim:n+m≤LIM)
  (hf2:(Builtin.firstCells sz m (.slice a2 m cap2)).run P w.drew=.ok ((List.range (m * sz)).map f).toArray w.drew)
  (hf1:(Builtin.firstCells sz n (.slice base n cap)).run P w.drew=.ok ((List.range (n * sz)).map f1).toArray w.drew) :
  ∃(newCap:Nat) (rest:Array Value),n+m≤newCap∧rest.size=(newCap-(n+m)) * sz∧
   (Builtin.append_ ats ty #[.slice base n cap,.slice a2 m cap2]).run P w=.ok (.slice (some ⟨w.heap.size,0,none⟩) (n+m) newCap)
    (w.drew.alloc (.cells (((List.range (n * sz)).map f1).toArray++((List.range (m * sz)).map f).toArray++rest) el)):=by
 rw[Qx6]at hlim;have hnc:=Qba9 (Nat.lt_of_not_le hroom);have hmul:Builtin.nextslicecap (n+m) cap * i.bytes≤(2 * (n+m)+512) * 128:=Nat.mul_le_mul hnc hby;have h48:(2:Nat) ^ 48=281474976710656:=by decide
 generalize hnew:(Question.appendCap (n+m) cap el).cut (w.tape w.drawn (.appendCap (n+m) cap el))=newCap;refine⟨newCap,Builtin.zeroCells z.cells (newCap-(n+m)),?_,?_,?_⟩
 ·rw[←hnew];simp[Question.cut]
 ·simp[Builtin.zeroCells,hzs]
 ·simp only[Builtin.append_,h0,h1];simp[Qaz hu,Qaz hu2,Qbi hi,hz,Builtin.lenOf,hroom,Qkn hi,hby0];rw[if_neg (by omega)];simp[Question.forced,hnew,hf1,hf2,Qabe hi hzero,newRow];rw[←Jak];simp
def G.handOver (g:G)(l l' st n nb sz base:Nat):G:=
 { g with
  own:=fun b=>if b=nb then some (l',[])else match g.own b with
   |none=>none
   |some (m,[])=>if m=l then none else some (m,[])
   |some (m,i::r)=>if m=l then (if st≤i∧i<st+n then some (l',(i-st)::r)else none)else some (m,i::r)
  io:=fun x=>if x=l' then some (nb,sz,base)else g.io x }
theorem Qag4 {l l' st n nb sz base b m:Nat}{q:List Nat}(hb:g.own b=some (m,q))(hm:m≠l)(hnb:b≠nb):(g.handOver l l' st n nb sz base).own b=some (m,q):=by
 simp only[G.handOver,if_neg hnb,hb]
 cases q with
 |nil=>simp[hm]
 |cons i r=>simp[hm]
theorem Qyf {l l' st n nb sz base b i:Nat}{r:List Nat}(hb:g.own b=some (l,(st+i)::r))(hi:i<n)(hnb:b≠nb):(g.handOver l l' st n nb sz base).own b=some (l',i::r):=by
 simp only[G.handOver,if_neg hnb,hb];simp[hi]
theorem Q6i (hs:Sat H g w){l l':Nat}(hl':g.io l'=none)(hl:H l≠.none){st n nb sz base:Nat}{w':World}{rows:List (List C)}
  (hnb:(nb<w.heap.size∧g.own nb=some (l,[]))∨nb=w.heap.size) (hsz:w.heap.size≤w'.heap.size) (hnw:nb<w'.heap.size) (hsz':w'.heap.size≤max w.heap.size (nb+1)) (hot:∀b,b≠nb→b<w.heap.size→w'.heap[b]? = w.heap[b]?)
  (hsh:nb<w.heap.size→∀T k,w.shape? nb=some (T,k)→w'.shape? nb=some (T,k)) (ht:w'.tape=w.tape) (hos:w'.os=w.os) (hou:w'.output=w.output)
  (hob:Le g w (g.handOver l l' st n nb sz base) w'→SatVec (g.handOver l l' st n nb sz base) w' l' sz rows) (hnm:∀v es,H l≠.map v es) :
  Stp H g w ((H.set l .none).set l' (.vec sz rows)) (g.handOver l l' st n nb sz base) w':=by
 have hll:l≠l':=fun h=>by subst h;exact hl (hs.none_of_io hl')
 have hper:g.per nb=false:=by
  rcases hnb with ⟨_,h⟩|h
  ·exact hs.excl _ _ h
  ·exact (hs.fresh nb (by omega)).1
 have hle:Le g w (g.handOver l l' st n nb sz base) w':=by
  refine⟨fun b hb=>⟨hb,hot b (fun h=>by subst h;rw[hper]at hb;simp at hb) (Qbg0 hs hb)⟩,fun m x hm=>?_,hsz,fun b T k hn=>?_,ht,hos,hou⟩
  ·simp only[G.handOver];have:m≠l':=fun h=>by subst h;rw[hl']at hm;simp at hm
   rw[if_neg this];exact hm
  ·have hlt:=Qaq2 hn;by_cases h:b=nb
   ·subst h;exact hsh hlt T k hn
   ·rw[Qfh (hot b h hlt)];exact hn
 have hne:∀(m b:Nat) (q:List Nat),g.own b=some (m,q)→m≠l→b≠nb:=by
  intro m b q hb hm h;subst h;rcases hnb with ⟨_,h⟩|h
  ·rw[hb]at h;simp at h;exact hm h.1
  ·have:=Qalm hs hb;omega
 have hk:∀m,m≠l→Q0z g w (g.handOver l l' st n nb sz base) w' m:=by
  intro m hm b q hb;have h1:=hne m b q hb hm;exact⟨Qag4 hb hm h1,hot b h1 (Qalm hs hb)⟩
 refine⟨hle,fun m hm hn=>?_,⟨fun b hb=>?_,?_,fun b y hb=>?_,fun b m q hb=>?_,fun m=>?_⟩⟩
 ·have h1:m≠l':=fun h=>by subst h;exact hm hl'
  have h2:m≠l:=fun h=>by subst h;exact hl hn
  rw[Heap.set_other _ _ h1,Heap.set_other _ _ h2];exact⟨hn,fun b q hb=>hk m h2 b q hb⟩
 ·have h1:w.heap.size≤b:=by omega
  have h2:b≠nb:=by omega
  refine⟨(hs.fresh b h1).1,?_⟩;simp only[G.handOver,if_neg h2,(hs.fresh b h1).2]
 ·obtain⟨N,hN⟩:=hs.names;refine⟨max N (l'+1),fun m hm=>?_⟩;simp only[G.handOver];rw[if_neg (by omega)];exact hN m (by omega)
 ·by_cases h:b=nb
  ·subst h;exact hper
  ·have:∃z,g.own b=some z:=by
    simp only[G.handOver,if_neg h]at hb
    cases ho:g.own b with
    |none=>rw[ho]at hb;simp at hb
    |some z=>exact⟨z,rfl⟩
   obtain⟨z,hz⟩:=this;exact hs.excl b z hz
 ·simp only[G.handOver]at hb⊢;split
  ·simp
  ·rename_i hml
   split at hb
   ·simp at hb;exact absurd hb.1.symm hml
   ·split at hb
    ·simp at hb
    ·rename_i m0 ho
     split at hb
     ·simp at hb
     ·simp at hb;obtain⟨rfl,rfl⟩:=hb;exact hs.named _ _ _ ho
    ·rename_i m0 i r ho
     split at hb
     ·split at hb
      ·simp at hb;exact absurd hb.1.symm hml
      ·simp at hb
     ·simp at hb;obtain⟨rfl,rfl⟩:=hb;exact hs.named _ _ _ ho
 ·by_cases hm':m=l'
  ·subst hm';rw[Heap.set_same];exact .inr (hob hle)
  ·rw[Heap.set_other _ _ hm'];by_cases hm:m=l
   ·subst hm;rw[Heap.set_same];trivial
   ·have hH':((H.set l .none).set l' (.vec sz rows)) m=H m:=(by rw[Heap.set_other _ _ hm',Heap.set_other _ _ hm]);rw[Heap.set_other _ _ hm,←hH'];refine SatObj.keep hs hle (hk m hm) hH' fun k v left cur hc v' es hv=>?_;by_cases h1:k=l'
    ·subst h1;rw[Heap.set_same]at hv;simp at hv
    ·rw[Heap.set_other _ _ h1]at hv;by_cases h2:k=l
     ·subst h2;rw[Heap.set_same]at hv;simp at hv
     ·rw[Heap.set_other _ _ h2]at hv;exact .inl ⟨hv,hk k h2⟩
theorem Qte {g':G}{w':World}{l' sz nb base n m:Nat}{T:TypeId}{arr:Array Value}{R1 R2:List (List C)}(hio:g'.io l'=some (nb,sz,base))(hown:g'.own nb=some (l',[]))
  (hw:w'.heap[nb]? = some (.cells arr T (0,0))) (hfit:base+(n+m) * sz≤arr.size) (hlim:n+m≤LIM) (hR1:R1.length=n) (hR2:R2.length=m)
  (hl1:∀(i:Nat) (row:List C),R1[i]? = some row→row.length=sz) (hl2:∀(i:Nat) (row:List C),R2[i]? = some row→row.length=sz)
  (h1:∀(i:Nat) (row:List C) (j:Nat) (c:C),R1[i]? = some row→row[j]? = some c→∃v,arr[base+i * sz+j]? = some v∧RepO w' g' l' [i,j] c v)
  (h2:∀(i:Nat) (row:List C) (j:Nat) (c:C),R2[i]? = some row→row[j]? = some c→∃v,arr[base+(n+i) * sz+j]? = some v∧RepC w' g' c v) :
  SatVec g' w' l' sz (R1++R2):=by
 have hall:∀(i:Nat) (row:List C) (j:Nat) (c:C),(R1++R2)[i]? = some row→row[j]? = some c→∃v,arr[base+i * sz+j]? = some v∧RepO w' g' l' [i,j] c v:=by
  intro i row j c e1 e2;by_cases hi:i<n
  ·rw[Jk (by omega)]at e1;exact h1 i row j c e1 e2
  ·rw[Jl (by omega)]at e1;obtain⟨v,k1,k2⟩:=h2 (i-R1.length) row j c e1 e2;rw[hR1,show n+(i-n)=i by omega]at k1;exact⟨v,k1,.plain _ _ _ _ k2⟩
 refine⟨nb,base,T,arr,fun i j=>arr.getD (base+i * sz+j) undef,hio,hown,hw,by rw[Jag,hR1,hR2];exact hfit,by rw[Jag,hR1,hR2];exact hlim,fun i row e1=>?_,fun i row j c e1 e2=>?_,fun i row j c e1 e2=>?_⟩
 ·by_cases hi:i<n
  ·rw[Jk (by omega)]at e1;exact hl1 i row e1
  ·rw[Jl (by omega)]at e1;exact hl2 _ row e1
 ·obtain⟨v,k1,k2⟩:=hall i row j c e1 e2;show _=some (arr.getD (base+i * sz+j) undef);rw[Jb,k1];rfl
 ·obtain⟨v,k1,k2⟩:=hall i row j c e1 e2;show RepO _ _ _ _ _ (arr.getD (base+i * sz+j) undef);rw[Jb,k1];exact k2
theorem Qa0g {n m sz:Nat}{f1 f:Nat→Value}{rest:Array Value} :
  (∀i j,i<n→j<sz→(((List.range (n * sz)).map f1).toArray++((List.range (m * sz)).map f).toArray++rest)[0+i * sz+j]? = some (f1 (i * sz+j)))∧
  (∀i j,i<m→j<sz→(((List.range (n * sz)).map f1).toArray++((List.range (m * sz)).map f).toArray++rest)[0+(n+i) * sz+j]? = some (f (i * sz+j))):=by
 constructor
 ·intro i j hi hj;have:=Q03 hi hj;rw[Jak,Jaj (by simp;omega)];simp only[Jas,Jh,J5];rw[Jad this];rfl
 ·intro i j hi hj;have:=Q03 hi hj;have e0:0+(n+i) * sz+j=n * sz+(i * sz+j):=by rw[Jg];omega
  rw[e0,Jak,Array.getElem?_append_right (by simp)];rw[Jaj (by simp;omega)];simp only[Jas,Jh,List.size_toArray,List.length_map,Ja7,Nat.add_sub_cancel_left];rw[Jad this];rfl
def G.newVirt (g:G)(l sz:Nat):G:={ g with io:=fun x=>if x=l then some (0,sz+1,0)else g.io x }
theorem Qagx (hs:Sat H g w){l:Nat}(hl:g.io l=none)(sz:Nat):Stp H g w (H.set l (.vec sz [])) (g.newVirt l sz) w:=by
 have hle:Le g w (g.newVirt l sz) w:=by
  refine⟨fun b hb=>⟨hb,rfl⟩,fun m x hm=>?_,Jx _,fun _ _ _ h=>h,rfl,rfl,rfl⟩;simp only[G.newVirt];have:m≠l:=fun h=>by subst h;rw[hl]at hm;simp at hm
  rw[if_neg this];exact hm
 have hk:∀m,Q0z g w (g.newVirt l sz) w m:=fun m b q hb=>⟨hb,rfl⟩;refine⟨hle,fun m hm hn=>?_,⟨hs.fresh,?_,hs.excl,fun b m q hb=>?_,fun m=>?_⟩⟩
 ·have:m≠l:=fun h=>by subst h;exact hm hl
  rw[Heap.set_other _ _ this];exact⟨hn,fun b q hb=>hk m b q hb⟩
 ·obtain⟨N,hN⟩:=hs.names;refine⟨max N (l+1),fun m hm=>?_⟩;simp only[G.newVirt];rw[if_neg (by omega)];exact hN m (by omega)
 ·simp only[G.newVirt];split
  ·simp
  ·exact hs.named b m q hb
 ·by_cases hm:m=l
  ·subst hm;rw[Heap.set_same];exact .inl ⟨rfl,_,by simp[G.newVirt];rfl,by simp⟩
  ·have hH':=Heap.set_other H (.vec sz []) hm;rw[hH',←hH'];refine SatObj.keep hs hle (hk m) hH' fun m' v left cur hc v' es hv=>?_;by_cases hm':m'=l
   ·subst hm';rw[Heap.set_same]at hv;simp at hv
   ·rw[Heap.set_other _ _ hm']at hv;exact .inl ⟨hv,hk m'⟩
theorem Qbnx (hs:Sat H g w)(l:Nat)(hm:∀v es,H l≠.map v es):Stp H g w (H.set l .none) g w:=by
 refine⟨.refl _ _,fun m hm hn=>?_,⟨hs.fresh,hs.names,hs.excl,hs.named,fun m=>?_⟩⟩
 ·by_cases h:m=l
  ·subst h;rw[Heap.set_same];exact⟨rfl,fun b q hb=>⟨hb,rfl⟩⟩
  ·rw[Heap.set_other _ _ h];exact⟨hn,fun b q hb=>⟨hb,rfl⟩⟩
 ·by_cases h:m=l
  ·subst h;rw[Heap.set_same];trivial
  ·have hH':=Heap.set_other H .none h;rw[hH',←hH'];refine SatObj.keep hs (.refl _ _) (fun b q hb=>⟨hb,rfl⟩) hH' fun m' v left cur hc v' es hv=>?_;by_cases hm':m'=l
   ·subst hm';rw[Heap.set_same]at hv;simp at hv
   ·rw[Heap.set_other _ _ hm']at hv;exact .inl ⟨hv,fun b q hb=>⟨hb,rfl⟩⟩
theorem Qbtg {sz:Nat}{x y:Opd}{x' y':Operand}{ats:Array TypeId}{t t2 el el2:TypeId}{i:TypeInfo}{z:Value}{K:V→Heap→Prop}
  (hm:o.op=.call { callee:=.builtin .append,args:=#[x',y'],argTypes:=ats }) (h0:ats[0]? = some t) (h1:ats[1]? = some t2) (hu:P.underlying t=some (.slice el)) (hu2:P.underlying t2=some (.slice el2))
  (hi:P.info? el=some i) (hz:i.size=sz) (hzero:i.zero=some z) (hzs:z.cells.size=sz) (hby:i.bytes≤128) (hby0:i.bytes≠0) (hx:mO x x'=true) (hy:mO y y'=true)
  (hs:Sat H g w) (he:EnvOk w g e a) (hp:p=true) (ho:(EOp.app sz x y).eff P p e H K):EOk P H g w a o K:=by
 simp only[EOp.eff]at ho;obtain⟨q1,q2,q3,q4,q5⟩:=ho;have hrx:=Qay he hx hp q1;have hry:=Qay he hy hp q2;rw[Qip q3]at hrx;rw[Qip q4]at hry;have hcx:=hrx.c_inv;have hcy:=hry.c_inv;generalize hqx:a.eval x'=xv at hcx;generalize hqy:a.eval y'=yv at hcy;generalize (x.v e).c1=A at hcx q5;generalize (y.v e).c1=B at hcy q5;have hexec:(execOp a.eval o).run P w=((Builtin.append_ ats o.type #[xv,yv]).run P w).andThen fun v w'=>.ok (.value v) w':=by
  simp[execOp,hm,resolve,invoke,builtin,hqx,hqy]
 unfold appT at q5;obtain⟨b1,b2,q5⟩:=q5;obtain⟨ady,capy,hyv,by1,by2,by3,by4⟩:=Qty hs hcy b1;rw[b2]at by3;have hsd:=Qbnw hs;split at q5
 ·
  rename_i z' rows
  obtain⟨rfl,c2,c3,c4,c5⟩:=q5;have hnB:∀r∈rowsOf H B,noOw r=true:=fun r hr=>c3 r (Jau _ hr);have hxv:∃ad,xv=.slice ad rows.length rows.length:=by
   cases hcx with
   |slnil _ _ ad=>exact⟨ad,rfl⟩
   |sl _ _ _ b off cap val hl hf hcap hper hrw hce hva=>rw[hf rfl];exact⟨_,rfl⟩
  obtain⟨ad,rfl⟩:=hxv;by_cases hm0:lenC B=0
  ·have hrows:rows=[]:=by
    rcases c2 with h|h
    ·exact h
    ·exact absurd (Jz.1 (by omega)) h
   subst hrows;obtain⟨l,hl,hHl⟩:=hs.newName;obtain⟨f,f1,f2,f3⟩:=Qx5 hs hcy b1 b2 hnB;rw[hyv]at f1;have hrun:=Q1x (P:=P) (w:=w) (ty:=o.type) (base:=ad) (n:=0) (cap:=0) (m:=lenC B) h0 h1 hu hu2 hi hz (by omega) f1 (w':=w)
    (fun x _=>by rw[hm0];simp[storeCells]) (fun _=>rfl)
   refine EOk.value (v:=.slice ad (0+lenC B) 0) (by rw[hexec,hyv];simp only[Jat];rw[hrun];rfl) (c5 l hHl) ?_ ?_ (g':=g.newVirt l z')
   ·have hrB:rowsOf H B=[]:=Jz.1 (by omega);rw[hrB];exact Qagx hs hl z'
   ·simp only[Jat,hm0,J1];exact .c _ _ (.vslnil _ _ _ _)
  ·obtain⟨l,hl,hHl⟩:=hsd.sat.newName;have hcxd:=hcx.mono hsd.le;have hcyd:=hcy.mono hsd.le;have hA:∀r∈rowsOf H (C.sl true z' rows),noOw r=true:=fun r hr=>c3 r (Jav _ hr);obtain⟨f,f1,f2,f3⟩:=Qx5 hsd.sat hcyd b1 b2 hnB;obtain⟨f',f1',f2',f3'⟩:=Qx5 hsd.sat hcxd (s:=.sl true z' rows) trivial (sz:=z') rfl hA;rw[hyv]at f1;simp only[lenC]at f1';obtain⟨newCap,rest,k1,k2,k3⟩:=Qalo (P:=P) (w:=w) (ty:=o.type) h0 h1 hu hu2 hi hz hzero hzs hby hby0 (base:=ad) (n:=rows.length) (cap:=rows.length) (m:=lenC B) (by omega) c4 f1 f1';have hget:=Qa0g (n:=rows.length) (m:=lenC B) (sz:=z') (f1:=f') (f:=f) (rest:=rest);generalize harr:(((List.range (rows.length * z')).map f').toArray++((List.range (lenC B * z')).map f).toArray++rest)=arr at k3 hget;have hasz:arr.size=newCap * z':=by
    rw[←harr];simp[k2];rw[←Jg,←Jg];congr 1;omega
   have hst:=Qe6 hsd.sat hl z' 0 (.cells arr el) (.vec z' (rows++rowsOf H B)) (fun g' hg=>by
    subst hg;have hle:=Qfn hsd.sat hl z' 0 (.cells arr el);refine .inr (Qte (nb:=w.drew.heap.size) (base:=0) (T:=el) (arr:=arr) (n:=rows.length) (m:=lenC B) (by simp[G.newObj]) (by simp[G.newObj]) (Qc6 _ _)
     (by rw[hasz,J5];exact Jj _ k1) c4 rfl (by omega) ?_ by3 ?_ ?_)
    ·cases hcx with
     |slnil=>simp
     |sl _ _ _ b off cap val hl hf hcap hper hrw hce hva=>exact hrw
    ·intro i row j c e1 e2;have hlr:row.length=z':=by
      cases hcx with
      |slnil=>simp at e1
      |sl _ _ _ b off cap val hl hf hcap hper hrw hce hva=>exact hrw _ _ e1
     refine⟨f' (i * z'+j),hget.1 i j ?_ ?_,.plain _ _ _ _ ((f3' i row j c e1 e2).mono hle)⟩
     ·rcases Ji i rows.length with h|h
      ·exact h
      ·rw[Jf h]at e1;simp at e1
     ·rw[←hlr];rcases Ji j row.length with h|h
      ·exact h
      ·rw[Jf h]at e2;simp at e2
    ·intro i row j c e1 e2;refine⟨f (i * z'+j),hget.2 i j ?_ ?_,(f3 i row j c e1 e2).mono hle⟩
     ·rcases Ji i (rowsOf H B).length with h|h
      ·omega
      ·rw[Jf h]at e1;simp at e1
     ·rw[←by3 i row e1];rcases Ji j row.length with h|h
      ·exact h
      ·rw[Jf h]at e2;simp at e2)
   refine EOk.value (v:=.slice (some ⟨w.heap.size,0,none⟩) (rows.length+lenC B) newCap) (by rw[hexec,hyv,k3];rfl) (c5 l hHl) (hsd.trans hst) ?_;have:=RepC.vsl (w:=w.drew.alloc (.cells arr el)) (g:=g.newObj l w.drew.heap.size z' 0) l z' 0 (rows.length+lenC B) newCap w.heap.size 0 el arr.size (by simp[G.newObj]) k1
    (by simp only[World.shape?];rw[show w.heap.size=w.drew.heap.size from rfl,Qc6]) (by rw[hasz];simp)
   simpa using RepV.c _ _ this
 ·
  rename_i l z' st n
  split at q5
  ·rename_i y0 rows hH
   obtain⟨hzz1,hyy1,c2,hnB,c4,c5⟩:=q5;subst hyy1;subst hzz1;have hob:=hs.objs l;rw[hH]at hob;have hlne:H l≠.none:=by rw[hH];simp
   have hnomap:∀v es,H l≠.map v es:=by rw[hH];simp
   have hcases:(∃ad,xv=.slice ad 0 0∧n=0)∨∃b base cap T mm,xv=.slice (some ⟨b,base+st * z',none⟩) n cap∧g.io l=some (b,z',base)∧n≤cap∧w.shape? b=some (T,mm)∧base+(st+cap) * z'≤mm:=by
    cases hcx with
    |vslnil _ _ _ ad=>exact .inl ⟨ad,rfl,rfl⟩
    |vsl _ _ _ _ cap b base T mm hio hn hsh hmm=>exact .inr ⟨b,base,cap,T,mm,rfl,hio,hn,hsh,hmm⟩
   have htk:((rows.drop st).take n).length=n:=by simp;omega
   have hrowt:∀(i:Nat) (row:List C),((rows.drop st).take n)[i]? = some row→i<n∧rows[st+i]? = some row:=by
    intro i row h;simp only[Jn,Jq]at h;split at h
    ·exact⟨by assumption,h⟩
    ·simp at h
   have jlt:∀{row:List C} {j:Nat} {c:C} {k:Nat},row.length=k→row[j]? = some c→j<k:=by
    intro row j c k hk hj;rw[←hk];rcases Ji j row.length with h|h
    ·exact h
    ·rw[Jf h]at hj;simp at hj
   have grow:∀(ad:Option Addr) (cap:Nat),xv=.slice ad n cap→¬n+lenC B≤cap→EOk P H g w a o K:=by
    intro ad cap hxv hng;have hcyd:=hcy.mono hsd.le;obtain⟨f,f1,f2,f3⟩:=Qx5 hsd.sat hcyd b1 b2 hnB;rw[hyv]at f1;have hold:∃f':Nat→Value,(Builtin.firstCells z' n (.slice ad n cap)).run P w.drew=.ok ((List.range (n * z')).map f').toArray w.drew∧
      ∀(i:Nat) (row:List C) (j:Nat) (c:C),((rows.drop st).take n)[i]? = some row→row[j]? = some c→RepO w g l [st+i,j] c (f' (i * z'+j)):=by
     rcases hcases with ⟨ad',h1,h2⟩|⟨b,base,cap',T,mm,h1,h2,h3,h4,h5⟩
     ·rw[hxv]at h1;simp only[Value.slice.injEq]at h1;subst h2;refine⟨fun _=>undef,?_,fun i row j c e1 _=>by simp at e1⟩
      cases ad with
      |none=>simp[Builtin.firstCells]
      |some q=>simp[Builtin.firstCells,loadCells,loadCellsFrom]
     ·rw[hxv]at h1;simp only[Value.slice.injEq]at h1;obtain⟨rfl,_,rfl⟩:=h1;obtain⟨b',base',T',cs,val,r1,r2,r3,r4,r5,r6,r7,r8⟩:=SatVec.of hob h2;rw[h2]at r1;simp only[Je,Ju,true_and]at r1;obtain⟨rfl,rfl⟩:=r1;have hfit:(st+n) * z'≤rows.length * z':=Jj _ c2;rw[Jg]at hfit;refine⟨fun q=>cs.getD (base+st * z'+q) undef,?_,fun i row j c e1 e2=>?_⟩
      ·simp only[Builtin.firstCells];refine run_loadCells _ _ _ _ fun j hj=>?_;rw[Qb2];rw[show w.drew.cell? ⟨b,base+st * z'+j,none⟩=w.cell? ⟨b,base+st * z'+j,none⟩ from rfl,Qcr r3];rw[Jb,Jc (by omega)];rfl
      ·obtain⟨hi,e1'⟩:=hrowt i row e1;have:=r7 _ _ _ _ e1' e2;rw[Jg]at this;have e3:base+st * z'+(i * z'+j)=base+(st * z'+i * z')+j:=(by omega);show RepO _ _ _ _ _ (cs.getD (base+st * z'+(i * z'+j)) undef);rw[e3,Jb,this];exact r8 _ _ _ _ e1' e2
    obtain⟨f',f1',f3'⟩:=hold;obtain⟨newCap,rest,k1,k2,k3⟩:=Qalo (P:=P) (w:=w) (ty:=o.type) h0 h1 hu hu2 hi hz hzero hzs hby hby0 (base:=ad) (n:=n) (cap:=cap) (m:=lenC B) hng c4 f1 f1';have hget:=Qa0g (n:=n) (m:=lenC B) (sz:=z') (f1:=f') (f:=f) (rest:=rest);generalize harr:(((List.range (n * z')).map f').toArray++((List.range (lenC B * z')).map f).toArray++rest)=arr at k3 hget;have hasz:arr.size=newCap * z':=by
     rw[←harr];simp[k2];rw[←Jg,←Jg];congr 1;omega
    obtain⟨l',hl',hHl'⟩:=hsd.sat.newName;have hll:l'≠l:=fun h=>(by subst h;exact hlne (hs.none_of_io hl'));have hst:=Q6i hsd.sat (l:=l) (l':=l') hl' hlne (st:=st) (n:=n) (nb:=w.drew.heap.size) (sz:=z') (base:=0) (w':=w.drew.alloc (.cells arr el)) (rows:=(rows.drop st).take n++rowsOf H B)
     (.inr rfl) (by simp) (by simp) (by simp) (fun b hb hlt=>Qfj _ _ hlt) (fun h=>absurd h (Nat.lt_irrefl _)) rfl rfl rfl (fun hle=>by
      refine Qte (nb:=w.drew.heap.size) (base:=0) (T:=el) (arr:=arr) (n:=n) (m:=lenC B) (by simp[G.handOver]) (by simp[G.handOver]) (Qc6 _ _)
       (by rw[hasz,J5];exact Jj _ k1) c4 htk (by omega) (fun i row h=>?_) by3 (fun i row j c e1 e2=>?_) (fun i row j c e1 e2=>?_)
      ·obtain⟨hi,h'⟩:=hrowt i row h;rcases hob with ⟨r1,_⟩|⟨b',base',T',cs,val,r1,r2,r3,r4,r5,r6,r7,r8⟩
       ·rw[r1]at h';simp at h'
       ·exact r6 _ _ h'
      ·obtain⟨hi,h'⟩:=hrowt i row e1;have hrl:row.length=z':=by
        rcases hob with ⟨r1,_⟩|⟨b',base',T',cs,val,r1,r2,r3,r4,r5,r6,r7,r8⟩
        ·rw[r1]at h';simp at h'
        ·exact r6 _ _ h'
       refine⟨f' (i * z'+j),hget.1 i j hi (jlt hrl e2),?_⟩;refine (f3' i row j c e1 e2).move (hsd.le.trans hle) fun q b hb=>?_;have hbl:=Qalm hs hb;have hbn:b≠w.drew.heap.size:=(by simp only[World.size_drew];omega);exact⟨Qyf hb hi hbn,Qfj _ _ hbl⟩
      ·refine⟨f (i * z'+j),hget.2 i j ?_ (jlt (by3 i row e1) e2),(f3 i row j c e1 e2).mono hle⟩;rcases Ji i (rowsOf H B).length with h|h
       ·omega
       ·rw[Jf h]at e1;simp at e1) hnomap
    refine EOk.value (v:=.slice (some ⟨w.heap.size,0,none⟩) (n+lenC B) newCap) (by rw[hexec,hxv,hyv,k3];rfl) (c5 l' (by rw[Heap.set_other _ _ hll];exact hHl')) (hsd.trans hst) ?_;have:=RepC.vsl (w:=w.drew.alloc (.cells arr el)) (g:=g.handOver l l' st n w.drew.heap.size z' 0) l' z' 0 (n+lenC B) newCap w.heap.size 0 el arr.size (by simp[G.handOver]) k1
     (by simp only[World.shape?];rw[show w.heap.size=w.drew.heap.size from rfl,Qc6]) (by rw[hasz];simp)
    simpa using RepV.c _ _ this
   rcases hcases with ⟨ad,hxv,rfl⟩|⟨b,base,cap,T,mm,hxv,hio,hncap,hsh,hmm⟩
   ·by_cases hm0:lenC B=0
    ·
     obtain⟨f,f1,f2,f3⟩:=Qx5 hs hcy b1 b2 hnB;rw[hyv]at f1;have hrun:=Q1x (P:=P) (w:=w) (ty:=o.type) (base:=ad) (n:=0) (cap:=0) (m:=lenC B) h0 h1 hu hu2 hi hz (by omega) f1 (w':=w)
      (fun x _=>by rw[hm0];simp[storeCells]) (fun _=>rfl)
     have hd:=Qbnx hs l hnomap;obtain⟨l',hl',hHl'⟩:=hd.sat.newName;refine EOk.value (v:=.slice ad (0+lenC B) 0) (by rw[hexec,hxv,hyv,hrun];rfl) (c5 l' hHl') ?_ ?_ (g':=g.newVirt l' z')
     ·have hrB:rowsOf H B=[]:=Jz.1 (by omega);rw[hrB];simp only[List.take_zero,Jar];exact hd.trans (Qagx hd.sat hl' z')
     ·simp only[hm0,J1];exact .c _ _ (.vslnil _ _ _ _)
    ·exact grow ad 0 hxv (by omega)
   ·by_cases hroom:n+lenC B≤cap
    ·
     obtain⟨b',base',T',cs,val,r1,r2,r3,r4,r5,r6,r7,r8⟩:=SatVec.of hob hio;rw[hio]at r1;simp only[Je,Ju,true_and]at r1;obtain⟨rfl,rfl⟩:=r1;have hmms:mm=cs.size∧T=T':=by
      simp only[World.shape?,r3,Je,Ju]at hsh;exact⟨hsh.2.symm,hsh.1.symm⟩
     obtain⟨rfl,rfl⟩:=hmms;obtain⟨f,f1,f2,f3⟩:=Qx5 hs hcy b1 b2 hnB;rw[hyv]at f1;have hcapz:(st+(n+lenC B)) * z'≤(st+cap) * z':=Jj _ (by omega);rw[Jg,Jg]at hcapz;have hfit:base+st * z'+n * z'+lenC B * z'≤cs.size:=by
      rw[Jg]at hmm hcapz;omega
     have hfold:=fun k=>Qyd (base+st * z'+n * z') ((List.range (lenC B * z')).map f) 0 cs k (by simp;omega);generalize hcs':(((List.range (lenC B * z')).map f).zipIdx 0).foldl (fun (cs:Array Value) (x:Value×Nat)=>cs.setIfInBounds (base+st * z'+n * z'+x.2) x.1) cs=cs' at hfold;have hstore:=Qiy (P:=P) ((List.range (lenC B * z')).map f) 0 w b (base+st * z'+n * z') cs T r3 (by simp;omega) (by
      intro v hv;simp only[Ja8,Jax]at hv;obtain⟨q,hq,rfl⟩:=hv;exact f2 q hq)
     rw[hcs']at hstore;have hrun:=Q1x (P:=P) (w:=w) (ty:=o.type) (base:=some ⟨b,base+st * z',none⟩) (n:=n) (cap:=cap) (m:=lenC B) h0 h1 hu hu2 hi hz hroom f1 (w':=World.putCells w b cs' T)
      (fun x hx=>by simp only[Je]at hx;subst hx;rw[Qb2];exact hstore) (fun h=>by simp at h)
     have hblt:=Qamk r3;obtain⟨l',hl',hHl'⟩:=hs.newName;have hll:l'≠l:=fun h=>(by subst h;exact hlne (hs.none_of_io hl'));have hsz':cs'.size=cs.size:=(hfold 0).1;have hst:=Q6i hs (l:=l) (l':=l') hl' hlne (st:=st) (n:=n) (nb:=b) (sz:=z') (base:=base+st * z') (w':=World.putCells w b cs' T) (rows:=(rows.drop st).take n++rowsOf H B)
      (.inl ⟨hblt,r2⟩) (by simp[World.putCells]) (by simp[World.putCells];exact hblt) (by simp[World.putCells];omega) (fun b' hb' _=>Qby hb')
      (fun _ T0 k hk=>by
       simp only[World.shape?,r3,Je,Ju]at hk;simp only[World.shape?,Qcy hblt,hsz',Je,Ju];exact hk) rfl rfl rfl (fun hle=>by
       refine Qte (nb:=b) (base:=base+st * z') (T:=T) (arr:=cs') (n:=n) (m:=lenC B) (by simp[G.handOver]) (by simp[G.handOver]) (Qcy hblt)
        (by rw[hsz',Jg];omega) c4 htk (by omega) (fun i row h=>r6 _ _ (hrowt i row h).2) by3 (fun i row j c e1 e2=>?_) (fun i row j c e1 e2=>?_)
       ·obtain⟨hi,h'⟩:=hrowt i row e1;have hj:=jlt (r6 _ _ h') e2;have hlt:=Q03 hi hj;refine⟨val (st+i) j,?_,?_⟩
        ·rw[(hfold _).2,if_neg (by omega),←r7 _ _ _ _ h' e2];congr 1;rw[Jg];omega
        ·refine (r8 _ _ _ _ h' e2).move hle fun q b2 hb2=>?_;have hbn:b2≠b:=fun h=>(by subst h;rw[r2]at hb2;simp at hb2);exact⟨Qyf hb2 hi hbn,Qby hbn⟩
       ·have hj:=jlt (by3 i row e1) e2;have hi:i<lenC B:=by
         rcases Ji i (rowsOf H B).length with h|h
         ·omega
         ·rw[Jf h]at e1;simp at e1
        have hlt:=Q03 hi hj;refine⟨f (i * z'+j),?_,(f3 i row j c e1 e2).mono hle⟩;have hmul:(n+i) * z'=n * z'+i * z':=(by rw[Jg]);rw[(hfold _).2,if_pos (by simp;omega)];rw[show base+st * z'+(n+i) * z'+j-(base+st * z'+n * z'+0)=i * z'+j by omega];simp only[Jh];rw[Jad hlt];rfl) hnomap
     refine EOk.value (v:=.slice (some ⟨b,base+st * z',none⟩) (n+lenC B) cap) (by rw[hexec,hxv,hyv,hrun];rfl) (c5 l' (by rw[Heap.set_other _ _ hll];exact hHl')) hst ?_;have:=RepC.vsl (w:=World.putCells w b cs' T) (g:=g.handOver l l' st n b z' (base+st * z')) l' z' 0 (n+lenC B) cap b (base+st * z') T cs.size (by simp[G.handOver]) hroom
      (by simp only[World.shape?,Qcy hblt,hsz']) (by rw[J5];rw[Jg]at hmm;omega)
     simpa using RepV.c _ _ this
    ·exact grow _ cap hxv hroom
  ·exact q5.elim
 ·exact q5.elim
end Go.AE
namespace Go.AE
open Go.MapKept (IsKey findNow_spec run_checkKey run_findKey run_keyThatStays)
variable {P:Program}{H:Heap}{g:G}{w:World}{e:Env}{a:Act}{o:Oper}{p:Bool}
theorem Qbti {sz:Nat}{zero:List C}{x:Opd}{x' y':Operand}{t el:TypeId}{i:TypeInfo}{z:Value}{K:V→Heap→Prop}(hm:o.op=.makeSlice t x' y')(hu:P.underlying t=some (.slice el))
  (hi:P.info? el=some i) (hz:i.size=sz) (hz0:sz≠0) (hzero:i.zero=some z) (hzl:Qa8a zero z=true) (hzs:zero.length=sz) (hby:i.bytes≤128) (hx:mO x x'=true) (hy:mO x y'=true)
  (hs:Sat H g w) (he:EnvOk w g e a) (hp:p=true) (ho:(EOp.mks sz zero x).eff P p e H K):EOk P H g w a o K:=by
 simp only[EOp.eff]at ho;obtain⟨q1,q2,q3,q4,q5⟩:=ho;have e1:=Qkb he hx hp q1 q2;have e2:=Qkb he hy hp q1 q2;generalize hk:Q9 (x.v e)=k at *;have hr:=Q0y (w:=w) (g:=g) hzl;rw[Qx6]at q4;have hwr:IntKind.i64.wrap k=k:=Q24 (by unfold inR;simp[IntKind.min,IntKind.max,IntKind.signed,IntKind.bits];omega);have hbk:(i.bytes:Int) * k≤128 * 549755813888:=by
  have h1:(i.bytes:Int) * k≤128 * k:=Int.mul_le_mul_of_nonneg_right (by omega) q3;omega
 have h48:(2:Int) ^ 48=281474976710656:=by decide
 obtain⟨l,hl,hH⟩:=hs.newName;have hzc:z.cells.size=sz:=by rw[hr.1,hzs]
 have hn0:k.toNat * sz=0∨k.toNat * sz≠0:=by omega
 have hrun:∃arr:Array Value,(execOp a.eval o).run P w=.ok (.value (.slice (some ⟨w.heap.size,0,none⟩) k.toNat k.toNat)) (w.alloc (.cells arr el))∧arr.size=k.toNat * sz∧
   ∀q,q<k.toNat * sz→arr[q]? = z.cells[q % sz]?:=by
  by_cases hn:k.toNat * sz=0
  ·refine⟨(Array.range 0).map (fun _=>default),?_,by simp[hn],fun q hq=>by omega⟩;simp only[execOp,hm,e1,e2,Instr.makeSlice,Sem.run_bind,Qaz hu,Result.andThen_ok,asInt,asIntOf,Sem.run_pure,Qkn hi,hwr];rw[if_neg (by simp;omega)];simp[Qbi hi,hz,hn,newRow]
  ·refine⟨(Array.range (k.toNat * sz)).map (z.cells[· % z.cells.size]!),?_,by simp,fun q hq=>?_⟩
   ·simp only[execOp,hm,e1,e2,Instr.makeSlice,Sem.run_bind,Qaz hu,Result.andThen_ok,asInt,asIntOf,Sem.run_pure,Qkn hi,hwr];rw[if_neg (by simp;omega)];simp only[Sem.run_bind,run_askRoom,Result.andThen_ok,Qbi hi,hz,if_neg hn,Qabe hi hzero,Sem.run_pure];simp[newRow]
   ·have hlt:q % sz<z.cells.size:=(by rw[hzc];exact Nat.mod_lt _ (by omega));simp only[Array.getElem?_map,hzc];rw[Array.getElem?_range,if_pos hq];simp[hlt]
 obtain⟨arr,h1,h2,h3⟩:=hrun;have hle:=Qfn hs hl sz 0 (.cells arr el);have hst:=Qe6 hs hl sz 0 (.cells arr el) (.vec sz (List.replicate k.toNat zero)) (fun g' hg=>by
  subst hg;have hrep:∀(i:Nat) (row:List C),(List.replicate k.toNat zero)[i]? = some row→i<k.toNat∧row=zero:=by
   intro i row h;rw[List.getElem?_replicate]at h;split at h
   ·exact⟨by assumption,by simpa using h.symm⟩
   ·simp at h
  have:=Qte (g':=g.newObj l w.heap.size sz 0) (w':=w.alloc (.cells arr el)) (l':=l) (sz:=sz) (nb:=w.heap.size) (base:=0) (n:=k.toNat) (m:=0) (T:=el) (arr:=arr) (R1:=List.replicate k.toNat zero) (R2:=[])
   (by simp[G.newObj]) (by simp[G.newObj]) (Qc6 _ _) (by rw[h2];simp) (by rw[Qx6];omega) (by simp) rfl (fun i row h=>by rw[(hrep i row h).2,hzs]) (by simp)
   (fun i row j c h h'=>by
    obtain⟨hi',rfl⟩:=hrep i row h;have hj:j<sz:=by
     rw[←hzs];rcases Ji j row.length with h0|h0
     ·exact h0
     ·rw[Jf h0]at h';simp at h'
    have hfl:=Q03 hi' hj;have hmod:(i * sz+j) % sz=j:=(by rw[Ja9,Nat.mul_add_mod];exact Nat.mod_eq_of_lt hj);have hjz:j<z.cells.size:=(by rw[hzc];exact hj);refine⟨z.cells[j],?_,.plain _ _ _ _ ((hr.2 j c _ h' (Jc hjz)).mono hle)⟩;rw[J5,h3 _ hfl,hmod];exact Jc hjz) (by simp)
  rw[Jar]at this;exact .inr this)
 refine EOk.value h1 (q5 l hH) hst ?_;have:=RepC.vsl (w:=w.alloc (.cells arr el)) (g:=g.newObj l w.heap.size sz 0) l sz 0 k.toNat k.toNat w.heap.size 0 el arr.size (by simp[G.newObj]) (Jx _)
  (by simp only[World.shape?,Qc6]) (by rw[h2];simp)
 simpa using RepV.c _ _ this
theorem Qbr1 {K:V→Heap→Prop}{sz:Nat}{parts:List Opd}{t el:TypeId}{n:Nat}{parts':Array (Nat×Operand)}{i:TypeInfo}{z:Value}
  (hm:o.op=.buildSlice t n parts') (hu:P.underlying t=some (.slice el)) (hi:P.info? el=some i) (hz:i.zero=some z) (hsz:i.size=sz) (hsz0:sz≠0)
  (hn:n=parts'.size) (hbig:n * sz≤2 ^ 24) (hl0:parts.length=parts'.size)
  (hx:∀(j:Nat) (x:Opd) (y:Nat×Operand),parts[j]? = some x→parts'[j]? = some y→y.1=j∧mO x y.2=true)
  (hs:Sat H g w) (he:EnvOk w g e a) (hp:p=true) (hK:(EOp.bslm sz parts).eff P p e H K):EOk P H g w a o K:=by
 simp only[EOp.eff]at hK;obtain⟨ho,hK⟩:=hK;have hpt:(parts'.map fun (x:Nat×Operand)=>(x.1,a.eval x.2)).toList=parts'.toList.map fun (x:Nat×Operand)=>(x.1,a.eval x.2):=by simp
 have hget:∀(j:Nat) (y:Nat×Value),(parts'.toList.map fun (x:Nat×Operand)=>(x.1,a.eval x.2))[j]? = some y→
   ∃x y',parts[j]? = some x∧parts'[j]? = some y'∧y=(y'.1,a.eval y'.2):=by
  intro j y hj;simp only[Jh]at hj
  cases hj':parts'.toList[j]? with
  |none=>rw[hj']at hj;simp at hj
  |some y'=>
   rw[hj']at hj;simp at hj;have hlt:j<parts.length:=by
    rw[hl0];rcases Ji j parts'.size with h|h
    ·exact h
    ·simp[Js h]at hj'
   exact⟨_,y',Jd hlt,by simpa using hj',hj.symm⟩
 have hrow:∀x∈parts,x.fine p e∧(x.v e).cells.length=sz∧(x.v e).cells≠[]:=fun x hx=>by
  obtain⟨q1,q2⟩:=ho x hx;exact⟨q1,q2,fun hn=>hsz0 (by rw[←q2,hn];rfl)⟩
 have hlen0:(parts'.toList.map fun (x:Nat×Operand)=>(x.1,a.eval x.2)).length=n:=by simp[hn]
 obtain⟨out,f1,f2,f3,f4⟩:=Q9v sz (parts'.toList.map fun (x:Nat×Operand)=>(x.1,a.eval x.2)) 0
  ((Array.range (n * sz)).map ((if n * sz=0 then #[]else z.cells)[· % (if n * sz=0 then #[]else z.cells).size]!)) (fun j y hj=>by
   obtain⟨x,y',e1,e2,rfl⟩:=hget j y hj;obtain⟨q1,q2⟩:=hx j x y' e1 e2;obtain⟨q3,q4,q5⟩:=hrow x (Jm e1);refine⟨by simp[q1],?_⟩;rw[(Qg6 (Qay he q2 hp q3) q5).1,q4]) (by rw[hlen0];simp)
 obtain⟨l,hl,hH⟩:=hs.newName;have hrun:(execOp a.eval o).run P w=.ok (.value (.slice (some ⟨w.heap.size,0,none⟩) n n)) (w.alloc (.cells out el)):=by
  simp only[execOp,hm,Instr.buildSlice,Sem.run_bind,Qaz hu,Result.andThen_ok,Qbi hi,hsz,hpt];rw[if_neg (by omega)];by_cases h0:n * sz=0
  ·simp only[if_pos h0]at f1⊢;simp only[Sem.run_bind,Sem.run_pure,Result.andThen_ok];rw[f1];simp[newRow]
  ·simp only[if_neg h0]at f1⊢;simp only[Sem.run_bind,Sem.run_pure,Result.andThen_ok,Qabe hi hz];rw[f1];simp[newRow]
 have hlenp:(parts.map fun x=>(x.v e).cells).length=n:=by simp[hl0,hn]
 have hgl:∀(k:Nat) (row:List C),(parts.map fun x=>(x.v e).cells)[k]? = some row→∃x y,parts[k]? = some x∧parts'[k]? = some y∧row=(x.v e).cells:=by
  intro k row hk;simp only[Jh]at hk
  cases hj:parts[k]? with
  |none=>rw[hj]at hk;simp at hk
  |some x=>
   rw[hj]at hk;simp at hk;have hlt:k<parts'.size:=by
    rw[←hl0];rcases Ji k parts.length with h|h
    ·exact h
    ·rw[Jf h]at hj;simp at hj
   exact⟨x,parts'[k],rfl,Jc hlt,hk.symm⟩
 have hcell:∀(k:Nat) (row:List C) (j:Nat) (c:C),(parts.map fun x=>(x.v e).cells)[k]? = some row→row[j]? = some c→∃u,out[0+k * sz+j]? = some u∧RepC w g c u:=by
  intro k row j c hk hj;obtain⟨x,y,e1,e2,rfl⟩:=hgl k row hk;obtain⟨q1,q2⟩:=hx k x y e1 e2;obtain⟨q3,q4,q5⟩:=hrow x (Jm e1);have hr:=Qg6 (Qay he q2 hp q3) q5;have hjlt:j<sz:=by
   rw[←q4];rcases Ji j (x.v e).cells.length with h|h
   ·exact h
   ·rw[Jf h]at hj;simp at hj
  have hj2:j<(a.eval y.2).cells.size:=by rw[hr.1,q4];exact hjlt
  have:=f4 k (y.1,a.eval y.2) j (by simp only[Jh,Jy,e2,Jr]) hjlt;simp only[J5]at this⊢;rw[this];exact⟨_,Jc hj2,hr.2 j c _ hj (Jc hj2)⟩
 have hout:out.size=n * sz:=by
  rw[f2];simp
 have hn24:n≤16777216:=by
  have hn1:n * 1≤n * sz:=Ja0 _ (by omega);have h24:(2:Nat) ^ 24=16777216:=by decide
  rw[h24]at hbig;omega
 have hle:=Qfn hs hl sz 0 (.cells out el);have hst:=Qe6 hs hl sz 0 (.cells out el) (.vec sz (parts.map fun x=>(x.v e).cells)) (fun g' hg=>by
  subst hg;have:=Qte (g':=g.newObj l w.heap.size sz 0) (w':=w.alloc (.cells out el)) (l':=l) (sz:=sz) (nb:=w.heap.size) (base:=0) (n:=n) (m:=0) (T:=el) (arr:=out) (R1:=parts.map fun x=>(x.v e).cells) (R2:=[])
   (by simp[G.newObj]) (by simp[G.newObj]) (Qc6 _ _) (by rw[hout];simp) (by rw[Qx6];omega) hlenp rfl
   (fun k row hk=>by obtain⟨x,y,e1,e2,rfl⟩:=hgl k row hk;exact (hrow x (Jm e1)).2.1) (by simp)
   (fun k row j c hk hj=>by
    obtain⟨u,e1,e2⟩:=hcell k row j c hk hj;exact⟨u,e1,.plain _ _ _ _ (e2.mono hle)⟩) (by simp)
  rw[Jar]at this;exact .inr this)
 have hpl:parts.length=n:=by rw[hl0,hn]
 refine EOk.value hrun (hK l hH) hst ?_;rw[hpl];have:=RepC.vsl (w:=w.alloc (.cells out el)) (g:=g.newObj l w.heap.size sz 0) l sz 0 n n w.heap.size 0 el out.size (by simp[G.newObj]) (Jx _)
  (by simp only[World.shape?,Qc6]) (by rw[hout];simp)
 simpa using RepV.c _ _ this
end Go.AE
namespace Go.AE
variable {P:Program}{H:Heap}{g:G}{w:World}{e:Env}{a:Act}{o:Oper}{p:Bool}
theorem Qo0 {f:FuncId}(h:fnOk P f=true)(args:Array Value)(w:World):(callFunc f args).run P w=.ok (.enter f args) w:=by
 unfold fnOk at h;split at h
 ·rename_i fn hf
  simp only[Ja,bne_iff_ne,ne_eq]at h;obtain⟨h1,h2⟩:=h;have hn:fn.body≠none:=by intro hb;rw[hb]at h1;simp at h1
  simp[callFunc,hf,h2,hn]
 ·simp at h
theorem Qak6 {f:FuncId}{args:List V}{K:V→Heap→Prop}(hc:Qs P f args H K)(hs:Sat H g w){vs:List Value}(hl:vs.length=args.length)
  (hv:∀(j:Nat) (x:V) (u:Value),args[j]? = some x→vs[j]? = some u→RepV w g x u) (hr:(execOp a.eval o).run P w=.ok (.enter f vs.toArray) w):EOk P H g w a o K:=by
 intro Q next hn hpan;unfold Oper.wp;rw[hr,Oper.upon_enter];refine (hc.2 g w vs hs hl hv).mono fun en w' h=>?_;rcases h with ⟨v,x,H',g',rfl,hk,hst,hrep⟩|⟨v,H',g',rfl,hk,hst⟩
 ·exact hn x v w' H' g' hk hst hrep
 ·exact hpan v w' H' g' hk hst
theorem Qa8d (he:EnvOk w g e a)(hp:p=true){xs:List Opd}{ys:List Operand}(hm:mOs xs ys=true)(hf:∀x∈xs,x.fine p e) :
  (ys.map a.eval).length=(xs.map fun x=>x.v e).length∧∀(j:Nat) (x:V) (u:Value),(xs.map fun x=>x.v e)[j]? = some x→(ys.map a.eval)[j]? = some u→RepV w g x u:=by
 obtain⟨h1,h2⟩:=Qam7 xs ys hm;refine⟨by simp[h1],fun j x u e1 e2=>?_⟩;simp only[Jh]at e1 e2
 cases hj:xs[j]? with
 |none=>rw[hj]at e1;simp at e1
 |some x0=>
  cases hj':ys[j]? with
  |none=>rw[hj']at e2;simp at e2
  |some y0=>
   rw[hj]at e1;rw[hj']at e2;simp at e1 e2;subst e1;subst e2;exact Qay he (h2 j x0 y0 hj hj') hp (hf x0 (Jm hj))
theorem Qbr2 {f:Nat}{xs:List Opd}{as:Array Operand}{ats:Array TypeId}{K:V→Heap→Prop}(hm:o.op=.call { callee:=.value (.func f),args:=as,argTypes:=ats })(hx:mOs xs as.toList=true)
  (hs:Sat H g w) (he:EnvOk w g e a) (hp:p=true) (hf:∀x∈xs,x.fine p e) (hc:Qs P f (xs.map fun x=>x.v e) H K):EOk P H g w a o K:=by
 obtain⟨h1,h2⟩:=Qa8d he hp hx hf;refine Qak6 hc hs h1 h2 ?_;have harr:as.map a.eval=(as.toList.map a.eval).toArray:=by apply Jae;simp
 simp only[execOp,hm,resolve,Deferred.ofValue,Act.eval,Sem.run_bind,Sem.run_pure,Result.andThen_ok,invoke];have:(#[]++as.map a.eval++#[]:Array Value)=(as.toList.map a.eval).toArray:=by rw[harr];simp
 rw[this];exact Qo0 hc.1 _ w
theorem Qbo8 {x:Opd}{y:Operand}{xs:List Opd}{as:Array Operand}{ats:Array TypeId}{K:V→Heap→Prop}(hm:o.op=.call { callee:=.value y,args:=as,argTypes:=ats })(hy:mO x y=true)(hx:mOs xs as.toList=true)
  (hs:Sat H g w) (he:EnvOk w g e a) (hp:p=true) (ho:(EOp.callv x xs).eff P p e H K):EOk P H g w a o K:=by
 simp only[EOp.eff]at ho;obtain⟨q1,hf,q2⟩:=ho;have hr:=Qay he hy hp q1;split at q2
 ·rename_i n caps hv
  rw[hv]at hr;obtain⟨cv,hq,hcl,hcr⟩:=hr.c_inv.fn_inv;obtain⟨h1,h2⟩:=Qa8d he hp hx hf;refine Qak6 (vs:=as.toList.map a.eval++cv) q2 hs (by rw[Jag,Jag,h1];simp[hcl]) (fun j z u e1 e2=>?_) ?_
  ·by_cases hj:j<(xs.map fun x=>x.v e).length
   ·rw[Jk hj]at e1;rw[Jk (by rw[h1];exact hj)]at e2;exact h2 j z u e1 e2
   ·rw[Jl (by omega)]at e1 e2;rw[h1]at e2;simp only[Jh]at e1
    cases hc:caps[j-(xs.map fun x=>x.v e).length]? with
    |none=>rw[hc]at e1;simp at e1
    |some c=>
     rw[hc]at e1;simp at e1;subst e1;exact .c _ _ (hcr _ c u hc e2)
  ·have harr:as.map a.eval=(as.toList.map a.eval).toArray:=by apply Jae;simp
   simp only[execOp,hm,resolve,hq,Deferred.ofValue,Sem.run_bind,Sem.run_pure,Result.andThen_ok,invoke];have:(#[]++as.map a.eval++cv.toArray:Array Value)=(as.toList.map a.eval++cv).toArray:=by rw[harr];simp
   rw[this];exact Qo0 q2.1 _ w
 ·exact q2.elim
theorem Qamn {t el:TypeId}(h:P.underlying t=some (.slice el))(d:Nat)(b:Option Addr)(n c:Nat)(w:World):(Op.equalIn (d+1) t (.slice b n c) (.slice none 0 0)).run P w=.ok b.isNone w:=by
 cases b <;> simp[Op.equalIn,Qaz h]
theorem Qbr3 {x:Opd}{x' y':Operand}{t t' el:TypeId}{K:V→Heap→Prop}(hm:o.op=.binOp .eql t x' y' t')(hu:P.underlying t=some (.slice el))(hx:mO x x'=true)(hy:a.eval y'=.slice none 0 0)
  (hs:Sat H g w) (he:EnvOk w g e a) (hp:p=true) (ho:(EOp.nilq x).eff P p e H K):EOk P H g w a o K:=by
 simp only[EOp.eff]at ho;obtain⟨q1,q2⟩:=ho;have hr:=Qay he hx hp q1;split at q2
 ·rename_i fl sz rows hv
  rw[hv]at hr;have hcr:=hr.c_inv;generalize hq:a.eval x'=xv at hcr;have hex:(execOp a.eval o).run P w=((binOp .eql t xv (.slice none 0 0)).run P w).andThen fun v w'=>.ok (.value v) w':=by
   simp only[execOp,hm,hq,hy,Sem.run_bind];rw[Qar]
   ·simp
   ·intro cs ds h;simp at h
   ·intro h;simp at h
  have heq:∀b:Option Addr,∀n c,(Op.equal t (.slice b n c) (.slice none 0 0)).run P w=.ok b.isNone w:=by
   intro b n c;exact Qamn hu 9999 b n c w
  cases hcr with
  |slnil _ _ ad=>
   refine EOk.value (g':=g) (v:=.bool ad.isNone) (w':=w) ?_ (q2 ad.isNone (fun _=>rfl)) (.refl hs) (.c _ _ (.bool _));rw[hex];simp only[binOp,Sem.run_bind,heq,Result.andThen_ok,Sem.run_pure]
  |sl=>
   refine EOk.value (g':=g) (v:=.bool false) (w':=w) ?_ (q2 false (by simp)) (.refl hs) (.c _ _ (.bool _));rw[hex];simp only[binOp,Sem.run_bind,heq,Result.andThen_ok,Sem.run_pure];rfl
 ·exact q2.elim
theorem Qbth {sz:Nat}{x y:Opd}{x' y':Operand}{ats:Array TypeId}{t el:TypeId}{i:TypeInfo}{K:V→Heap→Prop}
  (hm:o.op=.call { callee:=.builtin .copy,args:=#[x',y'],argTypes:=ats }) (hat:ats[0]? = some t) (hu:P.underlying t=some (.slice el))
  (hi:P.info? el=some i) (hz:i.size=sz) (hx:mO x x'=true) (hy:mO y y'=true)
  (hs:Sat H g w) (he:EnvOk w g e a) (hp:p=true) (ho:(EOp.cpy sz x y).eff P p e H K):EOk P H g w a o K:=by
 simp only[EOp.eff]at ho;obtain⟨q1,q2,q3,q4,q5,q6,q7⟩:=ho;have hrx:=Qay he hx hp q1;have hry:=Qay he hy hp q2;rw[Qip q4]at hry;have hrs:=hry.c_inv;generalize (y.v e).c1=sx at *;rw[Qip q3]at hrx;have hrc:=hrx.c_inv;generalize (x.v e).c1=cx at *;generalize hqa:a.eval x'=xv at hrc;generalize hqb:a.eval y'=yv at hrs;split at q7
 ·rename_i l z' st n
  split at q7
  ·rename_i y2 rows hH
   obtain⟨rfl,rfl,k3,k4,k5,k6⟩:=q7;obtain⟨f,f1,f2,f3⟩:=Qx5 (P:=P) hs hrs q5 q6 k5;obtain⟨ad,cap2,rfl,r1',r2',r3',_⟩:=Qty hs hrs q5;rw[q6]at r3';have hmin:Nat.min (lenC sx) n=lenC sx:=Nat.min_eq_left k4;generalize hm0:lenC sx=m at *;by_cases hm1:m=0
   ·subst hm1;have hr0:rowsOf H sx=[]:=Jz.1 (by omega);have e0:rows.take st++rowsOf H sx++rows.drop (st+0)=rows:=(by rw[hr0];simp);rw[e0,Heap.set_self _ _ _ hH]at k6;refine EOk.value (g':=g) (v:=.int .i64 0) (w':=w) ?_ k6 (.refl hs) (.c _ _ (.int _ _));simp at f1
    cases hrc with
    |vslnil _ _ _ ad2=>cases ad2 <;> simp[execOp,hm,resolve,invoke,builtin,hqa,hqb,Builtin.copy_,Builtin.lenOf,hat,Qaz hu,Qbi hi,hz,f1,storeCells,goInt]
    |vsl=>simp[execOp,hm,resolve,invoke,builtin,hqa,hqb,Builtin.copy_,Builtin.lenOf,hat,Qaz hu,Qbi hi,hz,f1,storeCells,goInt]
   ·cases hrc with
    |vslnil=>exact absurd (Nat.le_zero.1 k4) hm1
    |vsl _ _ _ _ cap b base T mm hio hn' hsh hmm=>
     have hob:=hs.objs l;rw[hH]at hob;obtain⟨b',base',T',cs,val,r1,r2,r3,r4,r5,r6,r7,r8⟩:=SatVec.of hob hio;rw[hio]at r1;simp only[Je,Ju,true_and]at r1;obtain⟨rfl,rfl⟩:=r1;have hlen:((List.range (m * y2)).map f).length=m * y2:=(by simp);have hone:∀v∈(List.range (m * y2)).map f,v.oneCell'=true:=by
      intro v hv;obtain⟨q,hq,rfl⟩:=Ja8.1 hv;exact f2 q (Jax.1 hq)
     have hfit:(st+n) * y2≤rows.length * y2:=Jj _ k3;have hfit2:m * y2≤n * y2:=Jj _ k4;rw[Jg]at hfit;have hf:=fun j=>Qyd (base+st * y2) ((List.range (m * y2)).map f) 0 cs j (by rw[hlen];omega);have hrun:=Qiy (P:=P) ((List.range (m * y2)).map f) 0 w b (base+st * y2) cs T' r3 (by rw[hlen];omega) hone;generalize hcs':(((List.range (m * y2)).map f).zipIdx 0).foldl (fun (cs:Array Value) (x:Value×Nat)=>cs.setIfInBounds (base+st * y2+x.2) x.1) cs=cs' at hf hrun;refine EOk.value (g':=g) (v:=.int .i64 m) (w':=World.putCells w b cs' T') ?_ k6 ?_ (.c _ _ (.int _ _))
     ·simp[execOp,hm,resolve,invoke,builtin,hqa,hqb,Builtin.copy_,Builtin.lenOf,hat,Qaz hu,Qbi hi,hz,hmin,f1,hrun,goInt]
     ·refine Qit hs r2 r3 (hf 0).1 _ (by rw[hH];simp) (fun hle hw'=>?_) (by simp);have hrow:∀(i2:Nat) (row:List C),(rows.take st++rowsOf H sx++rows.drop (st+m))[i2]? = some row→
        (st≤i2∧i2<st+m∧(rowsOf H sx)[i2-st]? = some row)∨((i2<st∨st+m≤i2)∧rows[i2]? = some row):=by
       intro i2 row h;by_cases h1:i2<st
       ·rw[J0,Jk (by simp;omega),Jn,if_pos h1]at h;exact .inr ⟨.inl h1,h⟩
       ·by_cases h2:i2<st+m
        ·rw[Jk (by simp;omega),Jl (by simp;omega)]at h;refine .inl ⟨by omega,h2,?_⟩;have e:i2-(rows.take st).length=i2-st:=(by simp;omega);rw[e]at h;exact h
        ·rw[Jl (by simp;omega),Jq]at h;refine .inr ⟨.inr (by omega),?_⟩;rw[←h];congr 1;simp;omega
      have hval:∀(i2:Nat) (row:List C) (j:Nat) (c:C),(rows.take st++rowsOf H sx++rows.drop (st+m))[i2]? = some row→row[j]? = some c→
        ∃v,cs'[base+i2 * y2+j]? = some v∧RepO (World.putCells w b cs' T') g l [i2,j] c v:=by
       intro i2 row j c e1 e2;have hjl:j<row.length:=(Jam.1 e2).1;rcases hrow i2 row e1 with ⟨a1,a2,a3⟩|⟨a1,a2⟩
       ·rw[r3' _ _ a3]at hjl;have hq1:(i2-st) * y2+j<m * y2:=Q03 (by omega) hjl;refine⟨f ((i2-st) * y2+j),?_,.plain _ _ _ _ ((f3 _ _ _ _ a3 e2).mono hle)⟩;have hi2:i2 * y2=st * y2+(i2-st) * y2:=(by rw[←Jg];congr 1;omega);rw[(hf _).2,if_pos (by rw[hlen];omega),hi2];have:base+(st * y2+(i2-st) * y2)+j-(base+st * y2+0)=(i2-st) * y2+j:=(by omega);rw[this,Jh,Jad hq1];rfl
       ·refine⟨val i2 j,?_,Qlp r2 hle (fun b' h=>Qby h) (by simp) (r8 _ _ _ _ a2 e2)⟩;have hjy:j<y2:=(by rw[←r6 _ _ a2];exact hjl);rw[(hf _).2,if_neg ?_]
        ·exact r7 _ _ _ _ a2 e2
        ·rw[hlen];intro hcon;rcases a1 with h|h
         ·have:(i2+1) * y2≤st * y2:=Jj _ (by omega);rw[Jg,Jai]at this;omega
         ·have:(st+m) * y2≤i2 * y2:=Jj _ h;rw[Jg]at this;omega
      have hll:(rows.take st++rowsOf H sx++rows.drop (st+m)).length=rows.length:=(by simp;omega);refine .inr ⟨b,base,T',cs',fun i2 j=>cs'.getD (base+i2 * y2+j) undef,hio,r2,hw',?_,?_,fun i2 row h=>?_,fun i2 row j c e1 e2=>?_,fun i2 row j c e1 e2=>?_⟩
      ·rw[(hf 0).1,hll];exact r4
      ·rw[hll];exact r5
      ·rcases hrow i2 row h with ⟨_,_,a3⟩|⟨_,a2⟩
       ·exact r3' _ _ a3
       ·exact r6 _ _ a2
      ·obtain⟨v,h1,h2⟩:=hval i2 row j c e1 e2;rw[h1];simp[Jb,h1]
      ·obtain⟨v,h1,h2⟩:=hval i2 row j c e1 e2;have e0:cs'.getD (base+i2 * y2+j) undef=v:=(by simp[Jb,h1]);show RepO _ _ _ _ _ (cs'.getD (base+i2 * y2+j) undef);rw[e0];exact h2
  ·exact q7.elim
 ·exact q7.elim
def Qbli (P:Program)(el:TypeId)(sz:Nat):Bool:=
 match P.info? el with
 |some i=>i.size == sz&&decide (i.bytes≤128)&&decide (i.bytes≠0)&&(match i.zero with
  |some z=>z.cells.size == sz
  |none=>false)
 |none=>false
theorem Qalh {el:TypeId}{sz:Nat}(h:Qbli P el sz=true):∃i z,P.info? el=some i∧i.size=sz∧i.zero=some z∧z.cells.size=sz∧i.bytes≤128∧i.bytes≠0:=by
 unfold Qbli at h;split at h
 ·rename_i i hi
  simp only[Ja,decide_eq_true_eq,beq_iff_eq]at h;obtain⟨⟨⟨h1,h2⟩,h3⟩,h4⟩:=h;split at h4
  ·rename_i z hz;exact⟨i,z,hi,h1,hz,by simpa using h4,h2,h3⟩
  ·simp at h4
 ·simp at h
def mMap (P:Program)(t:TypeId)(tag:Nat):Bool:=
 match P.underlying t with
 |some (.map kt _)=>(match P.underlying kt with
  |some d=>Qbp1 d tag
  |none=>false)
 |_=>false
theorem mMap_spec {t:TypeId}{tag:Nat}(h:mMap P t tag=true):∃kt et,P.underlying t=some (.map kt et)∧P.underlying kt=some (tagD tag):=by
 unfold mMap at h;split at h
 ·rename_i kt et hu
  split at h
  ·rename_i d hd;have:=Qbal h;subst this;exact⟨kt,et,hu,hd⟩
  ·simp at h
 ·simp at h
def mE (P:Program)(o:Oper):EOp→Bool
 |.alloc cells=>match o.op with
  |.alloc t=>Qbfz P t cells
  |_=>false
 |.boxm x=>match o.op with
  |.box _ x'=>mO x x'
  |_=>false
 |.sto n x y=>match o.op with
  |.store t x' y'=>Qag6 P t n&&mO x x'&&mO y y'
  |_=>false
 |.app sz x y=>match o.op with
  |.call { callee:=.builtin .append,args:=⟨[x',y']⟩,argTypes:=ats }=>mO x x'&&mO y y'&&(match ats[0]?,ats[1]? with
   |some t,some t2=>(match P.underlying t,P.underlying t2 with
    |some (.slice el),some (.slice _)=>Qbli P el sz
    |_,_=>false)
   |_,_=>false)
  |_=>false
 |.mks sz zero x=>match o.op with
  |.makeSlice t x' y'=>mO x x'&&mO x y'&&zero.length == sz&&decide (sz≠0)&&(match P.underlying t with
   |some (.slice el)=>Qbli P el sz&&Qbfz P el zero
   |_=>false)
  |_=>false
 |.mkm=>false
 |.upd tag x k y=>false
 |.del tag x k=>false
 |.clrm x=>false
 |.clrs sz zero x=>false
 |.call f xs=>match o.op with
  |.call { callee:=.value (.func f'),args:=as,argTypes:=_ }=>f == f'&&mOs xs as.toList
  |_=>false
 |.callv x xs=>match o.op with
  |.call { callee:=.value y,args:=as,argTypes:=_ }=>mO x y&&mOs xs as.toList
  |_=>false
 |.rng x=>false
 |.nxt x=>false
 |.ent x=>false
 |.nilq x=>match o.op with
  |.binOp .eql t x' (.const (.slice none 0 0)) _=>mO x x'&&(match P.underlying t with
   |some (.slice _)=>true
   |_=>false)
  |_=>false
 |.cpy sz x y=>match o.op with
  |.call { callee:=.builtin .copy,args:=⟨[x',y']⟩,argTypes:=ats }=>mO x x'&&mO y y'&&(match ats[0]? with
   |some t=>(match P.underlying t with
    |some (.slice el)=>Qag6 P el sz
    |_=>false)
   |none=>false)
  |_=>false
 |.bslm sz parts=>match o.op with
  |.buildSlice t n parts'=>n == parts'.size&&decide (n * sz≤2 ^ 24)&&mRow 0 parts parts'.toList&&decide (sz≠0)&&(match P.underlying t with
   |some (.slice el)=>Qag6 P el sz&&(match P.info? el with
    |some i=>i.zero.isSome
    |none=>false)
   |_=>false)
  |_=>false
theorem Q9s {op:EOp}{K:V→Heap→Prop}(hm:mE P o op=true)(hs:Sat H g w)(he:EnvOk w g e a)(hp:p=true)(ho:op.eff P p e H K):EOk P H g w a o K:=by
 cases op with
 |alloc cells=>
  simp only[mE]at hm;split at hm
  ·obtain⟨i,z,h1,h2,h3⟩:=Qtt hm;exact Qbo7 ‹_› h1 h2 h3 hs ho
  ·simp at hm
 |boxm x=>
  simp only[mE]at hm;split at hm
  ·exact Qbr0 ‹_› hm hs he hp ho
  ·simp at hm
 |sto n x y=>
  simp only[mE]at hm;split at hm
  ·simp only[Ja]at hm;obtain⟨i,h1,h2⟩:=Qdu hm.1.1;exact Qbtj ‹_› h1 h2 hm.1.2 hm.2 hs he hp ho
  ·simp at hm
 |app sz x y=>
  simp only[mE]at hm;split at hm
  ·rename_i x' y' ats hop
   simp only[Ja]at hm;obtain⟨⟨h1,h2⟩,h3⟩:=hm;split at h3
   ·rename_i t t2 ht ht2
    split at h3
    ·rename_i el el2 hu hu2
     obtain⟨i,z,k1,k2,k3,k4,k5,k6⟩:=Qalh h3;exact Qbtg hop ht ht2 hu hu2 k1 k2 k3 k4 k5 k6 h1 h2 hs he hp ho
    ·simp at h3
   ·simp at h3
  ·simp at hm
 |bslm sz parts=>
  simp only[mE]at hm;split at hm
  ·rename_i t n parts' hop
   simp only[Ja,decide_eq_true_eq,beq_iff_eq]at hm;obtain⟨⟨⟨⟨h1,h2⟩,h3⟩,h4⟩,h5⟩:=hm;split at h5
   ·rename_i el hel
    rw[Ja]at h5;obtain⟨i,hi,hz⟩:=Qdu h5.1;have h6:=h5.2;rw[hi]at h6;obtain⟨z,hz'⟩:=J3.1 h6;obtain⟨k1,k2⟩:=Qaac _ _ _ h3;exact Qbr1 hop hel hi hz' hz h4 h1 h2 (by simpa using k1) (fun j x y e1 e2=>by
     have:=k2 j x y e1 (by simpa using e2);exact⟨by simpa using this.1,this.2⟩) hs he hp ho
   ·simp at h5
  ·simp at hm
 |mks sz zero x=>
  simp only[mE]at hm;split at hm
  ·rename_i t x' y' hop
   simp only[Ja,decide_eq_true_eq,beq_iff_eq]at hm;obtain⟨⟨⟨⟨h1,h2⟩,h3⟩,h4⟩,h5⟩:=hm;split at h5
   ·rename_i el hu
    rw[Ja]at h5;obtain⟨i,z,k1,k2,k3,k4,k5,k6⟩:=Qalh h5.1;obtain⟨i',z',l1,l2,l3⟩:=Qtt h5.2;rw[k1]at l1;simp at l1;subst l1;exact Qbti hop hu k1 k2 h4 l2 l3 h3 k5 h1 h2 hs he hp ho
   ·simp at h5
  ·simp at hm
 |mkm=>
  simp[mE]at hm
 |upd tag x k y=>
  simp[mE]at hm
 |del tag x k=>
  simp[mE]at hm
 |clrm x=>
  simp[mE]at hm
 |clrs sz zero x=>
  simp[mE]at hm
 |call f xs=>
  simp only[mE]at hm;split at hm
  ·simp only[Ja,beq_iff_eq]at hm;obtain⟨rfl,h2⟩:=hm;simp only[EOp.eff]at ho;exact Qbr2 ‹_› h2 hs he hp ho.1 ho.2
  ·simp at hm
 |callv x xs=>
  simp only[mE]at hm;split at hm
  ·simp only[Ja]at hm;exact Qbo8 ‹_› hm.1 hm.2 hs he hp ho
  ·simp at hm
 |rng x=>
  simp[mE]at hm
 |nxt x=>
  simp[mE]at hm
 |ent x=>
  simp[mE]at hm
 |cpy sz x y=>
  simp only[mE]at hm;split at hm
  ·rename_i x' y' ats hop
   rw[Ja,Ja]at hm;obtain⟨⟨h1,h3⟩,h2⟩:=hm;split at h2
   ·rename_i t ht
    split at h2
    ·rename_i el hu
     obtain⟨i,l1,l2⟩:=Qdu h2;exact Qbth hop ht hu l1 l2 h1 h3 hs he hp ho
    ·simp at h2
   ·simp at h2
  ·simp at hm
 |nilq x=>
  simp only[mE]at hm;split at hm
  ·rename_i t x' t' hop
   rw[Ja]at hm;obtain⟨h1,h2⟩:=hm;split at h2
   ·exact Qbr3 hop ‹_› h1 rfl hs he hp ho
   ·simp at h2
  ·simp at hm
def mG (ops:Array Oper):Option (Nat×Bool)→Option (Nat×Bool)→Bool
 |none,none=>true
 |some (j,b),some (t,b')=>(match ops[j]? with
  |some o=>o.dst == some t
  |none=>false)&&b == b'
 |_,_=>false
def mDst (n:Nat)(d d':Option Nat):Bool:=
 d == d'&&(match d with
  |some t=>decide (t<n)
  |none=>true)
def Qjl (P:Program)(n:Nat)(ops:Array Oper)(o:Oper):Item→Bool
 |.f d g op=>mDst n o.dst d&&mG ops o.guard g&&mF P o op
 |.p d g f xs=>mDst n o.dst d&&mG ops o.guard g&&mE P o (.call f xs)
 |.e d g op=>mDst n o.dst d&&mG ops o.guard g&&mE P o op
 |.chk _ _ _=>false
def mIts (P:Program)(n:Nat)(ops:Array Oper):Nat→List Item→Bool
 |i,[]=>i == ops.size
 |i,x::r=>(match ops[i]? with
  |some o=>Qjl P n ops o x
  |none=>false)&&mIts P n ops (i+1) r
def Post (n:Nat)(H:Heap)(g:G)(w:World)(K:Env→Heap→Prop)(a:Act)(w':World):Prop:=
 ∃e' H' g',K e' H'∧Stp H g w H' g' w'∧EnvOk w' g' e' a∧a.defers=[]∧a.tmps.size=n
theorem EnvOk.mono {g':G}{w':World}(hle:Le g w g' w')(h:EnvOk w g e a):EnvOk w' g' e a:=fun t=>(h t).mono hle
theorem EnvOk.put {n:Nat}{d:Option Nat}{x:V}{v:Value}(h:EnvOk w g e a)(hv:RepV w g x v)(hn:a.tmps.size=n)(hd:∀t,d=some t→t<n):EnvOk w g (Q9a d x e) (a.put d v):=by
 intro t
 cases d with
 |none=>exact h t
 |some s=>
  have hs:=hd s rfl;simp only[Q9a,lk,Act.put];by_cases ht:t=s
  ·subst ht;rw[if_pos rfl];have:(a.tmps.setIfInBounds t v).getD t undef=v:=by
    rw[Jb,Jv (by omega)];rfl
   rw[this];exact hv
  ·rw[if_neg ht];have:(a.tmps.setIfInBounds s v).getD t undef=a.tmps.getD t undef:=by
    rw[Jb,Jp (Jbe ht),←Jb]
   rw[this];exact h t
theorem Qbu (a:Act)(d:Option Nat)(v:Value):(a.put d v).tmps.size=a.tmps.size∧(a.put d v).defers=a.defers:=by
 cases d <;> simp[Act.put]
theorem Qlo {n:Nat}{ops:Array Oper}{gd:Option (Nat×Bool)}(hm:mG ops o.guard gd=true)(he:EnvOk w g e a)(ho:gdO e gd):Region.wanted o (yielded ops a.tmps)=gdB e gd:=by
 unfold Region.wanted
 cases hg:o.guard with
 |none=>
  cases gd with
  |none=>rfl
  |some x=>rw[hg]at hm;simp[mG]at hm
 |some jb=>
  obtain⟨j,b⟩:=jb
  cases gd with
  |none=>rw[hg]at hm;simp[mG]at hm
  |some tb=>
   obtain⟨t,b'⟩:=tb;rw[hg]at hm;simp only[mG,Ja,beq_iff_eq]at hm;obtain⟨h1,rfl⟩:=hm;split at h1
   ·rename_i oj hoj
    simp at h1;simp only[yielded,hoj,Option.bind_some,h1];have hv:=he t;simp only[gdO]at ho;simp only[gdB];have hget:∀c,a.tmps.getD t undef=.bool c→a.tmps[t]? = some (.bool c):=by
     intro c hc;rw[Jb]at hc
     cases hx:a.tmps[t]? with
     |none=>rw[hx]at hc;simp[undef]at hc
     |some y=>rw[hx]at hc;simp at hc;rw[hc]
    have hno:a.tmps.getD t undef=undef→∀c,a.tmps[t]?≠some (.bool c):=by
     intro hu c hc;rw[Jb,hc]at hu;simp[undef]at hu
    split at ho
    ·rename_i c hlk
     rw[hlk]at hv;have:=hget _ hv.c_inv.bool_inv;simp only[hlk];simp[this]
    ·rename_i q c hlk
     rw[hlk]at hv;simp only[hlk]
     cases hv with
     |gd _ _ _ k1 k2=>
      cases q with
      |true=>
       have:=hget _ (k1 rfl).c_inv.bool_inv;simp[this]
      |false=>
       have:=hno (k2 rfl);simp only[Bool.false_and]
       cases hx:a.tmps[t]? with
       |none=>simp
       |some y=>cases y <;> simp_all
    ·rename_i q v hnb hlk
     rw[hlk]at hv;subst ho;have e0:gdB e (some (t,b))=false:=by
      simp only[gdB,hlk]
      cases v with
      |c x=>cases x <;> simp
      |_=>rfl
     refine Eq.trans ?_ e0.symm
     cases hv with
     |gd _ _ _ k1 k2=>
      have:=hno (k2 rfl)
      cases hx:a.tmps[t]? with
      |none=>simp
      |some y=>cases y <;> simp_all
    ·exact ho.elim
   ·simp at h1
theorem Qda {n:Nat}{d d':Option Nat}(h:mDst n d d'=true):d=d'∧∀t,d=some t→t<n:=by
 unfold mDst at h;rw[Ja]at h;refine⟨by simpa using h.1,fun t ht=>?_⟩;subst ht;simpa using h.2
theorem Qa83 {f:Nat}{xs:List Opd}{r:V}(hm:mE P o (.call f xs)=true)(hs:Sat H g w)(he:EnvOk w g e a)(hp:p=true)(hf:∀x∈xs,x.fine p e)(hc:Qbjx P f (xs.map fun x=>x.v e) r) :
  EOk P H g w a o (fun v H'=>v=r∧H'=H):=
 Q9s (op:=.call f xs) hm hs he hp ⟨hf,hc.2 H _ ⟨rfl,rfl⟩⟩
theorem Qa0d {KP:Value→Heap→Prop}{K:V→Heap→Prop}{x:V}{v:Value}(h:Qa0b KP K x H)(hr:RepV w g x v):K x H:=by
 cases hr <;> exact h
theorem Qbam {n:Nat}{ops:Array Oper}{i:Nat}{x:Item}{rest:List Item}{KP:Value→Heap→Prop}{K:Env→Heap→Prop}{Q:Exit→Act→World→Prop}{next:Act→World→Prop}(hoi:ops[i]? = some o)(hm:Qjl P n ops o x=true)
  (hs:Sat H g w) (he:EnvOk w g e a) (hn:a.tmps.size=n) (hd:a.defers=[]) (hr:regT P (x::rest) e H KP K)
  (hpan:∀v H' g' w',KP v H'→Stp H g w H' g' w'→Q (.panic [{ v:=v,recovered:=false }]) a w')
  (hnext:∀e' H' g' a' w',regT P rest e' H' KP K→Stp H g w H' g' w'→EnvOk w' g' e' a'→a'.tmps.size=n→a'.defers=[]→next a' w') :
  (if Region.wanted o (yielded ops a.tmps)then o.wp P a w next Q∨(o.asks P a w∧LetsOut Q)else next (a.put o.dst undef) w):=by
 cases x with
 |f d gd op=>
  simp only[Qjl,Ja]at hm;obtain⟨⟨h1,h2⟩,h3⟩:=hm;obtain⟨hd1,hd2⟩:=Qda h1;simp only[regT]at hr;obtain⟨r1,r2,r3⟩:=hr;rw[Qlo (n:=n) h2 he r1];by_cases hg:gdB e gd=true
  ·rw[if_pos hg];obtain⟨v,w',g',k1,k2,k3,k4⟩:=Qarr h3 hs he hg (r2 hg);left;unfold Oper.wp;rw[k1,Oper.upon_value,hd1];refine hnext _ _ _ _ _ (r3 fun _=>k4) k2 (((he.mono k2.le).put (n:=n) ?_ hn (hd1▸hd2))) (by rw[(Qbu _ _ _).1,hn]) (by rw[(Qbu _ _ _).2,hd])
   cases gd with
   |none=>exact k3
   |some tb=>exact .gd _ _ _ (fun _=>k3) (fun h=>by rw[hg]at h;simp at h)
  ·rw[if_neg hg];have hg':gdB e gd=false:=by simpa using hg
   rw[hd1];refine hnext _ _ _ _ _ (r3 fun h=>absurd h hg) (.refl hs) (he.put (n:=n) ?_ hn (hd1▸hd2)) (by rw[(Qbu _ _ _).1,hn]) (by rw[(Qbu _ _ _).2,hd])
   cases gd with
   |none=>simp[gdB]at hg'
   |some tb=>exact .gd _ _ _ (fun h=>absurd h hg) (fun _=>rfl)
 |p d gd f xs=>
  simp only[Qjl,Ja]at hm;obtain⟨⟨h1,h2⟩,h3⟩:=hm;obtain⟨hd1,hd2⟩:=Qda h1;simp only[regT]at hr;obtain⟨r1,v0,r2,r3⟩:=hr;rw[Qlo (n:=n) h2 he r1];by_cases hg:gdB e gd=true
  ·rw[if_pos hg];obtain⟨s1,s2⟩:=r2 hg;left;refine Qa83 h3 hs he hg s1 s2 Q next (fun x v w' H' g' hk hst hrep=>?_) fun v w' H' g' hk _=>absurd hk.1.symm (s2.1 v);obtain⟨rfl,rfl⟩:=hk;rw[hd1];refine hnext _ _ _ _ _ r3 hst (((he.mono hst.le).put (n:=n) ?_ hn (hd1▸hd2))) (by rw[(Qbu _ _ _).1,hn]) (by rw[(Qbu _ _ _).2,hd])
   cases gd with
   |none=>exact hrep
   |some tb=>exact .gd _ _ _ (fun _=>hrep) (fun h=>by rw[hg]at h;simp at h)
  ·rw[if_neg hg];have hg':gdB e gd=false:=by simpa using hg
   rw[hd1];refine hnext _ _ _ _ _ r3 (.refl hs) (he.put (n:=n) ?_ hn (hd1▸hd2)) (by rw[(Qbu _ _ _).1,hn]) (by rw[(Qbu _ _ _).2,hd])
   cases gd with
   |none=>simp[gdB]at hg'
   |some tb=>exact .gd _ _ _ (fun h=>absurd h hg) (fun _=>rfl)
 |e d gd op=>
  simp only[Qjl,Ja]at hm;obtain⟨⟨h1,h2⟩,h3⟩:=hm;obtain⟨hd1,hd2⟩:=Qda h1;simp only[regT]at hr;obtain⟨r1,r2,r3⟩:=hr;rw[Qlo (n:=n) h2 he r1];by_cases hg:gdB e gd=true
  ·rw[if_pos hg];left;refine Q9s h3 hs he hg (r2 hg) Q next (fun x v w' H' g' hk hst hrep=>?_) fun v w' H' g' hk hst=>hpan v H' g' w' hk hst;rw[hd1];exact hnext _ _ _ _ _ (Qa0d hk hrep) hst (((he.mono hst.le).put (n:=n) hrep hn (hd1▸hd2))) (by rw[(Qbu _ _ _).1,hn]) (by rw[(Qbu _ _ _).2,hd])
  ·rw[if_neg hg];have hg':gdB e gd=false:=by simpa using hg
   rw[hd1];exact hnext _ _ _ _ _ (r3 hg') (.refl hs) (he.put (n:=n) (.unk _) hn (hd1▸hd2)) (by rw[(Qbu _ _ _).1,hn]) (by rw[(Qbu _ _ _).2,hd])
 |chk d gd op=>simp[Qjl]at hm
theorem Q3m {n:Nat}{ops:Array Oper}{KP:Value→Heap→Prop}{K:Env→Heap→Prop}{Q:Exit→Act→World→Prop}{H0:Heap}{g0:G}{w0:World}(hQ:∀a' w',Post n H0 g0 w0 K a' w'→Q .normal a' w')
  (hP:∀v a' w',Post n H0 g0 w0 (fun _ H'=>KP v H') a' w'→Q (.panic [{ v:=v,recovered:=false }]) a' w') :
  ∀(its:List Item) (i:Nat) (e:Env) (H:Heap) (g:G) (w:World) (a:Act),mIts P n ops i its=true→Stp H0 g0 w0 H g w→EnvOk w g e a→a.tmps.size=n→a.defers=[]→regT P its e H KP K→
   wpOps P ops Q (List.range' i its.length) a w
 |[],i,e,H,g,w,a,_,hst,he,hn,hd,hr=>hQ a w ⟨e,H,g,hr,hst,he,hd,hn⟩
 |x::rest,i,e,H,g,w,a,hm,hst,he,hn,hd,hr=>by
  simp only[mIts,Ja]at hm;obtain⟨h1,h2⟩:=hm;split at h1
  ·rename_i o ho
   simp only[J8,List.range'_succ,wpOps,ho];have:=Qbam (Q:=Q) (next:=wpOps P ops Q (List.range' (i+1) rest.length)) ho h1 hst.sat he hn hd hr (fun v H' g' w' k1 k2=>hP v a w' ⟨e,H',g',k1,hst.trans k2,he.mono k2.le,hd,hn⟩) fun e' H' g' a' w' k1 k2 k3 k4 k5=>
    Q3m hQ hP rest (i+1) e' H' g' w' a' h2 (hst.trans k2) k3 k4 k5 k1
   simpa using this
  ·simp at h1
theorem Qa8z {n:Nat}{ops:Array Oper}:∀(its:List Item) (i:Nat),mIts P n ops i its=true→i+its.length=ops.size
 |[],i,h=>by simpa[mIts]using h
 |x::r,i,h=>by
  simp only[mIts,Ja]at h;have:=Qa8z r (i+1) h.2;simp only[J8];omega
end Go.AE
namespace Go.AE
variable {P:Program}
def optL:Option Opd→List Opd
 |none=>[]
 |some x=>[x]
def FOp.opds:FOp→List Opd
 |.mv x=>[x]
 |.pick c a b=>[c,a,b]
 |.bin _ _ a b=>[a,b]
 |.not a=>[a]
 |.fad _ a=>[a]
 |.iad _ a i=>[a,i]
 |.ld _ _ a=>[a]
 |.nck a=>[a]
 |.len a=>[a]
 |.lens a=>[a]
 |.lenm a=>[a]
 |.sli _ a lo hi=>a::(optL lo++optL hi)
 |.slis a lo hi=>a::(optL lo++optL hi)
 |.ext a _=>[a]
 |.asl _ a=>[a]
 |.aslp _ a hi=>a::optL hi
 |.ldg _ _ _=>[]
 |.iax _ _ a i=>[a,i]
 |.slm _ a hi=>[a,hi]
 |.iaa _ _ a i=>[a,i]
 |.fld _ _ _ a=>[a]
 |.idx a i=>[a,i]
 |.bld _ parts=>parts.map fun p=>p.2.2
 |.bsl _ parts=>parts
 |.box a=>[a]
 |.cvt _ a=>[a]
 |.mkf _ caps=>caps
 |.lup _ _ m k=>[m,k]
 |.lup2 _ _ m k=>[m,k]
 |.mx a b=>[a,b]
 |.mn a b=>[a,b]
def EOp.opds:EOp→List Opd
 |.alloc _=>[]
 |.boxm a=>[a]
 |.sto _ a v=>[a,v]
 |.app _ a b=>[a,b]
 |.mks _ _ n=>[n]
 |.mkm=>[]
 |.upd _ m k v=>[m,k,v]
 |.del _ m k=>[m,k]
 |.clrm m=>[m]
 |.clrs _ _ m=>[m]
 |.call _ args=>args
 |.callv f args=>f::args
 |.rng m=>[m]
 |.nxt it=>[it]
 |.ent it=>[it]
 |.nilq a=>[a]
 |.bslm _ parts=>parts
 |.cpy _ a b=>[a,b]
def FOp.hfree:FOp→Bool
 |.iad _ _ _=>false
 |.ld _ _ _=>false
 |.len _=>false
 |.lenm _=>false
 |.sli _ _ _ _=>false
 |.lup _ _ _ _=>false
 |.asl _ _=>false
 |.ldg _ _ _=>false
 |.lup2 _ _ _ _=>false
 |_=>true
theorem Opd.v_congr {e e':Env}{x:Opd}(h:x.raw e'=x.raw e):x.v e'=x.v e:=by
 simp only[Opd.v,h]
theorem Opd.fine_congr {e e':Env}{x:Opd}{p:Bool}(h:x.raw e'=x.raw e):x.fine p e'↔x.fine p e:=by
 simp only[Opd.fine,h]
theorem Qpk {e e':Env}{x:Option Opd}{p:Bool}(h:∀y∈optL x,y.raw e'=y.raw e) :
  (x.map fun y=>Q9 (y.v e'))=(x.map fun y=>Q9 (y.v e))∧(optF p x e'↔optF p x e)∧(optI x e'↔optI x e):=by
 cases x with
 |none=>exact⟨rfl,Jbd,Jbd⟩
 |some y=>
  have:=h y (by simp[optL]);simp only[Jr,optF,optI,Opd.v_congr this,Opd.fine_congr this,and_self]
theorem FOp.congr {op:FOp}{e e':Env}{H:Heap}{p:Bool}(h:∀x∈op.opds,x.raw e'=x.raw e) :
  op.val e' H=op.val e H∧(op.obl p e' H↔op.obl p e H):=by
 cases op <;> simp only[FOp.opds,Jt,Jbb,or_false,forall_eq_or_imp,forall_eq,Jo,Ja8,forall_exists_index,and_imp]at h
 case sli sz a lo hi=>
  have h1:=Opd.v_congr h.1;have h2:=Qpk (x:=lo) (p:=p) fun y hy=>h.2 y (.inl hy);have h3:=Qpk (x:=hi) (p:=p) fun y hy=>h.2 y (.inr hy);simp only[FOp.val,FOp.obl,h1,h2.1,h3.1,h2.2.1,h3.2.1,h2.2.2,h3.2.2,Opd.fine_congr h.1,and_self]
 case ldg n b l=>exact⟨rfl,Jbd⟩
 case aslp n a hi=>
  have h1:=Opd.v_congr h.1;have h3:=Qpk (x:=hi) (p:=p) fun y hy=>h.2 y hy;simp only[FOp.val,FOp.obl,h1,h3.1,h3.2.1,h3.2.2,Opd.fine_congr h.1,and_self]
 case slis a lo hi=>
  have h1:=Opd.v_congr h.1;have h2:=Qpk (x:=lo) (p:=p) fun y hy=>h.2 y (.inl hy);have h3:=Qpk (x:=hi) (p:=p) fun y hy=>h.2 y (.inr hy);simp only[FOp.val,FOp.obl,h1,h2.1,h3.1,h2.2.1,h3.2.1,h2.2.2,h3.2.2,Opd.fine_congr h.1,and_self]
 case bld zero parts=>
  have h1:∀x∈parts,x.2.2.raw e'=x.2.2.raw e:=fun x hx=>h _ x hx rfl;refine⟨?_,?_⟩
  ·simp only[FOp.val];have:(parts.map fun p=>(p.1,(p.2.2.v e').cells))=parts.map fun p=>(p.1,(p.2.2.v e).cells):=
    J6 fun x hx=>by rw[Opd.v_congr (h1 x hx)]
   rw[this]
  ·simp only[FOp.obl];exact forall_congr' fun x=>forall_congr' fun hx=>by rw[Opd.fine_congr (h1 x hx),Opd.v_congr (h1 x hx)]
 case bsl sz parts=>
  refine⟨?_,?_⟩
  ·simp only[FOp.val];have:(parts.map fun x=>(x.v e').cells)=parts.map fun x=>(x.v e).cells:=
    J6 fun x hx=>by rw[Opd.v_congr (h x hx)]
   rw[this]
  ·simp only[FOp.obl];exact forall_congr' fun x=>forall_congr' fun hx=>by rw[Opd.fine_congr (h x hx),Opd.v_congr (h x hx)]
 case mkf f caps=>
  refine⟨?_,?_⟩
  ·simp only[FOp.val];have:(caps.map fun x=>(x.v e').c1)=caps.map fun x=>(x.v e).c1:=
    J6 fun x hx=>by rw[Opd.v_congr (h x hx)]
   rw[this]
  ·simp only[FOp.obl];exact forall_congr' fun x=>forall_congr' fun hx=>by rw[Opd.fine_congr (h x hx),Opd.v_congr (h x hx)]
 case pick c a b=>
  simp only[FOp.val,FOp.obl,Opd.v_congr h.1,Opd.v_congr h.2.1,Opd.v_congr h.2.2,Opd.fine_congr h.1,true_and];constructor <;> rintro⟨k1,k2⟩ <;> refine⟨k1,?_⟩ <;> split at k2 <;> first|exact k2.elim|skip
  ·rw[Opd.fine_congr h.2.1,Opd.fine_congr h.2.2]at k2;exact k2
  ·rw[Opd.fine_congr h.2.1,Opd.fine_congr h.2.2];exact k2
 all_goals first
  |(have h1:=Opd.v_congr h;simp only[FOp.val,FOp.obl,h1,Opd.fine_congr h,and_self])
  |(have h1:=Opd.v_congr h.1;have h2:=Opd.v_congr h.2;simp only[FOp.val,FOp.obl,h1,h2,Opd.fine_congr h.1,Opd.fine_congr h.2,and_self])
theorem FOp.hcongr {op:FOp}{e:Env}{H H':Heap}{p:Bool}(h:op.hfree=true):op.val e H'=op.val e H∧(op.obl p e H'↔op.obl p e H):=by
 cases op <;> first|(simp[FOp.hfree]at h;done)|exact⟨rfl,Jbd⟩
theorem Q02 {e e':Env}{xs:List Opd}(h:∀x∈xs,x.raw e'=x.raw e):(xs.map fun x=>x.v e')=(xs.map fun x=>x.v e):=
 J6 fun x hx=>Opd.v_congr (h x hx)
theorem Qwn {e e':Env}{xs:List Opd}{p:Bool}(h:∀x∈xs,x.raw e'=x.raw e):(∀x∈xs,x.fine p e')↔(∀x∈xs,x.fine p e):=
 forall_congr' fun x=>forall_congr' fun hx=>Opd.fine_congr (h x hx)
theorem EOp.congr {op:EOp}{e e':Env}{H:Heap}{p:Bool}{K:V→Heap→Prop}(h:∀x∈op.opds,x.raw e'=x.raw e)(he:op.eff P p e H K):op.eff P p e' H K:=by
 cases op
 case call f xs=>
  simp only[EOp.opds]at h;simp only[EOp.eff]at he⊢;rw[Q02 h,Qwn h];exact he
 case callv f xs=>
  simp only[EOp.opds,Jt,forall_eq_or_imp]at h;simp only[EOp.eff]at he⊢;rw[Q02 h.2,Qwn h.2,Opd.fine_congr h.1,Opd.v_congr h.1];exact he
 case bslm sz parts=>
  simp only[EOp.opds]at h;simp only[EOp.eff]at he⊢;have:(parts.map fun x=>(x.v e').cells)=parts.map fun x=>(x.v e).cells:=
   J6 fun x hx=>by rw[Opd.v_congr (h x hx)]
  rw[this];exact⟨fun x hx=>by rw[Opd.fine_congr (h x hx),Opd.v_congr (h x hx)];exact he.1 x hx,he.2⟩
 all_goals simp only[EOp.opds,Jt,Jbb,or_false,forall_eq_or_imp,forall_eq]at h
 all_goals first
  |exact he
  |(simp only[EOp.eff,Opd.v_congr h,Opd.fine_congr h]at he⊢;exact he)
  |(simp only[EOp.eff,Opd.v_congr h.1,Opd.fine_congr h.1,Opd.v_congr h.2,Opd.fine_congr h.2]at he⊢;exact he)
  |(simp only[EOp.eff,Opd.v_congr h.1,Opd.fine_congr h.1,Opd.v_congr h.2.1,Opd.fine_congr h.2.1,Opd.v_congr h.2.2,Opd.fine_congr h.2.2]at he⊢;exact he)
def Item.dst:Item→Option Nat
 |.f d _ _=>d
 |.p d _ _ _=>d
 |.e d _ _=>d
 |.chk _ _ _=>none
def Item.gd:Item→Option (Nat×Bool)
 |.f _ g _=>g
 |.p _ g _ _=>g
 |.e _ g _=>g
 |.chk _ g _=>g
def Item.opds:Item→List Opd
 |.f _ _ op=>op.opds
 |.p _ _ _ xs=>xs
 |.e _ _ op=>op.opds
 |.chk _ _ op=>op.opds
def Opd.tm:Opd→List Nat
 |.t n=>[n]
 |_=>[]
def Item.looks (x:Item):List Nat:=x.opds.flatMap Opd.tm++(match x.gd with
 |some (t,_)=>[t]
 |none=>[])
theorem Qbg6 {e e':Env}{x:Opd}(h:∀t∈x.tm,lk t e'=lk t e):x.raw e'=x.raw e:=by
 cases x with
 |t n=>simpa[Opd.raw,Opd.tm]using h
 |k v=>rfl
theorem Qar5 {e e':Env}{x:Item}(h:∀t∈x.looks,lk t e'=lk t e):∀y∈x.opds,y.raw e'=y.raw e:=fun y hy=>
 Qbg6 fun t ht=>h t (Jav _ (List.mem_flatMap.2 ⟨y,hy,ht⟩))
theorem Qbkp {e e':Env}{gd:Option (Nat×Bool)}(h:∀t b,gd=some (t,b)→lk t e'=lk t e):gdB e' gd=gdB e gd∧(gdO e' gd↔gdO e gd):=by
 cases gd with
 |none=>exact⟨rfl,Jbd⟩
 |some x=>
  obtain⟨t,b⟩:=x;have:=h t b rfl;simp only[gdB,gdO,this,and_self]
theorem Qa8y {e e':Env}{x:Item}(h:∀t∈x.looks,lk t e'=lk t e):gdB e' x.gd=gdB e x.gd∧(gdO e' x.gd↔gdO e x.gd):=
 Qbkp fun t b hg=>h t (Jau _ (by rw[hg];simp))
theorem Qam5 (ks:List Nat)(e:Env)(t:Nat):lk t (trim ks e)=if t∈ks then lk t e else .unk:=by
 unfold trim
 induction ks with
 |nil=>simp[lk]
 |cons k ks ih=>
  simp only[Jab,lk,ih,Jt];by_cases h:t=k
  ·subst h;simp
  ·simp[h]
end Go.AE
namespace Go.AE
variable {P:Program}{H:Heap}{g:G}{w:World}{e:Env}{a:Act}
def Item.isE:Item→Bool
 |.e _ _ _=>true
 |_=>false
def Item.isChk:Item→Bool
 |.chk _ _ _=>true
 |_=>false
def Item.isFl:Item→Bool
 |.f _ _ _=>true
 |.p _ _ _ _=>true
 |_=>false
def Item.hf:Item→Bool
 |.f _ _ op=>op.hfree
 |_=>true
def Item.isFa:Item→Bool
 |.e (some _) none (.alloc _)=>true
 |_=>false
abbrev Row:=Nat×Item
def Q01 (ms:List Nat)(o:Oper):Nat→List Edge→Nat
 |s,[]=>s
 |s,ed::r=>Q01 ms o (if Region.binds .any ed then s ||| (2 ^ ed.on ||| ms.getD ed.on 0)else s) r
def dIn (d:Option Nat)(l:List Nat):Bool:=
 match d with
 |some t=>l.contains t
 |none=>false
def Qa82 (ms:List Nat)(fa:Nat)(x y:Row):Bool:=
 x.1 != y.1&&!((ms.getD x.1 0).testBit y.1)&&(match x.2.dst with
  |some t=>y.2.dst != some t
  |none=>true)
 &&(!(dIn y.2.dst x.2.looks) || (ms.getD y.1 0).testBit x.1)
 &&(!(dIn x.2.dst y.2.looks) || (ms.getD y.1 0).testBit x.1)
 &&(!x.2.isE || y.1 == fa || (ms.getD y.1 0).testBit x.1)
def Qamt (j:Nat):List Row→Bool
 |[]=>false
 |y::r=>y.2.isChk&&(y.1 == j || Qamt j r)
def Qbbj (P:Program)(n:Nat)(ops:Array Oper)(ms:List Nat)(fa:Nat)(pre:List Row)(y:Row)(rest:List Row):Bool:=
 match ops[y.1]? with
 |none=>false
 |some o=>match y.2 with
  |.chk d gd op=>Qjl P n ops o (.f (some d) gd op)&&pre.any (fun z=>!z.2.isChk&&z.1 == y.1&&z.2.looks == y.2.looks&&z.2.dst == some d&&!z.2.hf)
    &&pre.all (fun z=>z.2.isChk || !(dIn z.2.dst y.2.looks) || (ms.getD y.1 0).testBit z.1)
  |_=>Qjl P n ops o y.2&&o.after.toList.all (fun ed=>!Region.binds .any ed || pre.any fun z=>!z.2.isChk&&z.1 == ed.on)
    &&ms.getD y.1 0 == Q01 ms o 0 o.after.toList&&!(dIn y.2.dst y.2.looks)
    &&pre.all (fun z=>z.2.isChk || Qa82 ms fa z y)&&(y.1 != fa || y.2.isFa)
    &&(!y.2.isE || pre.all (fun z=>z.2.isChk || z.2.hf || (ms.getD y.1 0).testBit z.1 || Qamt z.1 rest))
def Qatb (P:Program)(n:Nat)(ops:Array Oper)(ms:List Nat)(fa:Nat):List Row→List Row→Bool
 |_,[]=>true
 |pre,y::r=>Qbbj P n ops ms fa pre y r&&Qatb P n ops ms fa (pre++[y]) r
def Qbqi:List Oper→List Nat→List Nat
 |[],ms=>ms
 |o::r,ms=>Qbqi r (ms++[Q01 ms o 0 o.after.toList])
def Qbqb (P:Program)(n:Nat)(ops:Array Oper)(fa:Nat)(ord:List Nat)(its:List Item):Bool:=
 ord.length == its.length&&Region.noSelect ops&&Qatb P n ops (Qbqi ops.toList []) fa [] (ord.zip its)
  &&(List.range ops.size).all fun i=>(ord.zip its).any fun y=>!y.2.isChk&&y.1 == i
theorem Qwy {n:Nat}{ops:Array Oper}{ms:List Nat}{fa:Nat}:∀(L pre:List Row),Qatb P n ops ms fa pre L=true→
  ∀A y B,L=A++y::B→Qbbj P n ops ms fa (pre++A) y B=true
 |[],_,_,A,y,B,h=>by simp at h
 |x::r,pre,hm,A,y,B,h=>by
  simp only[Qatb,Ja]at hm
  cases A with
  |nil=>
   simp at h;obtain⟨rfl,rfl⟩:=h;simpa using hm.1
  |cons a A=>
   simp at h;obtain⟨rfl,rfl⟩:=h;have:=Qwy _ _ hm.2 A y B rfl;simpa[J0]using this
theorem Q25 {ms:List Nat}{o:Oper}{j:Nat}:∀(l:List Edge) (s:Nat),(Q01 ms o s l).testBit j=true→
  s.testBit j=true∨∃ed∈l,Region.binds .any ed=true∧(ed.on=j∨(ms.getD ed.on 0).testBit j=true)
 |[],s,h=>.inl h
 |ed::r,s,h=>by
  simp only[Q01]at h;rcases Q25 r _ h with h1|⟨x,hx,h1⟩
  ·by_cases hb:Region.binds .any ed=true
   ·rw[if_pos hb]at h1;simp only[Nat.testBit_or,Jaf]at h1;rcases h1 with h1|h1|h1
    ·exact .inl h1
    ·rw[Nat.testBit_two_pow]at h1;exact .inr ⟨ed,by simp,hb,.inl (by simpa using h1)⟩
    ·exact .inr ⟨ed,by simp,hb,.inr h1⟩
   ·rw[if_neg hb]at h1;exact .inl h1
  ·exact .inr ⟨x,by simp[hx],h1⟩
theorem dIn_iff {d:Option Nat}{l:List Nat}:dIn d l=true↔∃t,d=some t∧t∈l:=by
 cases d <;> simp[dIn]
structure PairOk (ms:List Nat)(fa:Nat)(x y:Row):Prop where
 ne:x.1≠y.1
 top:(ms.getD x.1 0).testBit y.1=false
 dst:∀t,x.2.dst=some t→y.2.dst≠some t
 war:∀t,y.2.dst=some t→t∈x.2.looks→(ms.getD y.1 0).testBit x.1=true
 raw:∀t,x.2.dst=some t→t∈y.2.looks→(ms.getD y.1 0).testBit x.1=true
 ord:x.2.isE=true→y.1≠fa→(ms.getD y.1 0).testBit x.1=true
theorem Qa1u {ms:List Nat}{fa:Nat}{x y:Row}(h:Qa82 ms fa x y=true):PairOk ms fa x y:=by
 simp only[Qa82,Ja,bne_iff_ne,Jaf,Jah,beq_iff_eq]at h;obtain⟨⟨⟨⟨⟨h1,h2⟩,h3⟩,h4⟩,h5⟩,h6⟩:=h;refine⟨h1,h2,?_,?_,?_,?_⟩
 ·intro t ht;rw[ht]at h3;simpa using h3
 ·intro t ht hm;rcases h4 with h4|h4
  ·have:=dIn_iff.2 ⟨t,ht,hm⟩;rw[this]at h4;simp at h4
  ·exact h4
 ·intro t ht hm;rcases h5 with h5|h5
  ·have:=dIn_iff.2 ⟨t,ht,hm⟩;rw[this]at h5;simp at h5
  ·exact h5
 ·intro hx hy;rcases h6 with (h6|h6)|h6
  ·rw[hx]at h6;simp at h6
  ·exact absurd h6 hy
  ·exact h6
structure RowOk (P:Program)(n:Nat)(ops:Array Oper)(ms:List Nat)(fa:Nat)(pre:List Row)(y:Row)(rest:List Row)(o:Oper):Prop where
 op:ops[y.1]? = some o
 item:Qjl P n ops o y.2=true
 aft:∀ed∈o.after,Region.binds .any ed=true→∃z∈pre,z.2.isChk=false∧z.1=ed.on
 anc:∀j,(ms.getD y.1 0).testBit j=true→∃ed∈o.after,Region.binds .any ed=true∧(ed.on=j∨(ms.getD ed.on 0).testBit j=true)
 self:∀t,y.2.dst=some t→t∉y.2.looks
 pair:∀z∈pre,z.2.isChk=false→PairOk ms fa z y
 isFa:y.1=fa→y.2.isFa=true
 cover:y.2.isE=true→∀z∈pre,z.2.isChk=false→z.2.hf=false→(ms.getD y.1 0).testBit z.1=false→Qamt z.1 rest=true
theorem Qbbk {n:Nat}{ops:Array Oper}{ms:List Nat}{fa:Nat}{pre:List Row}{y:Row}{rest:List Row}(h:Qbbj P n ops ms fa pre y rest=true)(hc:y.2.isChk=false) :
  ∃o,RowOk P n ops ms fa pre y rest o:=by
 obtain⟨i,x⟩:=y;unfold Qbbj at h
 cases ho:ops[i]? with
 |none=>simp[ho]at h
 |some o=>
  simp only[ho]at h;have key:(Qjl P n ops o x&&o.after.toList.all (fun ed=>!Region.binds .any ed || pre.any fun z=>!z.2.isChk&&z.1 == ed.on)
    &&ms.getD i 0 == Q01 ms o 0 o.after.toList&&!(dIn x.dst x.looks)
    &&pre.all (fun z=>z.2.isChk || Qa82 ms fa z (i,x))&&(i != fa || x.isFa)
    &&(!x.isE || pre.all (fun z=>z.2.isChk || z.2.hf || (ms.getD i 0).testBit z.1 || Qamt z.1 rest)))=true:=by
   cases x with
   |chk=>simp[Item.isChk]at hc
   |f=>exact h
   |p=>exact h
   |e=>exact h
  simp only[Ja,J7,Jaf,Jah,beq_iff_eq,bne_iff_ne,Jap]at key;obtain⟨⟨⟨⟨⟨⟨h1,h2⟩,h3⟩,h4⟩,h5⟩,h6⟩,h7⟩:=key;refine⟨o,ho,h1,?_,?_,?_,?_,?_,?_⟩
  ·intro ed hed hb;rcases h2 ed (by simpa using hed)with h|⟨z,hz,h⟩
   ·rw[hb]at h;simp at h
   ·exact⟨z,hz,h.1,h.2⟩
  ·intro j hj;simp only at hj;rw[h3]at hj;rcases Q25 _ _ hj with h|⟨ed,hed,h⟩
   ·simp at h
   ·exact⟨ed,by simpa using hed,h⟩
  ·intro t ht hm;have:=dIn_iff.2 ⟨t,ht,hm⟩;simp only at this;rw[this]at h4;simp at h4
  ·intro z hz hzc;rcases h5 z hz with h|h
   ·rw[hzc]at h;simp at h
   ·exact Qa1u h
  ·intro hf;rcases h6 with h|h
   ·exact absurd hf h
   ·exact h
  ·intro hE z hz hzc hzh hzt;rcases h7 with h|h
   ·simp only at hE;rw[hE]at h;simp at h
   ·rcases h z hz with ((h|h)|h)|h
    ·rw[hzc]at h;simp at h
    ·rw[hzh]at h;simp at h
    ·simp only at hzt;rw[hzt]at h;simp at h
    ·exact h
theorem Qa96 {n:Nat}{ops:Array Oper}{ms:List Nat}{fa:Nat}{pre:List Row}{i d:Nat}{gd:Option (Nat×Bool)}{op:FOp}{rest:List Row}(h:Qbbj P n ops ms fa pre (i,.chk d gd op) rest=true) :
  ∃o,ops[i]? = some o∧Qjl P n ops o (.f (some d) gd op)=true∧(∃z∈pre,z.2.isChk=false∧z.1=i∧z.2.looks=(Item.f (some d) gd op).looks∧z.2.dst=some d∧z.2.hf=false)∧
   ∀z∈pre,z.2.isChk=false→∀t,z.2.dst=some t→t∈(Item.f (some d) gd op).looks→(ms.getD i 0).testBit z.1=true:=by
 unfold Qbbj at h
 cases ho:ops[i]? with
 |none=>simp[ho]at h
 |some o=>
  simp only[ho,Ja,Jap,J7,Jaf,Jah,beq_iff_eq]at h;obtain⟨⟨h1,z,hz,⟨⟨⟨h2,h3⟩,h4⟩,h5⟩,h6⟩,h7⟩:=h;refine⟨o,rfl,h1,⟨z,hz,h2,h3,h4,h5,h6⟩,?_⟩;intro z hz hzc t ht hm;rcases h7 z hz with (h|h)|h
  ·rw[hzc]at h;simp at h
  ·have:=dIn_iff.2 ⟨t,ht,hm⟩;change dIn z.2.dst (Item.chk d gd op).looks=true at this;rw[this]at h;simp at h
  ·exact h
abbrev dn (listed:Array Bool)(i:Nat):Prop:=listed.getD i false=true
def Rdy (P:Program)(x:Item)(e:Env)(H:Heap)(v:V):Prop:=
 match x with
 |.f _ gd op=>gdO e gd∧(gdB e gd=true→op.obl (gdB e gd) e H)∧v=gdV gd (gdB e gd) (op.val e H)
 |.p _ gd f xs=>gdO e gd∧∃r,(gdB e gd=true→(∀y∈xs,y.fine (gdB e gd) e)∧Qbjx P f (xs.map fun y=>y.v e) r)∧v=gdV gd (gdB e gd) r
 |_=>False
theorem Rdy.congr {x:Item}{e e':Env}{v:V}(h:∀t∈x.looks,lk t e'=lk t e)(hr:Rdy P x e H v):Rdy P x e' H v:=by
 have h1:=Qar5 h;have h2:=Qa8y h
 cases x with
 |f d gd op=>
  simp only[Item.gd]at h2;simp only[Item.opds]at h1;have h3:=FOp.congr (H:=H) (p:=gdB e gd) h1;simp only[Rdy]at hr⊢;rw[h2.1,h2.2,h3.1,h3.2];exact hr
 |p d gd f xs=>
  simp only[Item.gd]at h2;simp only[Item.opds]at h1;simp only[Rdy]at hr⊢;rw[h2.1,h2.2,Q02 h1,Qwn h1];exact hr
 |e=>exact hr
 |chk=>exact hr
theorem Rdy.hcongr {x:Item}{e:Env}{H':Heap}{v:V}(h:x.hf=true)(hr:Rdy P x e H v):Rdy P x e H' v:=by
 cases x with
 |f d gd op=>
  have h3:=FOp.hcongr (e:=e) (H:=H) (H':=H') (p:=gdB e gd) (op:=op) h;simp only[Rdy]at hr⊢;rw[h3.1,h3.2];exact hr
 |p d gd f xs=>exact hr
 |e=>exact hr
 |chk=>exact hr
theorem Qbpo {n:Nat}{ops:Array Oper}{i:Nat}{o:Oper}{x:Item}{v:V}{Q:Exit→Act→World→Prop}{next:Act→World→Prop}(hoi:ops[i]? = some o)(hm:Qjl P n ops o x=true)
  (hr:Rdy P x e H v) (hs:Sat H g w) (he:EnvOk w g (trim x.looks e) a)
  (hnext:∀u w' g',Stp H g w H g' w'→RepV w' g' v u→next (a.put x.dst u) w') :
  wpOp P ops Q i next a w:=by
 have hr':Rdy P x (trim x.looks e) H v:=hr.congr fun t ht=>by rw[Qam5,if_pos ht]
 unfold wpOp;rw[hoi];simp only
 cases x with
 |f d gd op=>
  simp only[Qjl,Ja]at hm;obtain⟨⟨h1,h2⟩,h3⟩:=hm;obtain⟨hd1,hd2⟩:=Qda h1;simp only[Rdy]at hr';obtain⟨r1,r2,r3⟩:=hr';rw[Qlo (n:=n) h2 he r1];by_cases hg:gdB (trim (Item.f d gd op).looks e) gd=true
  ·rw[if_pos hg];obtain⟨u,w',g',k1,k2,k3,k4⟩:=Qarr h3 hs he hg (r2 hg);left;unfold Oper.wp;rw[k1,Oper.upon_value,hd1];refine hnext u w' g' k2 ?_;rw[r3]
   cases gd with
   |none=>exact k3
   |some tb=>exact .gd _ _ _ (fun _=>k3) (fun h=>by rw[hg]at h;simp at h)
  ·rw[if_neg hg];have hg':gdB (trim (Item.f d gd op).looks e) gd=false:=by simpa using hg
   rw[hd1];refine hnext _ _ g (.refl hs) ?_;rw[r3]
   cases gd with
   |none=>simp[gdB]at hg'
   |some tb=>exact .gd _ _ _ (fun h=>absurd h hg) (fun _=>rfl)
 |p d gd f xs=>
  simp only[Qjl,Ja]at hm;obtain⟨⟨h1,h2⟩,h3⟩:=hm;obtain⟨hd1,hd2⟩:=Qda h1;simp only[Rdy]at hr';obtain⟨r1,v0,r2,r3⟩:=hr';rw[Qlo (n:=n) h2 he r1];by_cases hg:gdB (trim (Item.p d gd f xs).looks e) gd=true
  ·rw[if_pos hg];obtain⟨s1,s2⟩:=r2 hg;left;refine Qa83 h3 hs he hg s1 s2 Q next (fun y u w' H' g' hk hst hrep=>?_) fun v w' H' g' hk _=>absurd hk.1.symm (s2.1 v);obtain⟨rfl,rfl⟩:=hk;rw[hd1];refine hnext _ _ g' hst ?_;rw[r3]
   cases gd with
   |none=>exact hrep
   |some tb=>exact .gd _ _ _ (fun _=>hrep) (fun h=>by rw[hg]at h;simp at h)
  ·rw[if_neg hg];have hg':gdB (trim (Item.p d gd f xs).looks e) gd=false:=by simpa using hg
   rw[hd1];refine hnext _ _ g (.refl hs) ?_;rw[r3]
   cases gd with
   |none=>simp[gdB]at hg'
   |some tb=>exact .gd _ _ _ (fun h=>absurd h hg) (fun _=>rfl)
 |e=>exact hr'.elim
 |chk=>exact hr'.elim
theorem Qbos {n:Nat}{ops:Array Oper}{i:Nat}{o:Oper}{d:Option Nat}{gd:Option (Nat×Bool)}{op:EOp}{K:V→Heap→Prop}{Q:Exit→Act→World→Prop}{next:Act→World→Prop}(hoi:ops[i]? = some o)
  (hm:Qjl P n ops o (.e d gd op)=true) (hs:Sat H g w) (he:EnvOk w g (trim (Item.e d gd op).looks e) a)
  (h1:gdO e gd) (h2:gdB e gd=true→op.eff P (gdB e gd) e H K) (h3:gdB e gd=false→K .unk H)
  (hnext:∀x u w' H' g',K x H'→Stp H g w H' g' w'→RepV w' g' x u→next (a.put d u) w') (hpan:∀v w' H' g',K (.pn v) H'→Stp H g w H' g' w'→Q (.panic [{ v:=v,recovered:=false }]) a w') :
  wpOp P ops Q i next a w:=by
 have hlk:∀t∈(Item.e d gd op).looks,lk t (trim (Item.e d gd op).looks e)=lk t e:=fun t ht=>by rw[Qam5,if_pos ht]
 have c1:=Qar5 hlk;have c2:=Qa8y hlk;simp only[Item.gd]at c2;simp only[Item.opds]at c1;unfold wpOp;rw[hoi];simp only;simp only[Qjl,Ja]at hm;obtain⟨⟨m1,m2⟩,m3⟩:=hm;obtain⟨hd1,hd2⟩:=Qda m1;rw[Qlo (n:=n) m2 he (c2.2.2 h1),c2.1];by_cases hg:gdB e gd=true
 ·rw[if_pos hg];left;refine Q9s m3 hs he hg (EOp.congr c1 (h2 hg)) Q next (fun x u w' H' g' hk hst hrep=>?_) hpan;rw[hd1];exact hnext x u w' H' g' hk hst hrep
 ·rw[if_neg hg];rw[hd1];exact hnext .unk undef w H g (h3 (by simpa using hg)) (.refl hs) (.unk _)
structure Early (g0:G)(H:Heap)(g:G)(w:World)(a:Act)(x:Item):Prop where
 ok:∃(d:Nat) (cells:List C) (l b sz:Nat) (T:TypeId) (cs:Array Value),x=.e (some d) none (.alloc cells)∧g.io l=some (b,sz,0)∧g.own b=some (l,[])∧w.heap[b]? = some (.cells cs T (0,0))∧
  cs.size=cells.length∧(∀(k:Nat) (c:C) (v:Value),cells[k]? = some c→cs[k]? = some v→RepC w g c v)∧H l=.none∧g0.io l=none∧RepV w g (.c (.ptr l 0)) (a.tmps.getD d undef)
theorem Early.mono {g0:G}{x:Item}{H':Heap}{g':G}{w':World}{a':Act}(h:Early g0 H g w a x)(hs:Stp H g w H' g' w')(ha:∀d,x.dst=some d→a'.tmps.getD d undef=a.tmps.getD d undef):Early g0 H' g' w' a' x:=by
 obtain⟨d,cells,l,b,sz,T,cs,h1,h2,h3,h4,h5,h6,h7,h8,h9⟩:=h.ok;obtain⟨k1,k2⟩:=hs.fr l (by rw[h2];simp) h7;obtain⟨k3,k4⟩:=k2 b [] h3;refine⟨d,cells,l,b,sz,T,cs,h1,hs.le.io _ _ h2,k3,k4.trans h4,h5,fun k c v p q=>(h6 k c v p q).mono hs.le,k1,h8,?_⟩;rw[ha d (by rw[h1];rfl)];exact h9.mono hs.le
theorem Qbac {n:Nat}{ops:Array Oper}{i:Nat}{o:Oper}{x:Item}{g0:G}{Q:Exit→Act→World→Prop}{next:Act→World→Prop}(hoi:ops[i]? = some o)(hm:Qjl P n ops o x=true)(hf:x.isFa=true)
  (hs:Sat H g w) (h0:∀l y,g0.io l=some y→g.io l=some y) (hn:a.tmps.size=n)
  (hnext:∀u w' g',Stp H g w H g' w'→Early g0 H g' w' (a.put x.dst u) x→next (a.put x.dst u) w') :
  wpOp P ops Q i next a w:=by
 cases x with
 |e d gd op=>
  cases op with
  |alloc cells=>
   cases d with
   |none=>simp[Item.isFa]at hf
   |some d=>
    cases gd with
    |some=>simp[Item.isFa]at hf
    |none=>
     simp only[Qjl,Ja]at hm;obtain⟨⟨m1,m2⟩,m3⟩:=hm;obtain⟨hd1,hd2⟩:=Qda m1;have hdn:=hd2 d hd1;simp only[mE]at m3;split at m3
     ·rename_i t hop
      obtain⟨i1,z,z1,z2,z3⟩:=Qtt m3;obtain⟨l,hl,hH⟩:=hs.newName;have hr:=Q0y (w:=w) (g:=g) z3;have hle:=Qfn hs hl cells.length 0 (.cells z.cells t);have hst:=Qe6 hs hl cells.length 0 (.cells z.cells t) .none (fun g' hg=>trivial);rw[Heap.set_self _ _ _ hH]at hst;have hg0:g0.io l=none:=by
       cases hx:g0.io l with
       |none=>rfl
       |some y=>rw[h0 l y hx]at hl;simp at hl
      have hw:Region.wanted o (yielded ops a.tmps)=true:=by
       unfold Region.wanted
       cases hgd:o.guard with
       |none=>rfl
       |some jb=>rw[hgd]at m2;simp[mG]at m2
      unfold wpOp;rw[hoi];simp only;rw[if_pos hw];left;unfold Oper.wp;have hrun:(execOp a.eval o).run P w=.ok (.value (.pointer (some ⟨w.heap.size,0,none⟩))) (w.alloc (.cells z.cells t)):=by
       simp[execOp,hop,Instr.alloc,Qabe z1 z2,newVar,newRow]
      rw[hrun,Oper.upon_value,hd1];refine hnext _ _ _ hst ⟨d,cells,l,w.heap.size,cells.length,t,z.cells,rfl,by simp[G.newObj],by simp[G.newObj],Qc6 _ _,hr.1,fun k c v p q=>(hr.2 k c v p q).mono hle,hH,hg0,?_⟩;have:(a.put (Item.e (some d) none (.alloc cells)).dst (.pointer (some ⟨w.heap.size,0,none⟩))).tmps.getD d undef=.pointer (some ⟨w.heap.size,0,none⟩):=by
       simp only[Item.dst,Act.put];rw[Jb,Jv (by omega)];rfl
      rw[this];exact .c _ _ (.ptr l 0 w.heap.size cells.length 0 (by simp[G.newObj]))
     ·simp at m3
  |_=>cases d <;> (try cases gd) <;> simp[Item.isFa]at hf
 |_=>simp[Item.isFa]at hf
theorem Qbej {H0:Heap}{g0:G}{w0:World}{x:Item}(hst:Stp H0 g0 w0 H g w)(h:Early g0 H g w a x) :
  ∃d cells l,x=.e (some d) none (.alloc cells)∧H l=.none∧Stp H0 g0 w0 (H.set l (.st cells)) g w∧RepV w g (.c (.ptr l 0)) (a.tmps.getD d undef):=by
 obtain⟨d,cells,l,b,sz,T,cs,h1,h2,h3,h4,h5,h6,h7,h8,h9⟩:=h.ok;refine⟨d,cells,l,h1,h7,⟨hst.le,fun m hm hn=>?_,⟨hst.sat.fresh,hst.sat.names,hst.sat.excl,hst.sat.named,fun m=>?_⟩⟩,h9⟩
 ·have hml:m≠l:=fun h=>by subst h;exact hm h8
  rw[Heap.set_other _ _ hml];exact hst.fr m hm hn
 ·by_cases hml:m=l
  ·subst hml;rw[Heap.set_same];exact⟨b,sz,T,cs,h2,h3,h4,h5,fun k c v p q=>.plain _ _ _ _ (h6 k c v p q)⟩
  ·have hH':=Heap.set_other H (.st cells) hml;rw[hH',←hH'];refine SatObj.keep hst.sat (.refl _ _) (fun b q hb=>⟨hb,rfl⟩) hH' fun m' v left cur hc v' es hv=>?_;by_cases hm':m'=l
   ·subst hm';rw[Heap.set_same]at hv;simp at hv
   ·rw[Heap.set_other _ _ hm']at hv;exact .inl ⟨hv,fun b q hb=>⟨hb,rfl⟩⟩
structure Fix where
 P:Program
 n:Nat
 ops:Array Oper
 ms:List Nat
 fa:Nat
 L:List Row
 H0:Heap
 g0:G
 w0:World
 KP:Value→Heap→Prop
 K:Env→Heap→Prop
def Fix.anc (F:Fix)(i j:Nat):Prop:=(F.ms.getD i 0).testBit j=true
def Qf9 (F:Fix)(listed:Array Bool)(pre:List Row)(y:Row)(t:Nat)(z:Row):Prop:=
 z∈pre∧z.2.isChk=false∧¬dn listed z.1∧z.2.dst=some t∧F.anc y.1 z.1
def Pend (F:Fix)(listed:Array Bool)(a:Act)(w:World)(pre:List Row)(e:Env)(H:Heap)(g:G)(y:Row):Prop:=
 ∃(o:Oper) (x:Item) (ei:Env) (v:V),F.ops[y.1]? = some o∧Qjl F.P F.n F.ops o x=true∧x.dst=y.2.dst∧x.looks=y.2.looks∧(y.2.hf=true→x.hf=true)∧
  Rdy F.P x ei H v∧(∀d,y.2.dst=some d→lk d e=v)∧
  ∀t∈y.2.looks,(∀z,Qf9 F listed pre y t z→lk t ei=lk t e)∧((¬∃z,Qf9 F listed pre y t z)→RepV w g (lk t ei) (a.tmps.getD t undef))
structure DInv (F:Fix)(listed:Array Bool)(a:Act)(w:World)(pre post:List Row)(e:Env)(H:Heap)(g:G):Prop where
 split:F.L=pre++post
 rest:Qop F.P (post.map Prod.snd) e H F.KP F.K
 stp:Stp F.H0 F.g0 F.w0 H g w
 size:a.tmps.size=F.n
 defers:a.defers=[]
 lsz:listed.size=F.ops.size
 closed:∀i,dn listed i→∀j,F.anc i j→dn listed j
 eDone:∀y∈pre,y.2.isE=true→dn listed y.1
 postDone:∀y∈post,y.2.isChk=false→dn listed y.1→y.1=F.fa∧Early F.g0 H g w a y.2
 pend:∀y∈pre,y.2.isFl=true→¬dn listed y.1→Qamt y.1 post=true∨Pend F listed a w pre e H g y
 temps:∀t,(∃y∈pre,y.2.isChk=false∧¬dn listed y.1∧y.2.dst=some t)∨(∃y∈post,y.2.isChk=false∧y.1=F.fa∧dn listed F.fa∧y.2.dst=some t)∨RepV w g (lk t e) (a.tmps.getD t undef)
structure FixOk (F:Fix):Prop where
 rows:Qatb F.P F.n F.ops F.ms F.fa [] F.L=true
 all:∀i,i<F.ops.size→∃y∈F.L,y.2.isChk=false∧y.1=i
theorem FixOk.row {F:Fix}(hF:FixOk F){A B:List Row}{y:Row}(h:F.L=A++y::B)(hc:y.2.isChk=false):∃o,RowOk F.P F.n F.ops F.ms F.fa A y B o:=by
 have:=Qwy _ _ hF.rows A y B h;exact Qbbk this hc
def Q9g (F:Fix)(x y:Row):Prop:=∃A B,F.L=A++y::B∧x∈A
theorem FixOk.pair {F:Fix}(hF:FixOk F){x y:Row}(h:Q9g F x y)(hx:x.2.isChk=false)(hy:y.2.isChk=false):PairOk F.ms F.fa x y:=by
 obtain⟨A,B,h1,h2⟩:=h;obtain⟨o,ho⟩:=hF.row h1 hy;exact ho.pair x h2 hx
theorem Qb3 {F:Fix}{pre post:List Row}(h:F.L=pre++post){x y:Row}(hx:x∈pre)(hy:y∈post):Q9g F x y:=by
 obtain⟨s,t,rfl⟩:=Jaa hy;exact⟨pre++s,t,by rw[h];simp,by simp[hx]⟩
theorem Qdq {F:Fix}{pre post:List Row}{y x:Row}(h:F.L=pre++y::post)(hx:x∈post):Q9g F y x:=
 Qb3 (pre:=pre++[y]) (by simpa using h) (by simp) hx
theorem Qak8 {F:Fix}{x y:Row}(hx:x∈F.L)(hy:y∈F.L):x=y∨Q9g F x y∨Q9g F y x:=by
 obtain⟨s,t,h⟩:=Jaa hx;have:y∈s++x::t:=h▸hy;rcases Jo.1 this with k|k
 ·exact .inr (.inr ⟨s,t,h,k⟩)
 ·rcases Jt.1 k with k|k
  ·exact .inl k.symm
  ·exact .inr (.inl (Qdq h k))
theorem FixOk.inj {F:Fix}(hF:FixOk F){x y:Row}(hx:x∈F.L)(hy:y∈F.L)(hxc:x.2.isChk=false)(hyc:y.2.isChk=false)(h:x.1=y.1):x=y:=by
 rcases Qak8 hx hy with k|k|k
 ·exact k
 ·exact absurd h (hF.pair k hxc hyc).ne
 ·exact absurd h.symm (hF.pair k hyc hxc).ne
theorem Qiq {x:Item}(h:x.isFl=true):x.isChk=false∧x.isE=false:=by
 cases x <;> simp_all[Item.isFl,Item.isChk,Item.isE]
theorem Qarw {x:Item}(h:x.isE=true):x.isChk=false∧x.isFl=false:=by
 cases x <;> simp_all[Item.isFl,Item.isChk,Item.isE]
theorem Qj7 {j:Nat}{y:Row}{r:List Row}(h:Qamt j (y::r)=true):y.2.isChk=true∧(y.1=j∨Qamt j r=true):=by
 simpa[Qamt]using h
theorem DInv.passFl {F:Fix}(hF:FixOk F){listed:Array Bool}{pre r:List Row}{y:Row}(hI:DInv F listed a w pre (y::r) e H g)(hy:y.2.isFl=true)(v:V)(hr:Rdy F.P y.2 e H v)
  (hrest:Qop F.P (r.map Prod.snd) (Q9a y.2.dst v e) H F.KP F.K) (hnd:¬dn listed y.1):DInv F listed a w (pre++[y]) r (Q9a y.2.dst v e) H g:=by
 obtain⟨hyc,hye⟩:=Qiq hy;obtain⟨o,ho⟩:=hF.row hI.split hyc;have hL:y∈F.L:=by rw[hI.split];simp
 have hpre:∀z∈pre,z∈F.L:=fun z hz=>by rw[hI.split];simp[hz]
 have hpost:∀z∈r,z∈F.L:=fun z hz=>by rw[hI.split];simp[hz]
 have hlk:∀t,y.2.dst≠some t→lk t (Q9a y.2.dst v e)=lk t e:=by
  intro t ht
  cases hd:y.2.dst with
  |none=>rfl
  |some d=>
   simp only[Q9a,lk];rw[if_neg];intro h;subst h;exact ht hd
 have hlkd:∀t,y.2.dst=some t→lk t (Q9a y.2.dst v e)=v:=by
  intro t ht;rw[ht];simp[Q9a,lk]
 refine⟨by rw[hI.split];simp,hrest,hI.stp,hI.size,hI.defers,hI.lsz,hI.closed,?_,?_,?_,?_⟩
 ·intro z hz hzE;rcases Jo.1 hz with k|k
  ·exact hI.eDone z k hzE
  ·simp at k;subst k;rw[hye]at hzE;simp at hzE
 ·exact fun z hz=>hI.postDone z (by simp[hz])
 ·intro z hz hzf hzn;obtain⟨hzc,hze⟩:=Qiq hzf;right;rcases Jo.1 hz with k|k
  ·rcases hI.pend z k hzf hzn with h|h
   ·have:=(Qj7 h).1;rw[hyc]at this;simp at this
   ·obtain⟨o',x,ei,u,p1,p2,p3,p4,p5,p6,p7,p8⟩:=h;refine⟨o',x,ei,u,p1,p2,p3,p4,p5,p6,?_,?_⟩
    ·intro d hd;rw[hlk d fun h=>(hF.pair (Qb3 hI.split k (by simp)) hzc hyc).dst d hd h];exact p7 d hd
    ·intro t ht;obtain⟨q1,q2⟩:=p8 t ht;have hb:∀z',Qf9 F listed (pre++[y]) z t z'→Qf9 F listed pre z t z':=by
      rintro z' ⟨b1,b2,b3,b4,b5⟩;refine⟨?_,b2,b3,b4,b5⟩;rcases Jo.1 b1 with b|b
      ·exact b
      ·simp at b;subst b;have:=(hF.pair (Qb3 hI.split k (by simp)) hzc hyc).top;rw[Fix.anc,this]at b5;simp at b5
     refine⟨?_,?_⟩
     ·intro z' hz';have hz'':=hb z' hz';rw[q1 z' hz'',hlk];intro h;exact (hF.pair (Qb3 hI.split hz''.1 (by simp)) hz''.2.1 hyc).dst t hz''.2.2.2.1 h
     ·intro hno;refine q2 fun ⟨z',b1,b2⟩=>hno ⟨z',?_,b2⟩;simp[b1]
  ·simp at k;subst k;refine⟨o,z.2,e,v,ho.op,ho.item,rfl,rfl,id,hr,hlkd,?_⟩;intro t ht;have hself:z.2.dst≠some t:=fun h=>ho.self t h ht;refine⟨?_,?_⟩
   ·intro z' hz';rw[hlk t hself]
   ·intro hno;rcases hI.temps t with ⟨y',k1,k2,k3,k4⟩|⟨y',k1,k2,k3,k4,k5⟩|k
    ·exact absurd ⟨y',by simp[k1],k2,k3,k4,(hF.pair (Qb3 hI.split k1 (by simp)) k2 hzc).raw t k4 ht⟩ hno
    ·exfalso;rcases Jt.1 k1 with h|h
     ·subst h;exact hself k5
     ·have:=(hF.pair (Qdq hI.split h) hzc k2).war t k5 ht;rw[k3]at this;exact hnd (hI.closed _ k4 _ this)
    ·exact k
 ·intro t;by_cases ht:y.2.dst=some t
  ·exact .inl ⟨y,by simp,hyc,hnd,ht⟩
  ·rw[hlk t ht];rcases hI.temps t with ⟨y',k1,k2,k3,k4⟩|⟨y',k1,k2,k3,k4,k5⟩|k
   ·exact .inl ⟨y',by simp[k1],k2,k3,k4⟩
   ·rcases Jt.1 k1 with h|h
    ·subst h;exact absurd k5 ht
    ·exact .inr (.inl ⟨y',h,k2,k3,k4,k5⟩)
   ·exact .inr (.inr k)
theorem DInv.passChk {F:Fix}(hF:FixOk F){listed:Array Bool}{pre r:List Row}{j d:Nat}{gd:Option (Nat×Bool)}{op:FOp}(hI:DInv F listed a w pre ((j,.chk d gd op)::r) e H g) :
  DInv F listed a w (pre++[(j,.chk d gd op)]) r e H g:=by
 have hrow:=Qwy _ _ hF.rows pre _ _ hI.split;obtain⟨o,c1,c2,⟨y0,c3,c4,c5,c6,c7,c8⟩,c9⟩:=Qa96 hrow;have hrest:=hI.rest;simp only[Jab,Qop]at hrest;obtain⟨⟨r1,r2,r3⟩,r4⟩:=hrest;have hpre:∀z∈pre,z∈F.L:=fun z hz=>by rw[hI.split];simp[hz]
 have hbe:∀z t z',Qf9 F listed (pre++[(j,.chk d gd op)]) z t z'↔Qf9 F listed pre z t z':=by
  intro z t z';constructor
  ·rintro⟨b1,b2⟩;refine⟨?_,b2⟩;rcases Jo.1 b1 with b|b
   ·exact b
   ·simp at b;subst b;simp[Item.isChk]at b2
  ·rintro⟨b1,b2⟩;exact⟨by simp[b1],b2⟩
 refine⟨by rw[hI.split];simp,r4,hI.stp,hI.size,hI.defers,hI.lsz,hI.closed,?_,?_,?_,?_⟩
 ·intro z hz hzE;rcases Jo.1 hz with k|k
  ·exact hI.eDone z k hzE
  ·simp at k;subst k;simp[Item.isE]at hzE
 ·exact fun z hz=>hI.postDone z (by simp[hz])
 ·intro z hz hzf hzn;obtain⟨hzc,hze⟩:=Qiq hzf;have k:z∈pre:=by
   rcases Jo.1 hz with k|k
   ·exact k
   ·simp at k;subst k;simp[Item.isChk]at hzc
  have hold:Pend F listed a w pre e H g z→Pend F listed a w (pre++[(j,.chk d gd op)]) e H g z:=by
   rintro⟨o',x,ei,u,p1,p2,p3,p4,p5,p6,p7,p8⟩;refine⟨o',x,ei,u,p1,p2,p3,p4,p5,p6,p7,fun t ht=>?_⟩;simp only[hbe];exact p8 t ht
  rcases hI.pend z k hzf hzn with h|h
  ·rcases (Qj7 h).2 with h'|h'
   ·right;simp only at h';have hz0:z=y0:=hF.inj (hpre _ k) (hpre _ c3) hzc c4 (by rw[c5,←h']);subst hz0;refine⟨o,.f (some d) gd op,e,gdV gd (gdB e gd) (op.val e H),by rw[c5];exact c1,c2,by rw[c7];rfl,c6.symm,fun h=>by rw[c8]at h;simp at h,⟨r1,r2,rfl⟩,?_,?_⟩
    ·intro d' hd';rw[c7]at hd';simp at hd';subst hd';exact r3
    ·intro t ht;simp only[hbe];refine⟨fun _ _=>trivial,fun hno=>?_⟩;rcases hI.temps t with ⟨y',k1,k2,k3,k4⟩|⟨y',k1,k2,k3,k4,k5⟩|k'
     ·exfalso;refine hno ⟨y',k1,k2,k3,k4,?_⟩;have:=c9 y' k1 k2 t k4 (by rw[←c6];exact ht);rw[Fix.anc,c5];exact this
     ·exfalso;rcases Jt.1 k1 with h|h
      ·subst h;simp[Item.isChk]at k2
      ·have:=(hF.pair (Qb3 (pre:=pre++[(j,.chk d gd op)]) (by rw[hI.split];simp) (by simp[k]) h) hzc k2).war t k5 ht;rw[k3]at this;exact hzn (hI.closed _ k4 _ this)
     ·exact k'
   ·exact .inl h'
  ·exact .inr (hold h)
 ·intro t;rcases hI.temps t with ⟨y',k1,k2,k3,k4⟩|⟨y',k1,k2,k3,k4,k5⟩|k
  ·exact .inl ⟨y',by simp[k1],k2,k3,k4⟩
  ·rcases Jt.1 k1 with h|h
   ·subst h;simp[Item.isChk]at k2
   ·exact .inr (.inl ⟨y',h,k2,k3,k4,k5⟩)
  ·exact .inr (.inr k)
theorem Qg8 {d:Option Nat}{v:V}{e:Env}{t:Nat}(h:d≠some t):lk t (Q9a d v e)=lk t e:=by
 cases d with
 |none=>rfl
 |some s=>
  simp only[Q9a,lk];rw[if_neg];intro k;subst k;exact h rfl
theorem Qalg {d:Option Nat}{v:V}{e:Env}{t:Nat}(h:d=some t):lk t (Q9a d v e)=v:=by
 subst h;simp[Q9a,lk]
theorem Q3a {a:Act}{d:Option Nat}{u:Value}{t:Nat}(h:d≠some t):(a.put d u).tmps.getD t undef=a.tmps.getD t undef:=by
 cases d with
 |none=>rfl
 |some s=>
  have:s≠t:=fun k=>by subst k;exact h rfl
  simp only[Act.put];rw[Jb,Jp this,←Jb]
theorem Qbg3 {a:Act}{d:Option Nat}{u:Value}{t:Nat}(h:d=some t)(ht:t<a.tmps.size):(a.put d u).tmps.getD t undef=u:=by
 subst h;simp only[Act.put];rw[Jb,Jv ht];rfl
theorem Qcc {listed:Array Bool}{i j:Nat}(hi:i<listed.size):dn (listed.setIfInBounds i true) j↔j=i∨dn listed j:=by
 by_cases h:j=i
 ·subst h;simp[dn,hi]
 ·simp only[dn,getD_set_ne false (Jbe h),h,false_or]
theorem Qaaa {n:Nat}{ops:Array Oper}{o:Oper}{x:Item}(h:Qjl P n ops o x=true):∀t,x.dst=some t→t<n:=by
 intro t ht;cases x <;> simp only[Qjl,Ja]at h
 case f d gd op=>obtain⟨h1,h2⟩:=Qda h.1.1;simp only[Item.dst]at ht;exact h2 t (h1.trans ht)
 case p d gd f xs=>obtain⟨h1,h2⟩:=Qda h.1.1;simp only[Item.dst]at ht;exact h2 t (h1.trans ht)
 case e d gd op=>obtain⟨h1,h2⟩:=Qda h.1.1;simp only[Item.dst]at ht;exact h2 t (h1.trans ht)
 case chk=>simp at h
theorem DInv.passE {F:Fix}(hF:FixOk F){listed:Array Bool}{pre r:List Row}{y:Row}(hI:DInv F listed a w pre (y::r) e H g)(hy:y.2.isE=true)(hyn:¬dn listed y.1)(hyf:y.1≠F.fa)
  (hanc:∀j,F.anc y.1 j→dn listed j) {v:V} {u:Value} {w':World} {H':Heap} {g':G}
  (hrest:Qop F.P (r.map Prod.snd) (Q9a y.2.dst v e) H' F.KP F.K) (hst:Stp H g w H' g' w') (hv:RepV w' g' v u) :
  DInv F (listed.setIfInBounds y.1 true) (a.put y.2.dst u) w' (pre++[y]) r (Q9a y.2.dst v e) H' g':=by
 obtain⟨hyc,hyl⟩:=Qarw hy;obtain⟨o,ho⟩:=hF.row hI.split hyc;have hlt:y.1<listed.size:=by rw[hI.lsz];exact (Jw.1 ho.op).1
 have hpre:∀z∈pre,z∈F.L:=fun z hz=>by rw[hI.split];simp[hz]
 have hbz:∀z∈pre,Q9g F z y:=fun z hz=>Qb3 hI.split hz (by simp);refine⟨by rw[hI.split];simp,hrest,hI.stp.trans hst,by rw[(Qbu _ _ _).1];exact hI.size,by rw[(Qbu _ _ _).2];exact hI.defers,by simp[hI.lsz],?_,?_,?_,?_,?_⟩
 ·intro i hi j hj;rw[Qcc hlt]at hi⊢;rcases hi with rfl|hi
  ·exact .inr (hanc j hj)
  ·exact .inr (hI.closed i hi j hj)
 ·intro z hz hzE;rw[Qcc hlt];rcases Jo.1 hz with k|k
  ·exact .inr (hI.eDone z k hzE)
  ·simp at k;subst k;exact .inl rfl
 ·intro z hz hzc hzd;have hzy:=hF.pair (Qdq hI.split hz) hyc hzc;rw[Qcc hlt]at hzd;obtain⟨k1,k2⟩:=hI.postDone z (by simp[hz]) hzc (hzd.resolve_left (Jbe hzy.ne));exact⟨k1,k2.mono hst fun d hd=>Q3a fun h=>hzy.dst d h hd⟩
 ·intro z hz hzf hzn;obtain⟨hzc,hze⟩:=Qiq hzf;rw[Qcc hlt]at hzn;have hzn':¬dn listed z.1:=fun h=>hzn (.inr h);have k:z∈pre:=by
   rcases Jo.1 hz with k|k
   ·exact k
   ·simp at k;subst k;rw[hyl]at hzf;simp at hzf
  have hp:=hF.pair (hbz z k) hzc hyc;by_cases hh:z.2.hf=true
  ·right;rcases hI.pend z k hzf hzn' with h|h
   ·have:=(Qj7 h).1;rw[hyc]at this;simp at this
   ·obtain⟨o',x,ei,u',p1,p2,p3,p4,p5,p6,p7,p8⟩:=h;refine⟨o',x,ei,u',p1,p2,p3,p4,p5,p6.hcongr (p5 hh),?_,?_⟩
    ·intro d hd;rw[Qg8 fun h=>hp.dst d hd h];exact p7 d hd
    ·intro t ht;obtain⟨q1,q2⟩:=p8 t ht;have hyt:y.2.dst≠some t:=fun h=>by
      have:=hp.war t h ht;exact hzn' (hanc _ this)
     have hb:∀z',Qf9 F (listed.setIfInBounds y.1 true) (pre++[y]) z t z'↔Qf9 F listed pre z t z':=by
      intro z';constructor
      ·rintro⟨b1,b2,b3,b4,b5⟩;rw[Qcc hlt]at b3;refine⟨?_,b2,fun h=>b3 (.inr h),b4,b5⟩;rcases Jo.1 b1 with b|b
       ·exact b
       ·simp at b;subst b;exact absurd b4 hyt
      ·rintro⟨b1,b2,b3,b4,b5⟩;refine⟨by simp[b1],b2,?_,b4,b5⟩;rw[Qcc hlt];rintro (h|h)
       ·exact (hF.pair (hbz z' b1) b2 hyc).ne h
       ·exact b3 h
     simp only[hb,Qg8 hyt,Q3a hyt];exact⟨q1,fun h=>(q2 h).mono hst.le⟩
  ·left;have:=ho.cover hy z k hzc (by simpa using hh);refine this ?_
   cases hx:(F.ms.getD y.1 0).testBit z.1 with
   |false=>rfl
   |true=>exact absurd (hanc _ hx) hzn'
 ·intro t;by_cases ht:y.2.dst=some t
  ·right;right;rw[Qalg ht,Qbg3 ht (by rw[hI.size];exact Qaaa ho.item t ht)];exact hv
  ·rw[Qg8 ht,Q3a ht];rcases hI.temps t with ⟨y',k1,k2,k3,k4⟩|⟨y',k1,k2,k3,k4,k5⟩|k
   ·refine .inl ⟨y',by simp[k1],k2,?_,k4⟩;rw[Qcc hlt];rintro (h|h)
    ·exact (hF.pair (hbz y' k1) k2 hyc).ne h
    ·exact k3 h
   ·rcases Jt.1 k1 with h|h
    ·subst h;exact absurd k3 hyf
    ·exact .inr (.inl ⟨y',h,k2,k3,(Qcc hlt).2 (.inr k4),k5⟩)
   ·exact .inr (.inr (k.mono hst.le))
theorem DInv.passFa {F:Fix}(hF:FixOk F){listed:Array Bool}{pre r:List Row}{y:Row}(hI:DInv F listed a w pre (y::r) e H g)(hyc:y.2.isChk=false)(hyn:dn listed y.1) :
  ∃e' H',DInv F listed a w (pre++[y]) r e' H' g:=by
 obtain⟨hyf,hea⟩:=hI.postDone y (by simp) hyc hyn;obtain⟨d,cells,l,h1,h2,h3,h4⟩:=Qbej hI.stp hea;obtain⟨o,ho⟩:=hF.row hI.split hyc;have hy:y.2.isE=true:=by rw[h1];rfl
 have hyl:=(Qarw hy).2;have hyd:y.2.dst=some d:=by rw[h1];rfl
 have hbz:∀z∈pre,Q9g F z y:=fun z hz=>Qb3 hI.split hz (by simp);have hrest:=hI.rest;simp only[Jab,h1,Qop,gdO,gdB,true_and,EOp.eff]at hrest;have hrest':=hrest.1 trivial l h2;refine⟨Q9a (some d) (.c (.ptr l 0)) e,H.set l (.st cells),?_⟩;refine⟨by rw[hI.split];simp,hrest',h3,hI.size,hI.defers,hI.lsz,hI.closed,?_,?_,?_,?_⟩
 ·intro z hz hzE;rcases Jo.1 hz with k|k
  ·exact hI.eDone z k hzE
  ·simp at k;subst k;exact hyn
 ·intro z hz hzc hzd;obtain⟨k1,k2⟩:=hI.postDone z (by simp[hz]) hzc hzd;exact absurd (hyf.trans k1.symm) (hF.pair (Qdq hI.split hz) hyc hzc).ne
 ·intro z hz hzf hzn;obtain⟨hzc,hze⟩:=Qiq hzf;have k:z∈pre:=by
   rcases Jo.1 hz with k|k
   ·exact k
   ·simp at k;subst k;rw[hyl]at hzf;simp at hzf
  have hp:=hF.pair (hbz z k) hzc hyc;by_cases hh:z.2.hf=true
  ·right;rcases hI.pend z k hzf hzn with h|h
   ·have:=(Qj7 h).1;rw[hyc]at this;simp at this
   ·obtain⟨o',x,ei,u',p1,p2,p3,p4,p5,p6,p7,p8⟩:=h;refine⟨o',x,ei,u',p1,p2,p3,p4,p5,p6.hcongr (p5 hh),?_,?_⟩
    ·intro d' hd';rw[Qg8 fun h=>hp.dst d' hd' (by rw[hyd];exact h)];exact p7 d' hd'
    ·intro t ht;obtain⟨q1,q2⟩:=p8 t ht;have hyt:some d≠some t:=fun h=>by
      have:=hp.war t (by rw[hyd];exact h) ht;exact hzn (hI.closed _ hyn _ this)
     have hb:∀z',Qf9 F listed (pre++[y]) z t z'↔Qf9 F listed pre z t z':=by
      intro z';constructor
      ·rintro⟨b1,b2,b3,b4,b5⟩;refine⟨?_,b2,b3,b4,b5⟩;rcases Jo.1 b1 with b|b
       ·exact b
       ·simp at b;subst b;rw[hyd]at b4;exact absurd b4 hyt
      ·rintro⟨b1,b2⟩;exact⟨by simp[b1],b2⟩
     simp only[hb,Qg8 hyt];exact⟨q1,q2⟩
  ·left;refine ho.cover hy z k hzc (by simpa using hh) ?_
   cases hx:(F.ms.getD y.1 0).testBit z.1 with
   |false=>rfl
   |true=>exact absurd (hI.closed _ hyn _ hx) hzn
 ·intro t;by_cases ht:some d=some t
  ·right;right;rw[Qalg ht];simp at ht;subst ht;exact h4
  ·rw[Qg8 ht];rcases hI.temps t with ⟨y',k1,k2,k3,k4⟩|⟨y',k1,k2,k3,k4,k5⟩|k
   ·exact .inl ⟨y',by simp[k1],k2,k3,k4⟩
   ·rcases Jt.1 k1 with h|h
    ·subst h;rw[hyd]at k5;exact absurd k5 ht
    ·exact .inr (.inl ⟨y',h,k2,k3,k4,k5⟩)
   ·exact .inr (.inr k)
theorem DInv.doneFl {F:Fix}(hF:FixOk F){listed:Array Bool}{pre post:List Row}{y:Row}(hI:DInv F listed a w pre post e H g)(hyp:y∈pre)(hy:y.2.isFl=true)(hyn:¬dn listed y.1)
  (hanc:∀j,F.anc y.1 j→dn listed j) {v:V} {u:Value} {w':World} {g':G} (hvd:∀d,y.2.dst=some d→lk d e=v)
  (hst:Stp H g w H g' w') (hv:RepV w' g' v u) :
  DInv F (listed.setIfInBounds y.1 true) (a.put y.2.dst u) w' pre post e H g':=by
 obtain⟨hyc,hye⟩:=Qiq hy;have hyL:y∈F.L:=by rw[hI.split];simp[hyp]
 obtain⟨A,B,hAB⟩:=Jaa hyL;obtain⟨o,ho⟩:=hF.row hAB hyc;have hlt:y.1<listed.size:=by rw[hI.lsz];exact (Jw.1 ho.op).1
 have hpre:∀z∈pre,z∈F.L:=fun z hz=>by rw[hI.split];simp[hz]
 refine⟨hI.split,hI.rest,hI.stp.trans hst,by rw[(Qbu _ _ _).1];exact hI.size,by rw[(Qbu _ _ _).2];exact hI.defers,by simp[hI.lsz],?_,?_,?_,?_,?_⟩
 ·intro i hi j hj;rw[Qcc hlt]at hi⊢;rcases hi with rfl|hi
  ·exact .inr (hanc j hj)
  ·exact .inr (hI.closed i hi j hj)
 ·intro z hz hzE;rw[Qcc hlt];exact .inr (hI.eDone z hz hzE)
 ·intro z hz hzc hzd;have hzy:=hF.pair (Qb3 hI.split hyp hz) hyc hzc;rw[Qcc hlt]at hzd;obtain⟨k1,k2⟩:=hI.postDone z hz hzc (hzd.resolve_left (Jbe hzy.ne));exact⟨k1,k2.mono hst fun d hd=>Q3a fun h=>hzy.dst d h hd⟩
 ·intro z hz hzf hzn;obtain⟨hzc,hze⟩:=Qiq hzf;rw[Qcc hlt]at hzn;have hzn':¬dn listed z.1:=fun h=>hzn (.inr h);have hzy:z≠y:=fun h=>hzn (.inl (by rw[h]));rcases hI.pend z hz hzf hzn' with h|h
  ·exact .inl h
  ·right;obtain⟨o',x,ei,u',p1,p2,p3,p4,p5,p6,p7,p8⟩:=h;refine⟨o',x,ei,u',p1,p2,p3,p4,p5,p6,p7,?_⟩;intro t ht;obtain⟨q1,q2⟩:=p8 t ht;have hb:∀z',Qf9 F (listed.setIfInBounds y.1 true) pre z t z'→Qf9 F listed pre z t z':=by
    rintro z' ⟨b1,b2,b3,b4,b5⟩;rw[Qcc hlt]at b3;exact⟨b1,b2,fun h=>b3 (.inr h),b4,b5⟩
   refine⟨fun z' hz'=>q1 z' (hb z' hz'),fun hno=>?_⟩;by_cases hyt:y.2.dst=some t
   ·have hbe:Qf9 F listed pre z t y:=by
     refine⟨hyp,hyc,hyn,hyt,?_⟩;rcases Qak8 hyL (hpre z hz)with k|k|k
     ·exact absurd k.symm hzy
     ·exact (hF.pair k hyc hzc).raw t hyt ht
     ·exact absurd (hanc _ ((hF.pair k hzc hyc).war t hyt ht)) hzn'
    rw[q1 y hbe,hvd t hyt,Qbg3 hyt (by rw[hI.size];exact Qaaa ho.item t hyt)];exact hv
   ·rw[Q3a hyt];refine (q2 fun ⟨z',b⟩=>hno ⟨z',?_⟩).mono hst.le;obtain⟨b1,b2,b3,b4,b5⟩:=b;refine⟨b1,b2,?_,b4,b5⟩;rw[Qcc hlt];rintro (h|h)
    ·have:=hF.inj (hpre _ b1) hyL b2 hyc h;subst this;exact hyt b4
    ·exact b3 h
 ·intro t;by_cases ht:y.2.dst=some t
  ·right;right;rw[hvd t ht,Qbg3 ht (by rw[hI.size];exact Qaaa ho.item t ht)];exact hv
  ·rw[Q3a ht];rcases hI.temps t with ⟨y',k1,k2,k3,k4⟩|⟨y',k1,k2,k3,k4,k5⟩|k
   ·refine .inl ⟨y',k1,k2,?_,k4⟩;rw[Qcc hlt];rintro (h|h)
    ·have:=hF.inj (hpre _ k1) hyL k2 hyc h;subst this;exact ht k4
    ·exact k3 h
   ·exact .inr (.inl ⟨y',k1,k2,k3,(Qcc hlt).2 (.inr k4),k5⟩)
   ·exact .inr (.inr (k.mono hst.le))
theorem DInv.doneFa {F:Fix}(hF:FixOk F){listed:Array Bool}{pre post:List Row}{y:Row}(hI:DInv F listed a w pre post e H g)(hyp:y∈post)(hyc:y.2.isChk=false)(hyf:y.1=F.fa)(hyn:¬dn listed y.1)
  (hanc:∀j,F.anc y.1 j→dn listed j) {u:Value} {w':World} {g':G}
  (hst:Stp H g w H g' w') (hv:Early F.g0 H g' w' (a.put y.2.dst u) y.2) :
  DInv F (listed.setIfInBounds y.1 true) (a.put y.2.dst u) w' pre post e H g':=by
 have hyL:y∈F.L:=by rw[hI.split];simp[hyp]
 obtain⟨A,B,hAB⟩:=Jaa hyL;obtain⟨o,ho⟩:=hF.row hAB hyc;have hlt:y.1<listed.size:=by rw[hI.lsz];exact (Jw.1 ho.op).1
 have hpre:∀z∈pre,z∈F.L:=fun z hz=>by rw[hI.split];simp[hz]
 have hpost:∀z∈post,z∈F.L:=fun z hz=>by rw[hI.split];simp[hz]
 refine⟨hI.split,hI.rest,hI.stp.trans hst,by rw[(Qbu _ _ _).1];exact hI.size,by rw[(Qbu _ _ _).2];exact hI.defers,by simp[hI.lsz],?_,?_,?_,?_,?_⟩
 ·intro i hi j hj;rw[Qcc hlt]at hi⊢;rcases hi with rfl|hi
  ·exact .inr (hanc j hj)
  ·exact .inr (hI.closed i hi j hj)
 ·intro z hz hzE;rw[Qcc hlt];exact .inr (hI.eDone z hz hzE)
 ·intro z hz hzc hzd;rw[Qcc hlt]at hzd;rcases hzd with h|h
  ·have:=hF.inj (hpost _ hz) hyL hzc hyc h;subst this;exact⟨hyf,hv⟩
  ·obtain⟨k1,k2⟩:=hI.postDone z hz hzc h;have:=hF.inj (hpost _ hz) hyL hzc hyc (k1.trans hyf.symm);subst this;exact absurd h hyn
 ·intro z hz hzf hzn;obtain⟨hzc,hze⟩:=Qiq hzf;rw[Qcc hlt]at hzn;have hzn':¬dn listed z.1:=fun h=>hzn (.inr h);rcases hI.pend z hz hzf hzn' with h|h
  ·exact .inl h
  ·right;obtain⟨o',x,ei,u',p1,p2,p3,p4,p5,p6,p7,p8⟩:=h;refine⟨o',x,ei,u',p1,p2,p3,p4,p5,p6,p7,?_⟩;intro t ht;obtain⟨q1,q2⟩:=p8 t ht;have hyt:y.2.dst≠some t:=fun h=>by
    have:=(hF.pair (Qb3 hI.split hz hyp) hzc hyc).war t h ht;exact hzn' (hanc _ this)
   have hb:∀z',Qf9 F (listed.setIfInBounds y.1 true) pre z t z'↔Qf9 F listed pre z t z':=by
    intro z';constructor
    ·rintro⟨b1,b2,b3,b4,b5⟩;rw[Qcc hlt]at b3;exact⟨b1,b2,fun h=>b3 (.inr h),b4,b5⟩
    ·rintro⟨b1,b2,b3,b4,b5⟩;refine⟨b1,b2,?_,b4,b5⟩;rw[Qcc hlt];rintro (h|h)
     ·exact (hF.pair (Qb3 hI.split b1 hyp) b2 hyc).ne h
     ·exact b3 h
   simp only[hb,Q3a hyt];exact⟨q1,fun h=>(q2 h).mono hst.le⟩
 ·intro t;by_cases ht:y.2.dst=some t
  ·exact .inr (.inl ⟨y,hyp,hyc,hyf,(Qcc hlt).2 (.inl hyf.symm),ht⟩)
  ·rw[Q3a ht];rcases hI.temps t with ⟨y',k1,k2,k3,k4⟩|⟨y',k1,k2,k3,k4,k5⟩|k
   ·refine .inl ⟨y',k1,k2,?_,k4⟩;rw[Qcc hlt];rintro (h|h)
    ·exact (hF.pair (Qb3 hI.split k1 hyp) k2 hyc).ne h
    ·exact k3 h
   ·exact .inr (.inl ⟨y',k1,k2,k3,(Qcc hlt).2 (.inr k4),k5⟩)
   ·exact .inr (.inr (k.mono hst.le))
def Qbor (listed:Array Bool)(post:List Row):Prop:=post=[]∨∃y r,post=y::r∧y.2.isE=true∧¬dn listed y.1
theorem Q00 {F:Fix}(hF:FixOk F){listed:Array Bool}:∀(post pre:List Row) (e:Env) (H:Heap),DInv F listed a w pre post e H g→
  ∃pre' post' e' H',DInv F listed a w pre' post' e' H' g∧Qbor listed post'
 |[],pre,e,H,hI=>⟨pre,[],e,H,hI,.inl rfl⟩
 |(i,x)::r,pre,e,H,hI=>by
  have hnE:x.isE=false→x.isChk=false→¬dn listed i:=by
   intro hx hc hd;obtain⟨_,hea⟩:=hI.postDone (i,x) (by simp) hc hd;obtain⟨d,cells,l,b,sz,T,cs,h1,_⟩:=hea.ok;simp only at h1;rw[h1]at hx;simp[Item.isE]at hx
  have hrest:=hI.rest
  cases x with
  |chk d gd op=>exact Q00 hF r _ e H (hI.passChk hF)
  |f d gd op=>
   simp only[Jab,Qop]at hrest;exact Q00 hF r _ _ H (hI.passFl hF rfl _ ⟨hrest.1,hrest.2.1,rfl⟩ hrest.2.2 (hnE rfl rfl))
  |p d gd f xs=>
   simp only[Jab,Qop]at hrest;obtain⟨r1,v,r2,r3⟩:=hrest;exact Q00 hF r _ _ H (hI.passFl hF rfl _ ⟨r1,v,r2,rfl⟩ r3 (hnE rfl rfl))
  |e d gd op=>
   by_cases hd:dn listed i
   ·obtain⟨e',H',hI'⟩:=hI.passFa hF rfl hd;exact Q00 hF r _ e' H' hI'
   ·exact⟨pre,_,e,H,hI,.inr ⟨_,r,rfl,rfl,hd⟩⟩
theorem Qaro {α:Type}{p q:α→Bool}:∀(l:List α),(∀x∈l,q x=true→p x=true)→(∃x∈l,p x=true∧q x=false)→l.countP q<l.countP p
 |[],_,h=>by simp at h
 |x::r,h1,h2=>by
  have hle:r.countP q≤r.countP p:=List.countP_mono_left fun y hy=>h1 y (by simp[hy]);obtain⟨y,hy,k1,k2⟩:=h2;rcases Jt.1 hy with rfl|hy
  ·simp only[Jba,k1,k2];simp;omega
  ·have:=Qaro r (fun y hy=>h1 y (by simp[hy])) ⟨y,hy,k1,k2⟩;have hx:=h1 x (by simp);simp only[Jba]
   cases hq:q x with
   |true=>rw[hx hq];simp;omega
   |false=>simp;split <;> omega
def unl (F:Fix)(listed:Array Bool):Nat:=(List.range F.ops.size).countP fun i=>!listed.getD i false
theorem Qa8c {F:Fix}(hF:FixOk F){listed:Array Bool}(hsz:listed.size=F.ops.size)(hr:Region.ready .any F.ops listed=[]):∀(B A:List Row),F.L=A++B→
  (∀y∈A,y.2.isChk=false→dn listed y.1)→∀y∈B,y.2.isChk=false→dn listed y.1
 |[],A,h,hA,y,hy,hc=>by simp at hy
 |x::r,A,h,hA,y,hy,hc=>by
  have hx:x.2.isChk=false→dn listed x.1:=by
   intro hxc;obtain⟨o,ho⟩:=hF.row h hxc;have hlt:x.1<listed.size:=by rw[hsz];exact (Jw.1 ho.op).1
   by_cases hd:dn listed x.1
   ·exact hd
   ·exfalso;have:x.1∈Region.ready .any F.ops listed:=by
     rw[mem_ready];refine⟨?_,o,ho.op,fun ed hed hb=>?_⟩
     ·simp only[dn]at hd;rw[Jb,Jc hlt]at hd⊢;simpa using hd
     ·obtain⟨z,hz,h1,h2⟩:=ho.aft ed hed hb;rw[←h2];exact hA z hz h1
    rw[hr]at this;simp at this
  rcases Jt.1 hy with rfl|hy
  ·exact hx hc
  ·refine Qa8c hF hsz hr r (A++[x]) (by rw[h];simp) ?_ y hy hc;intro z hz hzc;rcases Jo.1 hz with k|k
   ·exact hA z k hzc
   ·simp at k;subst k;exact hx hzc
theorem Qa8j {F:Fix}(hF:FixOk F){listed:Array Bool}{pre post:List Row}(hI:DInv F listed a w pre post e H g)(hst:Qbor listed post)(hr:Region.ready .any F.ops listed=[]) :
  Post F.n F.H0 F.g0 F.w0 F.K a w:=by
 have hall:=Qa8c hF hI.lsz hr F.L [] rfl (by simp);rcases hst with rfl|⟨y,r,rfl,hy,hd⟩
 ·refine⟨e,H,g,hI.rest,hI.stp,fun t=>?_,hI.defers,hI.size⟩;rcases hI.temps t with ⟨y',k1,k2,k3,k4⟩|⟨y',k1,_⟩|k
  ·exact absurd (hall y' (by rw[hI.split];simp[k1]) k2) k3
  ·simp at k1
  ·exact k
 ·exact absurd (hall y (by rw[hI.split];simp) (Qarw hy).1) hd
theorem Qbei {F:Fix}(hF:FixOk F){Q:Exit→Act→World→Prop}(hQ:∀a' w',Post F.n F.H0 F.g0 F.w0 F.K a' w'→Q .normal a' w')(hP:∀v a' w' H' g',F.KP v H'→Stp F.H0 F.g0 F.w0 H' g' w'→a'.defers=[]→a'.tmps.size=F.n→Q (.panic [{ v:=v,recovered:=false }]) a' w') :
  ∀(fuel:Nat) (listed:Array Bool) (a:Act) (w:World) (pre post:List Row) (e:Env) (H:Heap) (g:G),DInv F listed a w pre post e H g→Qbor listed post→unl F listed≤fuel→
   wpAny F.P .any F.ops Q fuel listed a w:=by
 intro fuel
 induction fuel with
 |zero=>
  intro listed a w pre post e H g hI hst hu;have hr:Region.ready .any F.ops listed=[]:=by
   rw[List.eq_nil_iff_forall_not_mem];intro i hi;rw[mem_ready]at hi;obtain⟨h1,o,h2,h3⟩:=hi;have hlt:i<F.ops.size:=(Jw.1 h2).1;have:0<unl F listed:=by
    unfold unl;rw[List.countP_pos_iff];refine⟨i,by simp[hlt],?_⟩;have hlt':i<listed.size:=(by rw[hI.lsz];exact hlt);rw[Jb,Jc hlt']at h1⊢;simpa using h1
   omega
  exact⟨hr,hQ _ _ (Qa8j hF hI hst hr)⟩
 |succ fuel ih=>
  intro listed a w pre post e H g hI hst hu;refine⟨fun hr=>hQ _ _ (Qa8j hF hI hst hr),?_⟩;intro i hi;rw[mem_ready]at hi;obtain⟨h1,o,h2,h3⟩:=hi;have hlt:i<F.ops.size:=(Jw.1 h2).1;have hlt':i<listed.size:=by rw[hI.lsz];exact hlt
  have hnd:¬dn listed i:=by
   simp only[dn];rw[Jb,Jc hlt']at h1⊢;simpa using h1
  have hu':unl F (listed.setIfInBounds i true)≤fuel:=by
   have:unl F (listed.setIfInBounds i true)<unl F listed:=by
    refine Qaro _ ?_ ⟨i,by simp[hlt],?_,?_⟩
    ·intro j hj hq;by_cases hij:i=j
     ·subst hij;simp[hlt']at hq
     ·rw[getD_set_ne false hij]at hq;exact hq
    ·simpa[dn]using hnd
    ·simp[hlt']
   omega
  obtain⟨y,hyL,hyc,hyi⟩:=hF.all i hlt;subst hyi;obtain⟨A,B,hAB⟩:=Jaa hyL;obtain⟨o',ho⟩:=hF.row hAB hyc;have hoo:o'=o:=by have:=ho.op;rw[h2]at this;simpa using this.symm
  subst hoo;have hanc:∀j,F.anc y.1 j→dn listed j:=by
   intro j hj;obtain⟨ed,k1,k2,k3⟩:=ho.anc j hj;rcases k3 with k3|k3
   ·rw[←k3];exact h3 ed k1 k2
   ·exact hI.closed _ (h3 ed k1 k2) j k3
  have hgo:∀a' w' pre' post' e' H' g',DInv F (listed.setIfInBounds y.1 true) a' w' pre' post' e' H' g'→wpAny F.P .any F.ops Q fuel (listed.setIfInBounds y.1 true) a' w':=by
   intro a' w' pre' post' e' H' g' hI';obtain⟨p2,q2,e2,H2,hI2,hs2⟩:=Q00 hF post' pre' e' H' hI';exact ih _ a' w' p2 q2 e2 H2 g' hI2 hs2 hu'
  have hmem:y∈pre∨y∈post:=by
   have:y∈pre++post:=hI.split▸hyL;exact Jo.1 this
  have hearly:y.1=F.fa→y∈post→wpOp F.P F.ops Q y.1 (wpAny F.P .any F.ops Q fuel (listed.setIfInBounds y.1 true)) a w:=by
   intro hfa hyp;refine Qbac h2 ho.item (ho.isFa hfa) hI.stp.sat (fun l z hz=>hI.stp.le.io l z hz) hI.size (g0:=F.g0) fun u w' g' k1 k2=>?_;exact hgo _ _ _ _ _ _ _ (hI.doneFa hF hyp hyc hfa hnd hanc k1 k2)
  rcases hmem with hyp|hyp
  ·
   have hfl:y.2.isFl=true:=by
    have hE:=hI.eDone y hyp;revert hE hyc;cases y.2 <;> simp_all[Item.isFl,Item.isChk,Item.isE]
   rcases hI.pend y hyp hfl hnd with h|h
   ·exfalso;rcases hst with rfl|⟨z,r,rfl,hz,_⟩
    ·simp[Qamt]at h
    ·have:=(Qj7 h).1;rw[(Qarw hz).1]at this;simp at this
   ·obtain⟨o2,x,ei,v,p1,p2,p3,p4,p5,p6,p7,p8⟩:=h;rw[h2]at p1;simp only[Je]at p1;subst p1;have hno:∀t,¬∃z,Qf9 F listed pre y t z:=by
     rintro t ⟨z,b1,b2,b3,b4,b5⟩;exact b3 (hanc _ b5)
    refine Qbpo (n:=F.n) h2 p2 p6 hI.stp.sat ?_ fun u w' g' k1 k2=>?_
    ·intro t;rw[Qam5];split
     ·rename_i ht
      rw[p4]at ht;exact (p8 t ht).2 (hno t)
     ·exact .unk _
    ·rw[p3];exact hgo _ _ _ _ _ _ _ (hI.doneFl hF hyp hfl hnd hanc p7 k1 k2)
  ·by_cases hfa:y.1=F.fa
   ·exact hearly hfa hyp
   ·rcases hst with rfl|⟨z,r,rfl,hz,hzd⟩
    ·simp at hyp
    ·have hyz:y=z:=by
      rcases Jt.1 hyp with k|k
      ·exact k
      ·exfalso;have:=(hF.pair (Qdq hI.split k) (Qarw hz).1 hyc).ord hz hfa;exact hzd (hanc _ this)
     subst hyz;have hrest:=hI.rest;have him:=ho.item;have hpass:=@DInv.passE;obtain⟨yi,yx⟩:=y
     cases yx with
     |e d gd op=>
      simp only[Jab,Qop]at hrest;obtain⟨r1,r2,r3⟩:=hrest;refine Qbos (n:=F.n) h2 him hI.stp.sat ?_ r1 r2 r3 (fun x u w' H' g' k1 k2 k3=>?_) fun v w' H' g' k1 k2=>hP v a w' H' g' k1 (hI.stp.trans k2) hI.defers hI.size
      ·intro t;rw[Qam5];split
       ·rename_i ht
        rcases hI.temps t with ⟨y',b1,b2,b3,b4⟩|⟨y',b1,b2,b3,b4,b5⟩|k
        ·exfalso;exact b3 (hanc _ ((hF.pair (Qb3 hI.split b1 (by simp)) b2 hyc).raw t b4 ht))
        ·exfalso;rcases Jt.1 b1 with h|h
         ·subst h;exact hnd (by rw[b3];exact b4)
         ·have:=(hF.pair (Qdq hI.split h) hyc b2).war t b5 ht;rw[b3]at this;exact hnd (hI.closed _ b4 _ this)
        ·exact k
       ·exact .unk _
      ·exact hgo _ _ _ _ _ _ _ (hI.passE hF hz hnd hfa hanc (Qa0d k1 k3) k2 k3)
     |f=>simp[Item.isE]at hz
     |p=>simp[Item.isE]at hz
     |chk=>simp[Item.isE]at hz
theorem Qbji (hs:Sat H g w)(k:Nat):Stp H g w H g { w with drawn:=k }:=by
 have hle:Le g w g { w with drawn:=k }:=⟨fun _ h=>⟨h,rfl⟩,fun _ _ h=>h,Jx _,fun _ _ _ h=>h,rfl,rfl,rfl⟩;have hk:∀l,Q0z g w g { w with drawn:=k } l:=fun l b q hb=>⟨hb,rfl⟩;exact⟨hle,fun l _ hn=>⟨hn,fun b p hb=>⟨hb,rfl⟩⟩,hs.fresh,hs.names,hs.excl,hs.named,fun l=>SatObj.keep_all hs hle hk l⟩
theorem Qbab {n id fa:Nat}{ord:List Nat}{ops:Array Oper}{its:List Item}{KP:Value→Heap→Prop}{K:Env→Heap→Prop}{Q:Exit→Act→World→Prop}(Qaj:P.follows .mixedOrders=true)(hm:Qbqb P n ops fa ord its=true)(hs:Sat H g w)(he:EnvOk w g e a)(hn:a.tmps.size=n)(hd:a.defers=[])
  (hr:Qop P its e H KP K) (hQ:∀a' w',Post n H g w K a' w'→Q .normal a' w') (hP:∀v a' w',Post n H g w (fun _ H'=>KP v H') a' w'→Q (.panic [{ v:=v,recovered:=false }]) a' w'):(Code.region id ops true).wp P Q a w:=by
 simp only[Qbqb,Ja,beq_iff_eq,J7,Jax,Jap,Jah]at hm;obtain⟨⟨⟨m1,m2⟩,m3⟩,m4⟩:=hm;let F:Fix:={ P,n,ops,ms:=Qbqi ops.toList [],fa,L:=ord.zip its,H0:=H,g0:=g,w0:=w,KP,K };have hF:FixOk F:=⟨m3,fun i hi=>m4 i hi⟩;have hmap:(ord.zip its).map Prod.snd=its:=by
  rw[List.map_snd_zip];omega
 have hst:=Qbji hs (w.drawn+1);have hnl:∀i,¬dn (Array.replicate ops.size false) i:=by
  intro i h;simp only[dn,Jb,Array.getElem?_replicate]at h;split at h <;> simp at h
 have hI:DInv F (Array.replicate ops.size false) a { w with drawn:=w.drawn+1 } [] (ord.zip its) e H g:=by
  refine⟨rfl,by rw[hmap];exact hr,hst,hn,hd,by simp[F],fun i hi=>absurd hi (hnl i),by simp,fun y _ _ h=>absurd h (hnl _),by simp,fun t=>?_⟩;exact .inr (.inr ((he t).mono hst.le))
 obtain⟨p2,q2,e2,H2,hI2,hs2⟩:=Q00 hF _ _ _ _ hI;refine wp_region_any Qaj ?_;refine Qbei hF hQ (fun v a' w' H' g' k1 k2 k3 k4=>hP v a' w' ⟨[],H',g',k1,k2,fun t=>.unk _,k3,k4⟩) ops.size _ a _ p2 q2 e2 H2 g hI2 hs2 ?_;exact Jbg List.countP_le_length (by simp[F])
end Go.AE
