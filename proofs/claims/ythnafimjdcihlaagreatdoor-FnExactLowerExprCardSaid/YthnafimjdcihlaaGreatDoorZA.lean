/- Part 1 of the proof: the engine, codes, walks and plain laws, each named where it stands. -/
import Derived.Laws.BytesArg
import Derived.Laws.RangeAny
import Derived.MapKept
import Derived.WalkKit
open Nat (reduceEqDiff reduceAdd reduceLeDiff reduceLT)
set_option linter.unusedVariables false
set_option linter.unusedSimpArgs false
set_option maxRecDepth 4000
open Array renaming getElem?_eq_getElem->Jd,getD_eq_getD_getElem?->Jh,getElem?_eq_none->Jk,getElem?_toList->Jt,getElem?_setIfInBounds_ne->Jw,getElem?_push->J6,getElem?_modify->J7,ext'->Jac,getElem?_of_mem->Jah,getElem?_range->Jaj,getElem?_append_left->Jak,append_assoc->Jal,getElem?_map->Jam,size_eq_zero_iff->Jat,mem_of_getElem?->Jau,toList_zipIdx->Ja2,foldl_toList->Ja4,getElem_mem->Ja7,mem_push->Jbg
open Bool renaming and_eq_true->Ja,false_eq_true->Jq,eq_iff_iff->Jbe
open ByteArray renaming ext->Ja5
open ByteArray.mk renaming injEq->Jbj
open Function renaming comp_def->Ja8
open Int renaming toNat_natCast->Jao,natCast_nonneg->Ja6
open List renaming getElem?_eq_getElem->Jc,getElem?_eq_none->Je,mem_of_getElem?->Jg,getElem?_append_left->Jj,getElem?_append_right->Jl,getElem?_map->Jo,getElem?_take->Jp,getElem?_drop->Jr,getD_eq_getElem?_getD->Jx,length_eq_zero_iff->Jy,append_assoc->J0,getElem?_of_mem->J4,extract_eq_take_drop->J8,getElem?_eq_some_iff->J9,all_eq_true->Jaa,getElem?_range->Jab,length_append->Jad,length_cons->Jai,getElem?_zip_eq_some->Jan,getElem?_set->Jap,eraseIdx_cons_succ->Jaq,getElem?_replicate->Jar,append_nil->Jav,getElem?_toArray->Jaw,length_nil->Jax,nodup_cons->Jay,length_eraseIdx->Ja0,drop_take->Ja1,ext_getElem?->Ja9,length_range->Jba,map_map->Jbc,mem_range->Jbh,mem_map->Jbi
open Nat renaming lt_or_ge->Jf,add_mul->Jm,mul_le_mul_right->Jn,le_refl->Ju,add_zero->J1,zero_add->J3,eq_zero_or_pos->Jae,one_mul->Jag,add_assoc->Jas,mul_comm->Jaz,mul_le_mul_left->Ja3,mod_lt->Jbb,mod_eq_of_lt->Jbd,mul_add_mod->Jbf
open Option renaming map_some->Js,getD_some->Jv,getD_none->Jz,isSome_iff_exists->J2,map_none->J5,isSome_none->Jaf
open Option.some renaming injEq->Jb
open Prod.mk renaming injEq->Ji
namespace Go.AE
def LIM:Nat:=549755813888
inductive C where
 |int (k:IntKind) (n:Int)
 |bool (b:Bool)
 |str (s:List UInt8)
 |sl (full:Bool) (sz:Nat) (rows:List (List C))
 |pp (cells:List C)
 |ep (s:C) (sz i k:Nat)
 |pnil
 |ptr (l k:Nat)
 |aG (l sz st n:Nat)
 |mp (l:Nat)
 |mnil
 |slb (n:Nat)
 |stb (n:Nat)
 |cm (agg:Bool) (ks:List C) (rows:List (List C))
 |fn (f:Nat) (caps:List C)
 |fnil
 |itr (l:Nat)
 |ow (sz:Nat) (rows:List (List C))
 |unk
 deriving Inhabited
inductive V where
 |c (x:C)
 |ag (cs:List C)
 |tup (vs:List V)
 |gd (p:Bool) (v:V)
 |unk
 |pn (v:Value)
 |asl (l k n:Nat)
 deriving Inhabited
inductive Obj where
 |none
 |st (cells:List C)
 |vec (sz:Nat) (rows:List (List C))
 |map (ver:Nat) (es:List (C×V))
 |iter (m:Option (Nat×Nat)) (left:List (C×V)) (cur:Option (C×V))
 |gl (b:Nat) (cells:List C)
 |sit (s:List UInt8) (q:Nat)
abbrev Heap:=Nat→Obj
def Heap.set (H:Heap)(l:Nat)(o:Obj):Heap:=fun x=>if x=l then o else H x
theorem Heap.ay (H:Heap)(l:Nat)(o:Obj):H.set l o l=o:=by simp[Heap.set]
theorem Heap.af (H:Heap){l x:Nat}(o:Obj)(h:x≠l):H.set l o x=H x:=by simp[Heap.set,h]
theorem Heap.set_set (H:Heap)(l:Nat)(o o':Obj):(H.set l o).set l o'=H.set l o':=by
 funext x;simp only[Heap.set];split <;> rfl
theorem Heap.set_self (H:Heap)(l:Nat)(o:Obj)(h:H l=o):H.set l o=H:=by
 funext x;simp only[Heap.set];split
 ·subst_vars;rfl
 ·rfl
structure G where
 per:Nat→Bool
 own:Nat→Option (Nat×List Nat)
 io:Nat→Option (Nat×Nat×Nat)
def C.aQ:C→Nat
 |.sl _ sz _=>sz
 |.aG _ sz _ _=>sz
 |_=>0
inductive RepC (w:World)(g:G):C→Value→Prop
 |int (k n):RepC w g (.int k n) (.int k n)
 |bool (b):RepC w g (.bool b) (.bool b)
 |str (s:List UInt8) (h:s.length≤LIM):RepC w g (.str s) (.string ⟨s.toArray⟩)
 |bk (fl sz a):RepC w g (.sl fl sz []) (.slice a 0 0)
 |sl (fl:Bool) (sz:Nat) (rows:List (List C)) (b off cap:Nat) (val:Nat→Nat→Value) (hl:rows.length≤LIM) (hf:fl=true→cap=rows.length) (ci:rows.length≤cap)
   (hp:g.per b=true) (hr:∀(i:Nat) (row:List C),rows[i]? = some row→row.length=sz)
   (hc:∀(i:Nat) (row:List C) (j:Nat) (c:C),rows[i]? = some row→row[j]? = some c→w.cell? ⟨b,off+i * sz+j,none⟩=some (val i j))
   (hv:∀(i:Nat) (row:List C) (j:Nat) (c:C),rows[i]? = some row→row[j]? = some c→RepC w g c (val i j)) :
   RepC w g (.sl fl sz rows) (.slice (some ⟨b,off,none⟩) rows.length cap)
 |pp (cells:List C) (b off:Nat) (val:Nat→Value) (hp:g.per b=true)
   (hc:∀(j:Nat) (c:C),cells[j]? = some c→w.cell? ⟨b,off+j,none⟩=some (val j))
   (hv:∀(j:Nat) (c:C),cells[j]? = some c→RepC w g c (val j)) :
   RepC w g (.pp cells) (.pointer (some ⟨b,off,none⟩))
 |ep (s sz i k b off n cap) (hs:RepC w g s (.slice (some ⟨b,off,none⟩) n cap)) (hz:s.aQ=sz) (hi:i<n) :
   RepC w g (.ep s sz i k) (.pointer (some ⟨b,off+i * sz+k,none⟩))
 |pnil:RepC w g .pnil (.pointer none)
 |ptr (l k b sz base) (h:g.io l=some (b,sz,base)):RepC w g (.ptr l k) (.pointer (some ⟨b,base+k,none⟩))
 |bf (l sz st a):RepC w g (.aG l sz st 0) (.slice a 0 0)
 |aG (l sz st n cap b base T m) (h:g.io l=some (b,sz,base)) (hn:n≤cap) (hs:w.shape? b=some (T,m))
   (hm:base+(st+cap) * sz≤m) :
   RepC w g (.aG l sz st n) (.slice (some ⟨b,base+st * sz,none⟩) n cap)
 |mp (l b) (h:g.io l=some (b,0,0)):RepC w g (.mp l) (.map (some b))
 |mnil:RepC w g .mnil (.map none)
 |slb (n a cap) (h:n<2 ^ 63):RepC w g (.slb n) (.slice a n cap)
 |stb (s:ByteArray) (h:s.size<2 ^ 63):RepC w g (.stb s.size) (.string s)
 |cm (agg:Bool) (ks:List C) (rows:List (List C)) (b:Nat) (ms:Array MapEntry) (clock:Nat) (val:Nat→Nat→Value) (hp:g.per b=true) (hb:w.heap[b]? = some (.map ms clock))
   (be:ms.size=ks.length) (bZ:rows.length=ks.length) (hl:ks.length≤LIM)
   (hd:∀(i j:Nat) (m m':MapEntry),ms[i]? = some m→ms[j]? = some m'→(m.born=m'.born∨m.key=m'.key)→i=j)
   (hm:∀(i:Nat) (row:List C) (m:MapEntry),rows[i]? = some row→ms[i]? = some m→m.val=(if agg then .agg ((List.range row.length).map (val i)).toArray else val i 0)∧(agg=false→row.length=1))
   (hk:∀(i:Nat) (k:C) (m:MapEntry),ks[i]? = some k→ms[i]? = some m→RepC w g k m.key)
   (hv:∀(i:Nat) (row:List C) (j:Nat) (c:C),rows[i]? = some row→row[j]? = some c→RepC w g c (val i j)) :
   RepC w g (.cm agg ks rows) (.map (some b))
 |fn (f:Nat) (caps:List C) (vs:List Value) (hl:vs.length=caps.length)
   (hv:∀(j:Nat) (c:C) (u:Value),caps[j]? = some c→vs[j]? = some u→RepC w g c u) :
   RepC w g (.fn f caps) (.func (.func f) #[] vs.toArray)
 |fnil:RepC w g .fnil .nilFunc
 |itr (l b) (h:g.io l=some (b,0,0)):RepC w g (.itr l) (.pointer (some ⟨b,0,none⟩))
 |unk (v) (h:v.oneCell'=true):RepC w g .unk v
inductive RepV (w:World)(g:G):V→Value→Prop
 |c (x v) (h:RepC w g x v):RepV w g (.c x) v
 |ag (cs:List C) (vs:List Value) (hl:vs.length=cs.length) (h:∀(j:Nat) (c:C) (u:Value),cs[j]? = some c→vs[j]? = some u→RepC w g c u) :
   RepV w g (.ag cs) (.agg vs.toArray)
 |tup (xs:List V) (vs:List Value) (hl:vs.length=xs.length) (h:∀(j:Nat) (x:V) (u:Value),xs[j]? = some x→vs[j]? = some u→RepV w g x u) :
   RepV w g (.tup xs) (.tuple vs.toArray)
 |gd (p:Bool) (x v) (h:p=true→RepV w g x v) (h':p=false→v=undef):RepV w g (.gd p x) v
 |unk (v):RepV w g .unk v
 |asl (l k n b sz) (h:g.io l=some (b,sz,0)):RepV w g (.asl l k n) (.slice (some ⟨b,k,none⟩) n n)
inductive RepO (w:World)(g:G):Nat→List Nat→C→Value→Prop
 |plain (l p c v) (h:RepC w g c v):RepO w g l p c v
 |ownil (l p sz a):RepO w g l p (.ow sz []) (.slice a 0 0)
 |ow (l:Nat) (p:List Nat) (sz:Nat) (rows:List (List C)) (b off cap:Nat) (T:TypeId) (cs:Array Value) (val:Nat→Nat→Value) (hl:rows.length≤LIM) (ci:rows.length≤cap)
   (j8:g.own b=some (l,p)) (hb:w.heap[b]? = some (.cells cs T (0,0))) (be:off+cap * sz≤cs.size)
   (hr:∀(i:Nat) (row:List C),rows[i]? = some row→row.length=sz)
   (hc:∀(i:Nat) (row:List C) (j:Nat) (c:C),rows[i]? = some row→row[j]? = some c→cs[off+i * sz+j]? = some (val i j))
   (hv:∀(i:Nat) (row:List C) (j:Nat) (c:C),rows[i]? = some row→row[j]? = some c→RepO w g l (p++[i,j]) c (val i j)) :
   RepO w g l p (.ow sz rows) (.slice (some ⟨b,off,none⟩) rows.length cap)
structure Le (g:G)(w:World)(g':G)(w':World):Prop where
 per:∀b,g.per b=true→g'.per b=true∧w'.heap[b]? = w.heap[b]?
 io:∀l x,g.io l=some x→g'.io l=some x
 size:w.heap.size≤w'.heap.size
 shp:∀b T n,w.shape? b=some (T,n)→w'.shape? b=some (T,n)
 tape:w'.tape=w.tape
 os:w'.os=w.os
 output:w'.output=w.output
theorem Le.refl (g:G)(w:World):Le g w g w:=⟨fun _ h=>⟨h,rfl⟩,fun _ _ h=>h,Ju _,fun _ _ _ h=>h,rfl,rfl,rfl⟩
theorem Le.trans {g g' g'':G}{w w' w'':World}(h:Le g w g' w')(k:Le g' w' g'' w''):Le g w g'' w'':=
 ⟨fun b hb=>⟨(k.per b (h.per b hb).1).1,((k.per b (h.per b hb).1).2).trans (h.per b hb).2⟩,fun l x hx=>k.io l x (h.io l x hx),
  Nat.le_trans h.size k.size,fun b T n hn=>k.shp b T n (h.shp b T n hn),k.tape.trans h.tape,k.os.trans h.os,k.output.trans h.output⟩
theorem PW {w w':World}{a:Addr}(h:w'.heap[a.block]? = w.heap[a.block]?):w'.cell? a=w.cell? a:=by
 simp only[World.cell?,h]
theorem RepC.mono {g g':G}{w w':World}(a9:Le g w g' w'){c:C}{v:Value}(h:RepC w g c v):RepC w' g' c v:=by
 induction h with
 |int k n=>exact .int k n
 |bool b=>exact .bool b
 |str s h=>exact .str s h
 |bk fl sz a=>exact .bk fl sz a
 |sl fl sz rows b off cap val hl hf ci hp hr hc hv ih=>
  refine .sl fl sz rows b off cap val hl hf ci (a9.per b hp).1 hr (fun i row j c h1 h2=>?_) ih;rw[PW (w:=w) (a9.per b hp).2];exact hc i row j c h1 h2
 |pp cells b off val hp hc hv ih=>
  refine .pp cells b off val (a9.per b hp).1 (fun j c h1=>?_) ih;rw[PW (w:=w) (a9.per b hp).2];exact hc j c h1
 |ep s sz i k b off n cap hs hz hi ih=>exact .ep s sz i k b off n cap ih hz hi
 |pnil=>exact .pnil
 |ptr l k b sz base h=>exact .ptr l k b sz base (a9.io _ _ h)
 |bf l sz st a=>exact .bf l sz st a
 |aG l sz st n cap b base T m h hn hs hm=>exact .aG l sz st n cap b base T m (a9.io _ _ h) hn (a9.shp _ _ _ hs) hm
 |mp l b h=>exact .mp l b (a9.io _ _ h)
 |mnil=>exact .mnil
 |slb n a cap h=>exact .slb n a cap h
 |stb s h=>exact .stb s h
 |cm agg ks rows b ms clock val hp hb be bZ hl hd hm hk hv ihk ihv=>exact .cm agg ks rows b ms clock val (a9.per b hp).1 ((a9.per b hp).2.trans hb) be bZ hl hd hm ihk ihv
 |fn f caps vs hl hv ih=>exact .fn f caps vs hl ih
 |fnil=>exact .fnil
 |itr l b h=>exact .itr l b (a9.io _ _ h)
 |unk v h=>exact .unk v h
theorem RepV.mono {g g':G}{w w':World}(a9:Le g w g' w'){x:V}{v:Value}(h:RepV w g x v):RepV w' g' x v:=by
 induction h with
 |c x v h=>exact .c x v (h.mono a9)
 |ag cs vs hl h=>exact .ag cs vs hl fun j c u h1 h2=>(h j c u h1 h2).mono a9
 |tup xs vs hl h ih=>exact .tup xs vs hl ih
 |gd p x v h h' ih=>exact .gd p x v ih h'
 |asl l k n b sz h=>exact .asl l k n b sz (a9.io _ _ h)
 |unk v=>exact .unk v
theorem RepC.one {w:World}{g:G}{c:C}{v:Value}(h:RepC w g c v):v.oneCell'=true:=by
 cases h <;> first|rfl|assumption
theorem RepO.move {g g':G}{w w':World}(a9:Le g w g' w'){l:Nat}{p:List Nat}{c:C}{v:Value}(h:RepO w g l p c v) :
  ∀{l':Nat} {p':List Nat},(∀q b,g.own b=some (l,p++q)→g'.own b=some (l',p'++q)∧w'.heap[b]? = w.heap[b]?)→
  RepO w' g' l' p' c v:=by
 induction h with
 |plain p c v h=>exact fun _=>.plain _ _ c v (h.mono a9)
 |ownil p sz a=>exact fun _=>.ownil _ _ sz a
 |ow p sz rows b off cap T cs val hl ci j8 hb be hr hc hv ih=>
  intro l' p' hk;have h0:=hk [] b (by simpa using j8);refine .ow l' p' sz rows b off cap T cs val hl ci (by simpa using h0.1) (h0.2.trans hb) be hr hc fun i row j c h1 h2=>?_;refine ih i row j c h1 h2 fun q b hq=>?_;have:=hk ([i,j]++q) b (by rw[←J0];exact hq);rw[J0];exact this
theorem RepO.plain_of {w:World}{g:G}{l:Nat}{p:List Nat}{c:C}{v:Value}(h:RepO w g l p c v)(hn:∀sz rows,c≠.ow sz rows):RepC w g c v:=by
 cases h with
 |plain _ _ _ h=>exact h
 |ownil=>exact absurd rfl (hn _ _)
 |ow=>exact absurd rfl (hn _ _)
def RepE (w:World)(g:G)(e:C×V)(m:MapEntry):Prop:=RepC w g e.1 m.key∧RepV w g e.2 m.val
def SatVec (g:G)(w:World)(l sz:Nat)(rows:List (List C)):Prop:=
 ∃(b base:Nat) (T:TypeId) (cs:Array Value) (val:Nat→Nat→Value),g.io l=some (b,sz,base)∧g.own b=some (l,[])∧
   w.heap[b]? = some (.cells cs T (0,0))∧base+rows.length * sz≤cs.size∧rows.length≤LIM∧
   (∀(i:Nat) (row:List C),rows[i]? = some row→row.length=sz)∧
   (∀(i:Nat) (row:List C) (j:Nat) (c:C),rows[i]? = some row→row[j]? = some c→cs[base+i * sz+j]? = some (val i j))∧
   ∀(i:Nat) (row:List C) (j:Nat) (c:C),rows[i]? = some row→row[j]? = some c→RepO w g l [i,j] c (val i j)
theorem SatVec.of {g:G}{w:World}{l sz:Nat}{rows:List (List C)}{b base:Nat}(h:(rows=[]∧∃x,g.io l=some x∧x.2.1≠sz)∨SatVec g w l sz rows)(bd:g.io l=some (b,sz,base)):SatVec g w l sz rows:=by
 rcases h with ⟨_,x,h1,h2⟩|h
 ·rw[bd]at h1;simp at h1;subst h1;exact absurd rfl h2
 ·exact h
def SatObj (H:Heap)(g:G)(w:World)(l:Nat):Obj→Prop
 |.none=>True
 |.st cells=>∃(b sz:Nat) (T:TypeId) (cs:Array Value),g.io l=some (b,sz,0)∧g.own b=some (l,[])∧w.heap[b]? = some (.cells cs T (0,0))∧
   cs.size=cells.length∧∀(k:Nat) (c:C) (v:Value),cells[k]? = some c→cs[k]? = some v→RepO w g l [k] c v
 |.vec sz rows=>(rows=[]∧∃x,g.io l=some x∧x.2.1≠sz)∨SatVec g w l sz rows
 |.map _ es=>∃(b:Nat) (ms:Array MapEntry) (clock:Nat),g.io l=some (b,0,0)∧g.own b=some (l,[])∧w.heap[b]? = some (.map ms clock)∧
   ms.size=es.length∧es.length≤LIM∧(∀(i:Nat) (e:C×V) (m:MapEntry),es[i]? = some e→ms[i]? = some m→RepE w g e m)∧
   (∀(i:Nat) (m:MapEntry),ms[i]? = some m→m.born<clock)∧(∀(i j:Nat) (m m':MapEntry),ms[i]? = some m→ms[j]? = some m'→(m.born=m'.born∨m.key=m'.key)→i=j)
 |.iter none left cur=>∃(b since:Nat) (seen:Array Nat) (last:Nat),g.io l=some (b,0,0)∧g.own b=some (l,[])∧
   w.heap[b]? = some (.mapIter none since seen last)∧left=[]
 |.iter (some (m,ver)) left cur=>∃(b mb since:Nat) (seen:Array Nat),g.io l=some (b,0,0)∧g.own b=some (l,[])∧
   w.heap[b]? = some (.mapIter (some mb) since seen since)∧g.io m=some (mb,0,0)∧
   ∀v es,H m=.map v es→ver≤v∧(v=ver→∃(ms:Array MapEntry),w.heap[mb]? = some (.map ms since)∧ms.size=es.length∧
    es.Nodup∧left.Nodup∧(∀e,e∈left↔∃i:Nat,∃m:MapEntry,es[i]? = some e∧ms[i]? = some m∧m.born∉seen)∧
    (∀e,cur=some e→∃i:Nat,∃m:MapEntry,es[i]? = some e∧ms[i]? = some m∧seen.back? = some m.born))
 |.sit s q=>∃b:Nat,g.io l=some (b,0,0)∧g.own b=some (l,[])∧w.heap[b]? = some (.stringIter ⟨s.toArray⟩ q)∧s.length≤LIM
 |.gl b cells=>∃(sz:Nat) (val:Nat→Value),g.io l=some (b,sz,0)∧g.per b=true∧(∀(j:Nat) (c:C),cells[j]? = some c→w.cell? ⟨b,j,none⟩=some (val j))∧
   ∀(j:Nat) (c:C),cells[j]? = some c→RepC w g c (val j)
structure Sat (H:Heap)(g:G)(w:World):Prop where
 fresh:∀b,w.heap.size≤b→g.per b=false∧g.own b=none
 names:∃N,∀l,N≤l→g.io l=none
 excl:∀b x,g.own b=some x→g.per b=false
 named:∀b l p,g.own b=some (l,p)→g.io l≠none
 objs:∀l,SatObj H g w l (H l)
def Fr (H:Heap)(g:G)(w:World)(H':Heap)(g':G)(w':World):Prop:=
 ∀l,g.io l≠none→H l=.none→H' l=.none∧∀b p,g.own b=some (l,p)→g'.own b=some (l,p)∧w'.heap[b]? = w.heap[b]?
theorem Fr.refl (H:Heap)(g:G)(w:World):Fr H g w H g w:=fun _ _ h=>⟨h,fun _ _ h=>⟨h,rfl⟩⟩
theorem Fr.trans {H H' H'':Heap}{g g' g'':G}{w w' w'':World}(a9:Le g w g' w')(h:Fr H g w H' g' w')(k:Fr H' g' w' H'' g'' w''):Fr H g w H'' g'' w'':=by
 intro l hl hn;obtain⟨h1,h2⟩:=h l hl hn;have cB:g'.io l≠none:=by
  cases hx:g.io l with
  |none=>exact absurd hx hl
  |some x=>rw[a9.io l x hx];simp
 obtain⟨k1,k2⟩:=k l cB h1;refine⟨k1,fun b p hb=>?_⟩;obtain⟨a1,a2⟩:=h2 b p hb;obtain⟨b1,b2⟩:=k2 b p a1;exact⟨b1,b2.trans a2⟩
structure Stp (H:Heap)(g:G)(w:World)(H':Heap)(g':G)(w':World):Prop where
 le:Le g w g' w'
 fr:Fr H g w H' g' w'
 sat:Sat H' g' w'
theorem Stp.refl {H:Heap}{g:G}{w:World}(h:Sat H g w):Stp H g w H g w:=⟨.refl _ _,.refl _ _ _,h⟩
theorem Stp.trans {H H' H'':Heap}{g g' g'':G}{w w' w'':World}(h:Stp H g w H' g' w')(k:Stp H' g' w' H'' g'' w''):Stp H g w H'' g'' w'':=
 ⟨h.le.trans k.le,h.fr.trans h.le k.fr,k.sat⟩
theorem Sat.io_some {H:Heap}{g:G}{w:World}(h:Sat H g w){l:Nat}(hl:H l≠.none):g.io l≠none:=by
 have:=h.objs l
 cases ho:H l with
 |none=>exact absurd ho hl
 |st cells=>rw[ho]at this;obtain⟨b,sz,T,cs,h1,_⟩:=this;rw[h1];simp
 |vec sz rows=>
  rw[ho]at this;rcases this with ⟨_,x,h1,_⟩|⟨b,sz,T,cs,v,h1,_⟩
  ·rw[h1];simp
  ·rw[h1];simp
 |map v es=>rw[ho]at this;obtain⟨b,ms,clock,h1,_⟩:=this;rw[h1];simp
 |gl b cells=>rw[ho]at this;obtain⟨sz,val,h1,_⟩:=this;rw[h1];simp
 |sit s q=>rw[ho]at this;obtain⟨b,h1,_⟩:=this;rw[h1];simp
 |iter m left cur=>
  rw[ho]at this
  cases m with
  |none=>obtain⟨b,s,se,la,h1,_⟩:=this;rw[h1];simp
  |some m=>obtain⟨m,v⟩:=m;obtain⟨b,mb,s,se,h1,_⟩:=this;rw[h1];simp
theorem Sat.none_of_io {H:Heap}{g:G}{w:World}(h:Sat H g w){l:Nat}(hl:g.io l=none):H l=.none:=by
 cases ho:H l with
 |none=>rfl
 |_=>exact absurd hl (h.io_some (by rw[ho];simp))
abbrev Env:=List (Nat×V)
def lk (t:Nat):Env→V
 |[]=>.unk
 |(s,v)::e=>if t=s then v else lk t e
inductive Opd where
 |t (n:Nat)
 |k (v:V)
 deriving Inhabited
def V.bare:V→V
 |.gd _ v=>v
 |v=>v
def V.fine (p:Bool):V→Prop
 |.gd q _=>p=true→q=true
 |_=>True
def Opd.raw (e:Env):Opd→V
 |.t n=>lk n e
 |.k v=>v
def Opd.v (e:Env)(o:Opd):V:=(o.raw e).bare
def Opd.fine (p:Bool)(e:Env)(o:Opd):Prop:=(o.raw e).fine p
def C.ah:C→Bool
 |.ow _ _=>true
 |_=>false
def rowsOf (H:Heap):C→List (List C)
 |.sl _ _ rows=>rows
 |.aG l _ st n=>match H l with
  |.vec _ rows=>(rows.drop st).take n
  |_=>[]
 |_=>[]
def bt (H:Heap):C→Prop
 |.sl _ _ _=>True
 |.aG l sz st n=>match H l with
  |.vec z rows=>z=sz∧st+n≤rows.length
  |_=>False
 |_=>False
def ax:C→Nat
 |.sl _ _ rows=>rows.length
 |.aG _ _ _ n=>n
 |_=>0
def lenX:C→Nat
 |.slb n=>n
 |c=>ax c
def FA:C→Prop
 |.slb _=>True
 |_=>False
def inR (k:IntKind)(n:Int):Prop:=k.min≤n∧n≤k.max
def FF (op:BinOp)(k:IntKind)(a b:Int):Int:=
 match op with
 |.and=>k.wrap (BitVec.ofInt k.bits a&&& BitVec.ofInt k.bits b).toNat
 |.or=>k.wrap (BitVec.ofInt k.bits a ||| BitVec.ofInt k.bits b).toNat
 |_=>k.wrap (BitVec.ofInt k.bits a ^^^ BitVec.ofInt k.bits b).toNat
def C.isPtr:C→Bool
 |.pp _|.ep _ _ _ _|.ptr _ _=>true
 |_=>false
def binC:BinOp→C→C→C
 |.add,.int k a,.int _ b=>.int k (a+b)
 |.sub,.int k a,.int _ b=>.int k (a-b)
 |.mul,.int k a,.int _ b=>.int k (a * b)
 |.quo,.int k a,.int _ b=>.int k (a.tdiv b)
 |.rem,.int k a,.int _ b=>.int k (a.tmod b)
 |.and,.int k a,.int _ b=>.int k (FF .and k a b)
 |.or,.int k a,.int _ b=>.int k (FF .or k a b)
 |.xor,.int k a,.int _ b=>.int k (FF .xor k a b)
 |.eql,.int _ a,.int _ b=>.bool (decide (a=b))
 |.neq,.int _ a,.int _ b=>.bool (!decide (a=b))
 |.lss,.int _ a,.int _ b=>.bool (decide (a<b))
 |.leq,.int _ a,.int _ b=>.bool (decide (a≤b))
 |.gtr,.int _ a,.int _ b=>.bool (decide (b<a))
 |.geq,.int _ a,.int _ b=>.bool (decide (b≤a))
 |.eql,.bool a,.bool b=>.bool (a == b)
 |.neq,.bool a,.bool b=>.bool (!(a == b))
 |.add,.str a,.str b=>.str (a++b)
 |.eql,.str a,.str b=>.bool (decide (a=b))
 |.neq,.str a,.str b=>.bool (!decide (a=b))
 |.eql,x,.pnil=>.bool (!x.isPtr)
 |.neq,x,.pnil=>.bool x.isPtr
 |_,_,_=>.unk
def binO (tag:Nat):BinOp→C→C→Prop
 |.add,.int k a,.int k' b=>k=k'∧inR k (a+b)
 |.sub,.int k a,.int k' b=>k=k'∧inR k (a-b)
 |.mul,.int k a,.int k' b=>k=k'∧inR k (a * b)
 |.quo,.int k a,.int k' b=>k=k'∧b≠0∧inR k (a.tdiv b)
 |.rem,.int k a,.int k' b=>k=k'∧b≠0
 |.and,.int k _,.int k' _=>k=k'
 |.or,.int k _,.int k' _=>k=k'
 |.xor,.int k _,.int k' _=>k=k'
 |.eql,.int k _,.int k' _=>k=k'
 |.neq,.int k _,.int k' _=>k=k'
 |.lss,.int k _,.int k' _=>k=k'
 |.leq,.int k _,.int k' _=>k=k'
 |.gtr,.int k _,.int k' _=>k=k'
 |.geq,.int k _,.int k' _=>k=k'
 |.eql,.bool _,.bool _=>tag=1
 |.neq,.bool _,.bool _=>tag=1
 |.add,.str a,.str b=>a.length+b.length≤LIM
 |.eql,.str _,.str _=>True
 |.neq,.str _,.str _=>True
 |.eql,x,.pnil=>tag=2∧(x.isPtr=true∨x=.pnil)
 |.neq,x,.pnil=>tag=2∧(x.isPtr=true∨x=.pnil)
 |_,_,_=>False
def CA (H:Heap):C→List C
 |.pp cells=>cells
 |.ptr l k=>match H l with
  |.st cells=>cells.drop k
  |_=>[]
 |.ep s _ i k=>((rowsOf H s).getD i []).drop k
 |_=>[]
def CJ (H:Heap):C→Prop
 |.pp _=>True
 |.ptr l _=>match H l with
  |.st _=>True
  |_=>False
 |.ep s sz i _=>bt H s∧i<ax s∧s.aQ=sz
 |_=>False
def ar (cs:List C):Bool:=cs.all fun c=>!c.ah
def Ec (c:Bool):V→V→V
 |.c (.bool a),.c (.bool b)=>.c (.bool (bif c then a else b))
 |x,y=>if c then x else y
def V.cells:V→List C
 |.c x=>[x]
 |.ag cs=>cs
 |_=>[]
def AM:C→C→Bool
 |.int _ a,.int _ b=>decide (a=b)
 |.str a,.str b=>decide (a=b)
 |.bool a,.bool b=>a == b
 |_,_=>false
def Br (tag:Nat)(k:C)(es:List (C×V)):Prop:=
 match tag,k with
 |0,.int .i64 _=>∀e∈es,∃n,e.1=.int .i64 n
 |1,.str _=>∀e∈es,∃s,e.1=.str s
 |2,.bool _=>∀e∈es,∃b,e.1=.bool b
 |_,_=>False
def AI (k:C):List (C×V)→Option V
 |[]=>none
 |e::es=>if AM k e.1 then some e.2 else AI k es
def Cw (agg:Bool)(cs:List C):V:=if agg then .ag cs else .c (cs.headD .unk)
def Q6 (H:Heap):C→List (C×V)
 |.mp l=>match H l with
  |.map _ es=>es
  |_=>[]
 |.cm agg ks rows=>(ks.zip rows).map fun e=>(e.1,Cw agg e.2)
 |_=>[]
def B4 (H:Heap):C→Prop
 |.mp l=>match H l with
  |.map _ _=>True
  |_=>False
 |.mnil=>True
 |.cm _ _ _=>True
 |_=>False
def DA (cells:List C):List (Nat×List C)→List C
 |[]=>cells
 |(o,p)::r=>DA (cells.take o++p++cells.drop (o+p.length)) r
inductive FOp where
 |mv (x:Opd)
 |pick (c a b:Opd)
 |bin (tag:Nat) (op:BinOp) (a b:Opd)
 |not (a:Opd)
 |fad (off:Nat) (a:Opd)
 |iad (sz:Nat) (a i:Opd)
 |ld (n:Nat) (agg:Bool) (a:Opd)
 |nck (a:Opd)
 |len (a:Opd)
 |lenx (a:Opd)
 |lens (a:Opd)
 |lensx (a:Opd)
 |lenm (a:Opd)
 |sli (sz:Nat) (a:Opd) (lo hi:Option Opd)
 |slis (a:Opd) (lo hi:Option Opd)
 |ext (a:Opd) (i:Nat)
 |fld (off n:Nat) (agg:Bool) (a:Opd)
 |idx (a i:Opd)
 |bld (zero:List C) (parts:List (Nat×Nat×Opd))
 |bw (sz:Nat) (parts:List Opd)
 |box (a:Opd)
 |cvt (k:IntKind) (a:Opd)
 |mkf (f:Nat) (caps:List Opd)
 |lup (tag:Nat) (zero:V) (m k:Opd)
 |lup2 (tag:Nat) (zero:V) (m k:Opd)
 |iaa (sz n:Nat) (a i:Opd)
 |asl (n:Nat) (a:Opd)
 |aslp (n:Nat) (a:Opd) (hi:Option Opd)
 |slm (sz:Nat) (a hi:Opd)
 |b2s (a:Opd)
 |ldg (n b l:Nat)
 |ldo (b l:Nat)
 |aslg (n b l:Nat)
 |iax (sz n:Nat) (a i:Opd)
 |mx (a b:Opd)
 |mn (a b:Opd)
def Q2:V→Int
 |.c (.int _ n)=>n
 |_=>0
def BJ:V→Prop
 |.c (.int k _)=>k=.i64
 |_=>False
def fadC (off:Nat):C→C
 |.pp cells=>.pp (cells.drop off)
 |.ptr l k=>.ptr l (k+off)
 |.ep s sz i k=>.ep s sz i (k+off)
 |_=>.unk
def V.c1:V→C
 |.c x=>x
 |_=>.unk
def V.isC:V→Prop
 |.c _=>True
 |_=>False
def V.isAg:V→Prop
 |.ag _=>True
 |_=>False
def sliC (lo hi:Option Int):C→C
 |.sl fl sz rows=>.sl (fl&&(hi.isNone || rows.isEmpty)) sz ((rows.take (hi.getD rows.length).toNat).drop (lo.getD 0).toNat)
 |.aG l sz st n=>.aG l sz (st+(lo.getD 0).toNat) ((hi.getD n).toNat-(lo.getD 0).toNat)
 |_=>.unk
def Eg:List C→Bool
 |[.int .u8 _]=>true
 |_=>false
def Dt:List C→UInt8
 |.int _ n::_=>UInt8.ofNat n.toNat
 |_=>0
def FOp.val (e:Env)(H:Heap):FOp→V
 |.mv x=>x.v e
 |.pick c a b=>match c.v e with
  |.c (.bool t)=>Ec t (a.v e) (b.v e)
  |_=>.unk
 |.bin _ op a b=>.c (binC op (a.v e).c1 (b.v e).c1)
 |.not a=>match a.v e with
  |.c (.bool t)=>.c (.bool (!t))
  |_=>.unk
 |.fad off a=>.c (fadC off (a.v e).c1)
 |.iad sz a i=>.c (.ep (a.v e).c1 sz (Q2 (i.v e)).toNat 0)
 |.ld n agg a=>Cw agg ((CA H (a.v e).c1).take n)
 |.nck a=>a.v e
 |.len a=>.c (.int .i64 (ax (a.v e).c1))
 |.lenx a=>.c (.int .i64 (lenX (a.v e).c1))
 |.lens a=>match a.v e with
  |.c (.str s)=>.c (.int .i64 s.length)
  |_=>.unk
 |.lensx a=>match a.v e with
  |.c (.str s)=>.c (.int .i64 s.length)
  |.c (.stb n)=>.c (.int .i64 n)
  |_=>.unk
 |.lenm a=>.c (.int .i64 (Q6 H (a.v e).c1).length)
 |.sli _ a lo hi=>.c (sliC (lo.map fun x=>Q2 (x.v e)) (hi.map fun x=>Q2 (x.v e)) (a.v e).c1)
 |.slis a lo hi=>match a.v e with
  |.c (.str s)=>.c (.str ((s.take ((hi.map fun x=>Q2 (x.v e)).getD s.length).toNat).drop ((lo.map fun x=>Q2 (x.v e)).getD 0).toNat))
  |_=>.unk
 |.ext a i=>match a.v e with
  |.tup vs=>vs.getD i .unk
  |_=>.unk
 |.fld off n agg a=>Cw agg (((a.v e).cells.drop off).take n)
 |.idx a i=>match a.v e with
  |.c (.str s)=>.c (.int .u8 ((s.getD (Q2 (i.v e)).toNat 0).toNat))
  |_=>.unk
 |.bld zero parts=>.ag (DA zero (parts.map fun p=>(p.1,(p.2.2.v e).cells)))
 |.bw sz parts=>.c (.sl true sz (parts.map fun x=>(x.v e).cells))
 |.box a=>.c (.pp (a.v e).cells)
 |.cvt k a=>.c (.int k (Q2 (a.v e)))
 |.mkf f caps=>.c (.fn f (caps.map fun x=>(x.v e).c1))
 |.lup _ zero m k=>(AI (k.v e).c1 (Q6 H (m.v e).c1)).getD zero
 |.lup2 _ zero m k=>.tup [(AI (k.v e).c1 (Q6 H (m.v e).c1)).getD zero,.c (.bool (AI (k.v e).c1 (Q6 H (m.v e).c1)).isSome)]
 |.iaa sz _ a i=>match a.v e with
  |.c (.ptr l k)=>.c (.ptr l (k+(Q2 (i.v e)).toNat * sz))
  |_=>.unk
 |.asl n a=>match a.v e with
  |.c (.ptr l k)=>.asl l k n
  |_=>.unk
 |.aslp n a hi=>match a.v e with
  |.c (.pp cells)=>.c (.sl hi.isNone 1 ((cells.take ((hi.map fun x=>Q2 (x.v e)).getD n).toNat).map fun c=>[c]))
  |_=>.unk
 |.slm _ a hi=>match a.v e with
  |.c (.sl _ sz rows)=>.c (.sl true sz (rows.take (Q2 (hi.v e)).toNat))
  |_=>.unk
 |.b2s a=>match a.v e with
  |.c (.sl _ _ rows)=>.c (.str (rows.map Dt))
  |_=>.unk
 |.ldg n _ l=>match H l with
  |.gl _ cells=>.ag (cells.take n)
  |_=>.unk
 |.ldo _ l=>match H l with
  |.gl _ cells=>.c (cells.headD .unk)
  |_=>.unk
 |.aslg n _ l=>match H l with
  |.gl _ cells=>.c (.sl true 1 ((cells.take n).map fun c=>[c]))
  |_=>.unk
 |.iax sz _ a i=>.ag (((a.v e).cells.drop ((Q2 (i.v e)).toNat * sz)).take sz)
 |.mx a b=>.c (.int .i64 (if Q2 (b.v e) > Q2 (a.v e)then Q2 (b.v e)else Q2 (a.v e)))
 |.mn a b=>.c (.int .i64 (if Q2 (b.v e)<Q2 (a.v e)then Q2 (b.v e)else Q2 (a.v e)))
def Ee:V→Prop
 |.c (.int _ _)=>True
 |_=>False
def optI (x:Option Opd)(e:Env):Prop:=
 match x with
 |none=>True
 |some o=>BJ (o.v e)
def optF (p:Bool)(x:Option Opd)(e:Env):Prop:=
 match x with
 |none=>True
 |some o=>o.fine p e
def bnds (lo hi:Option Int)(n:Nat):Prop:=
 0≤lo.getD 0∧lo.getD 0≤hi.getD n∧hi.getD n≤n
def FOp.obl (p:Bool)(e:Env)(H:Heap):FOp→Prop
 |.mv x=>x.fine p e
 |.pick c a b=>c.fine p e∧match c.v e with
  |.c (.bool t)=>a.fine (p&&t) e∧b.fine (p&&!t) e
  |_=>False
 |.bin tag op a b=>a.fine p e∧b.fine p e∧(a.v e).isC∧(b.v e).isC∧binO tag op (a.v e).c1 (b.v e).c1
 |.not a=>a.fine p e∧match a.v e with
  |.c (.bool _)=>True
  |_=>False
 |.fad _ a=>a.fine p e∧match a.v e with
  |.c (.pp _)=>True
  |.c (.ptr _ _)=>True
  |.c (.ep _ _ _ _)=>True
  |_=>False
 |.iad sz a i=>a.fine p e∧i.fine p e∧(a.v e).isC∧bt H (a.v e).c1∧(a.v e).c1.aQ=sz∧BJ (i.v e)∧
   0≤Q2 (i.v e)∧(Q2 (i.v e)).toNat<ax (a.v e).c1
 |.ld n _ a=>a.fine p e∧(a.v e).isC∧CJ H (a.v e).c1∧n≤(CA H (a.v e).c1).length∧ar ((CA H (a.v e).c1).take n)=true
 |.nck a=>a.fine p e∧match a.v e with
  |.c (.pp _)=>True
  |.c (.ptr _ _)=>True
  |.c (.ep _ _ _ _)=>True
  |.c (.fn _ _)=>True
  |_=>False
 |.len a=>a.fine p e∧(a.v e).isC∧bt H (a.v e).c1
 |.lenx a=>a.fine p e∧(a.v e).isC∧(bt H (a.v e).c1∨FA (a.v e).c1)
 |.lens a=>a.fine p e∧match a.v e with
  |.c (.str _)=>True
  |_=>False
 |.lensx a=>a.fine p e∧match a.v e with
  |.c (.str _)=>True
  |.c (.stb _)=>True
  |_=>False
 |.lenm a=>a.fine p e∧(a.v e).isC∧B4 H (a.v e).c1
 |.sli sz a lo hi=>a.fine p e∧optF p lo e∧optF p hi e∧optI lo e∧optI hi e∧(a.v e).isC∧bt H (a.v e).c1∧(a.v e).c1.aQ=sz∧
   bnds (lo.map fun x=>Q2 (x.v e)) (hi.map fun x=>Q2 (x.v e)) (ax (a.v e).c1)
 |.slis a lo hi=>a.fine p e∧optF p lo e∧optF p hi e∧optI lo e∧optI hi e∧match a.v e with
  |.c (.str s)=>bnds (lo.map fun x=>Q2 (x.v e)) (hi.map fun x=>Q2 (x.v e)) s.length
  |_=>False
 |.ext a i=>a.fine p e∧match a.v e with
  |.tup vs=>i<vs.length
  |_=>False
 |.fld off n agg a=>a.fine p e∧(a.v e).isAg∧off+n≤(a.v e).cells.length
 |.idx a i=>a.fine p e∧i.fine p e∧BJ (i.v e)∧match a.v e with
  |.c (.str s)=>0≤Q2 (i.v e)∧(Q2 (i.v e)).toNat<s.length
  |_=>False
 |.bld zero parts=>∀x∈parts,x.2.2.fine p e∧(x.2.2.v e).cells.length=x.2.1
 |.bw sz parts=>∀x∈parts,x.fine p e∧(x.v e).cells.length=sz
 |.box a=>a.fine p e∧(a.v e).cells≠[]
 |.cvt k a=>a.fine p e∧Ee (a.v e)∧inR k (Q2 (a.v e))
 |.mkf f caps=>∀x∈caps,x.fine p e∧(x.v e).isC
 |.lup tag zero m k=>m.fine p e∧k.fine p e∧(m.v e).isC∧(k.v e).isC∧B4 H (m.v e).c1∧Br tag (k.v e).c1 (Q6 H (m.v e).c1)
 |.lup2 tag zero m k=>m.fine p e∧k.fine p e∧(m.v e).isC∧(k.v e).isC∧B4 H (m.v e).c1∧Br tag (k.v e).c1 (Q6 H (m.v e).c1)
 |.iaa _ n a i=>a.fine p e∧i.fine p e∧BJ (i.v e)∧0≤Q2 (i.v e)∧Q2 (i.v e)<n∧match a.v e with
  |.c (.ptr _ _)=>True
  |_=>False
 |.asl _ a=>a.fine p e∧match a.v e with
  |.c (.ptr l _)=>(match H l with
   |.st _=>True
   |_=>False)
  |_=>False
 |.aslp n a hi=>a.fine p e∧optF p hi e∧optI hi e∧bnds none (hi.map fun x=>Q2 (x.v e)) n∧n≤LIM∧match a.v e with
  |.c (.pp cells)=>n≤cells.length
  |_=>False
 |.slm sz a hi=>a.fine p e∧hi.fine p e∧BJ (hi.v e)∧0≤Q2 (hi.v e)∧match a.v e with
  |.c (.sl _ z rows)=>z=sz∧Q2 (hi.v e)≤rows.length
  |_=>False
 |.b2s a=>a.fine p e∧match a.v e with
  |.c (.sl _ z rows)=>z=1∧rows.all Eg=true
  |_=>False
 |.ldg n b l=>match H l with
  |.gl b' cells=>b'=b∧n≤cells.length
  |_=>False
 |.ldo b l=>match H l with
  |.gl b' cells=>b'=b∧0<cells.length
  |_=>False
 |.aslg n b l=>match H l with
  |.gl b' cells=>b'=b∧n≤cells.length∧n≤LIM
  |_=>False
 |.iax sz n a i=>a.fine p e∧i.fine p e∧BJ (i.v e)∧0≤Q2 (i.v e)∧Q2 (i.v e)<n∧(a.v e).isAg∧n * sz≤(a.v e).cells.length
 |.mx a b=>a.fine p e∧b.fine p e∧BJ (a.v e)∧BJ (b.v e)
 |.mn a b=>a.fine p e∧b.fine p e∧BJ (a.v e)∧BJ (b.v e)
def FOp.fct (e:Env)(H:Heap):FOp→Prop
 |.len a=>ax (a.v e).c1≤LIM
 |.lenx a=>lenX (a.v e).c1<2 ^ 63
 |.lens a=>match a.v e with
  |.c (.str s)=>s.length≤LIM
  |_=>True
 |.lensx a=>match a.v e with
  |.c (.str s)=>s.length≤LIM
  |.c (.stb n)=>n<2 ^ 63
  |_=>True
 |.lenm a=>(Q6 H (a.v e).c1).length≤LIM
 |_=>True
def fnOk (P:Program)(f:FuncId):Bool:=
 match P.funcs[f]? with
 | some fn => fn.body.isSome && fn.name != "runtime.NumGoroutine"
 |none=>false
def Qi (P:Program)(f:FuncId)(args:List V)(H:Heap)(K:V→Heap→Prop):Prop:=
 fnOk P f=true∧∀(g:G) (w:World) (vs:List Value),Sat H g w→vs.length=args.length→
  (∀(j:Nat) (x:V) (u:Value),args[j]? = some x→vs[j]? = some u→RepV w g x u)→
  Calls P f vs.toArray w fun e w'=>(∃v x H' g',e=.returned v∧K x H'∧Stp H g w H' g' w'∧RepV w' g' x v)∨
   (∃v H' g',e=.panicked [{ v:=v,recovered:=false }]∧K (.pn v) H'∧Stp H g w H' g' w')
def Eh (P:Program)(f:FuncId)(args:List V)(r:V):Prop:=(∀v,r≠.pn v)∧∀H K,K r H→Qi P f args H K
inductive EOp where
 |alloc (cells:List C)
 |boxm (a:Opd)
 |sto (n:Nat) (a v:Opd)
 |app (sz:Nat) (a b:Opd)
 |apz (sz:Nat) (zr:List C) (a n:Opd)
 |mks (sz:Nat) (zero:List C) (n:Opd)
 |mkm
 |upd (tag:Nat) (m k v:Opd)
 |del (tag:Nat) (m k:Opd)
 |clrm (m:Opd)
 |clrs (sz:Nat) (zero:List C) (m:Opd)
 |call (f:Nat) (args:List Opd)
 |bv (f:Opd) (args:List Opd)
 |rng (m:Opd)
 |nxt (it:Opd)
 |ent (it:Opd)
 |nilq (a:Opd)
 |rngs (a:Opd)
 |nxts (it:Opd)
 |bslm (sz:Nat) (parts:List Opd)
 |cpy (sz:Nat) (a b:Opd)
def DN (row:List C)(k:Nat)(vs:List C):List C:=row.take k++vs++row.drop (k+vs.length)
def C0 (H:Heap)(p:C)(vs:List C)(K:V→Heap→Prop):Prop:=
 match p with
 |.ptr l k=>match H l with
  |.st cells=>k+vs.length≤cells.length∧K .unk (H.set l (.st (DN cells k vs)))
  |_=>False
 |.ep (.aG l sz st n) z i k=>match H l with
  |.vec y rows=>y=sz∧z=sz∧i<n∧st+n≤rows.length∧k+vs.length≤sz∧
    K .unk (H.set l (.vec sz (rows.set (st+i) (DN (rows.getD (st+i) []) k vs))))
  |_=>False
 |_=>False
def appT (H:Heap)(sz:Nat)(a b:C)(K:V→Heap→Prop):Prop:=
 bt H b∧b.aQ=sz∧match a with
 |.sl true z rows=>z=sz∧(rows=[]∨rowsOf H b≠[])∧(∀r∈rows++rowsOf H b,ar r=true)∧rows.length+ax b≤LIM∧
   ∀l,H l=.none→K (.c (.aG l sz 0 (rows.length+ax b))) (H.set l (.vec sz (rows++rowsOf H b)))
 |.aG l z st n=>match H l with
  |.vec y rows=>z=sz∧y=sz∧st+n≤rows.length∧(∀r∈rowsOf H b,ar r=true)∧n+ax b≤LIM∧
    ∀l',(H.set l .none) l'=.none→
     K (.c (.aG l' sz 0 (n+ax b))) ((H.set l .none).set l' (.vec sz ((rows.drop st).take n++rowsOf H b)))
  |_=>False
 |_=>False
def AG (k:C)(v:V):List (C×V)→List (C×V)
 |[]=>[(k,v)]
 |e::es=>if AM k e.1 then (k,v)::es else e::AG k v es
def delE (k:C):List (C×V)→List (C×V)
 |[]=>[]
 |e::es=>if AM k e.1 then es else e::delE k es
def updT (H:Heap)(tag:Nat)(m k:C)(v:V)(K:V→Heap→Prop):Prop:=
 match m with
 |.mp l=>match H l with
  |.map n es=>Br tag k es∧es.length+1≤LIM∧K .unk (H.set l (.map (n+1) (AG k v es)))
  |_=>False
 |_=>False
def delT (H:Heap)(tag:Nat)(m k:C)(K:V→Heap→Prop):Prop:=
 match m with
 |.mp l=>match H l with
  |.map n es=>Br tag k es∧K .unk (H.set l (.map (n+1) (delE k es)))
  |_=>False
 |.mnil=>Br tag k []∧K .unk H
 |_=>False
def cpyT (H:Heap)(sz:Nat)(a b:C)(K:V→Heap→Prop):Prop:=
 bt H b∧b.aQ=sz∧match a with
 |.aG l z st n=>match H l with
  |.vec y rows=>z=sz∧y=sz∧st+n≤rows.length∧ax b≤n∧(∀r∈rowsOf H b,ar r=true)∧
    K (.c (.int .i64 (ax b))) (H.set l (.vec sz (rows.take st++rowsOf H b++rows.drop (st+ax b))))
  |_=>False
 |_=>False
def EOp.eff (P:Program)(p:Bool)(e:Env)(H:Heap)(K:V→Heap→Prop):EOp→Prop
 |.alloc cells=>∀l,H l=.none→K (.c (.ptr l 0)) (H.set l (.st cells))
 |.boxm a=>a.fine p e∧(a.v e).cells≠[]∧∀l,H l=.none→K (.c (.ptr l 0)) (H.set l (.st (a.v e).cells))
 |.sto n a v=>a.fine p e∧v.fine p e∧(a.v e).isC∧(v.v e).cells.length=n∧0<n∧C0 H (a.v e).c1 (v.v e).cells K
 |.app sz a b=>a.fine p e∧b.fine p e∧(a.v e).isC∧(b.v e).isC∧appT H sz (a.v e).c1 (b.v e).c1 K
 |.apz sz zr a n=>a.fine p e∧n.fine p e∧(a.v e).isC∧BJ (n.v e)∧0≤Q2 (n.v e)∧Q2 (n.v e)≤LIM∧appT H sz (a.v e).c1 (.sl false sz (List.replicate (Q2 (n.v e)).toNat zr)) K
 |.mks sz zero n=>n.fine p e∧BJ (n.v e)∧0≤Q2 (n.v e)∧Q2 (n.v e)≤LIM∧
   ∀l,H l=.none→K (.c (.aG l sz 0 (Q2 (n.v e)).toNat)) (H.set l (.vec sz (List.replicate (Q2 (n.v e)).toNat zero)))
 |.mkm=>∀l,H l=.none→K (.c (.mp l)) (H.set l (.map 0 []))
 |.upd tag m k v=>m.fine p e∧k.fine p e∧v.fine p e∧(m.v e).isC∧(k.v e).isC∧(v.v e).cells≠[]∧updT H tag (m.v e).c1 (k.v e).c1 (v.v e) K
 |.del tag m k=>m.fine p e∧k.fine p e∧(m.v e).isC∧(k.v e).isC∧delT H tag (m.v e).c1 (k.v e).c1 K
 |.clrm m=>m.fine p e∧match m.v e with
  |.c (.mp l)=>match H l with
   |.map n _=>K .unk (H.set l (.map (n+1) []))
   |_=>False
  |_=>False
 |.clrs sz zero m=>m.fine p e∧match m.v e with
  |.c (.aG l z st n)=>z=sz∧match H l with
   |.vec y rows=>y=sz∧st+n≤rows.length∧K .unk (H.set l (.vec sz (rows.take st++List.replicate n zero++rows.drop (st+n))))
   |_=>False
  |_=>False
 |.call f args=>(∀x∈args,x.fine p e)∧Qi P f (args.map fun x=>x.v e) H K
 |.bv f args=>f.fine p e∧(∀x∈args,x.fine p e)∧match f.v e with
  |.c (.fn n caps)=>Qi P n ((args.map fun x=>x.v e)++caps.map .c) H K
  |_=>False
 |.rng m=>m.fine p e∧match m.v e with
  |.c (.mp l)=>match H l with
   |.map n es=>es.Nodup∧∀i,H i=.none→K (.c (.itr i)) (H.set i (.iter (some (l,n)) es none))
   |_=>False
  |.c .mnil=>∀i,H i=.none→K (.c (.itr i)) (H.set i (.iter none [] none))
  |_=>False
 |.nxt it=>it.fine p e∧match it.v e with
  |.c (.itr i)=>match H i with
   |.iter none left _=>K (.tup [.c (.bool false)]) H
   |.iter (some (l,n)) left cur=>(∃es,H l=.map n es)∧(left=[]→K (.tup [.c (.bool false)]) H)∧
     ∀x left',x∈left→(∀y,y∈left'↔y∈left∧y≠x)→left'.Nodup→left'.length+1=left.length→
      K (.tup [.c (.bool true),.c x.1,x.2]) (H.set i (.iter (some (l,n)) left' (some x)))
   |_=>False
  |_=>False
 |.ent it=>it.fine p e∧match it.v e with
  |.c (.itr i)=>match H i with
   |.iter (some (l,n)) left (some x)=>(∃es,H l=.map n es)∧K (.tup [.c x.1,x.2]) H
   |_=>False
  |_=>False
 |.rngs a=>a.fine p e∧match a.v e with
  |.c (.str s)=>∀i,H i=.none→K (.c (.itr i)) (H.set i (.sit s 0))
  |_=>False
 |.nxts it=>it.fine p e∧match it.v e with
  |.c (.itr i)=>match H i with
   |.sit s q=>(s.length≤q→K (.tup [.c (.bool false)]) H)∧
     ∀(c:Int) (wd:Nat),q<s.length→1≤wd→((s.getD q 0).toNat<128→c=((s.getD q 0).toNat:Int)∧wd=1)→(128≤(s.getD q 0).toNat→128≤c)→
      K (.tup [.c (.bool true),.c (.int .i64 q),.c (.int .i32 c)]) (H.set i (.sit s (q+wd)))
   |_=>False
  |_=>False
 |.nilq a=>a.fine p e∧match a.v e with
  |.c (.sl _ _ rows)=>∀b:Bool,(b=true→rows=[])→K (.c (.bool b)) H
  |_=>False
 |.cpy sz a b=>a.fine p e∧b.fine p e∧(a.v e).isC∧(b.v e).isC∧cpyT H sz (a.v e).c1 (b.v e).c1 K
 |.bslm sz parts=>(∀x∈parts,x.fine p e∧(x.v e).cells.length=sz)∧∀l,H l=.none→K (.c (.aG l sz 0 parts.length)) (H.set l (.vec sz (parts.map fun x=>(x.v e).cells)))
inductive Item where
 |f (dst:Option Nat) (g:Option (Nat×Bool)) (op:FOp)
 |p (dst:Option Nat) (g:Option (Nat×Bool)) (f:Nat) (args:List Opd)
 |e (dst:Option Nat) (g:Option (Nat×Bool)) (op:EOp)
 |chk (dst:Nat) (g:Option (Nat×Bool)) (op:FOp)
def putE (d:Option Nat)(v:V)(e:Env):Env:=
 match d with
 |some t=>(t,v)::e
 |none=>e
def gdB (e:Env):Option (Nat×Bool)→Bool
 |none=>true
 |some (t,w)=>match lk t e with
  |.c (.bool b)=>b == w
  |.gd q (.c (.bool b))=>q&&(b == w)
  |_=>false
def gdO (e:Env):Option (Nat×Bool)→Prop
 |none=>True
 |some (t,_)=>match lk t e with
  |.c (.bool _)=>True
  |.gd _ (.c (.bool _))=>True
  |.gd q _=>q=false
  |_=>False
def gdV (g:Option (Nat×Bool))(p:Bool)(v:V):V:=
 match g with
 |none=>v
 |some _=>.gd p v
def BT (KP:Value→Heap→Prop)(K:V→Heap→Prop):V→Heap→Prop
 |.pn v,H=>KP v H
 |v,H=>K v H
def regT (P:Program):List Item→Env→Heap→(Value→Heap→Prop)→(Env→Heap→Prop)→Prop
 |[],e,H,KP,K=>K e H
 |.f d g op::r,e,H,KP,K=>gdO e g∧(gdB e g=true→op.obl (gdB e g) e H)∧
   ((gdB e g=true→op.fct e H)→regT P r (putE d (gdV g (gdB e g) (op.val e H)) e) H KP K)
 |.p d g f args::r,e,H,KP,K=>gdO e g∧∃v,(gdB e g=true→(∀x∈args,x.fine (gdB e g) e)∧Eh P f (args.map fun x=>x.v e) v)∧
   regT P r (putE d (gdV g (gdB e g) v) e) H KP K
 |.e d g op::r,e,H,KP,K=>gdO e g∧
   (gdB e g=true→op.eff P (gdB e g) e H (BT KP fun v H'=>regT P r (putE d v e) H' KP K))∧
   (gdB e g=false→regT P r (putE d .unk e) H KP K)
 |.chk _ _ _::_,_,_,_,_=>False
def BL (P:Program):List Item→Env→Heap→(Value→Heap→Prop)→(Env→Heap→Prop)→Prop
 |[],e,H,KP,K=>K e H
 |.f d g op::r,e,H,KP,K=>gdO e g∧(gdB e g=true→op.obl (gdB e g) e H)∧BL P r (putE d (gdV g (gdB e g) (op.val e H)) e) H KP K
 |.p d g f args::r,e,H,KP,K=>gdO e g∧∃v,(gdB e g=true→(∀x∈args,x.fine (gdB e g) e)∧Eh P f (args.map fun x=>x.v e) v)∧
   BL P r (putE d (gdV g (gdB e g) v) e) H KP K
 |.e d g op::r,e,H,KP,K=>gdO e g∧
   (gdB e g=true→op.eff P (gdB e g) e H (BT KP fun v H'=>BL P r (putE d v e) H' KP K))∧
   (gdB e g=false→BL P r (putE d .unk e) H KP K)
 |.chk d g op::r,e,H,KP,K=>(gdO e g∧(gdB e g=true→op.obl (gdB e g) e H)∧lk d e=gdV g (gdB e g) (op.val e H))∧BL P r e H KP K
def trim (ks:List Nat)(e:Env):Env:=ks.map fun t=>(t,lk t e)
def FE (e:Env)(H:Heap)(e':Env)(H':Heap):Prop:=
 ∀(g:G) (w:World) (tmps:Nat→Value),Sat H g w→(∀t,RepV w g (lk t e) (tmps t))→
  ∃g',Stp H g w H' g' w∧∀t,RepV w g' (lk t e') (tmps t)
inductive SC where
 |skip
 |reg (its:List Item) (keep:List Nat)
 |aH (fa:Nat) (ord:List Nat) (its:List Item) (keep:List Nat)
 |seq (a b:SC)
 |cond (t:Opd) (a b:SC)
 |block (id:Nat) (a:SC)
 |loop (a:SC)
 |exit (id:Nat)
 |ret
 |gh
 |scope (a:SC)
inductive X where
 |nrm
 |exit (id:Nat)
 |ret
 |pan (v:Value)
def X.panK (Q:X→Env→Heap→Prop)(v:Value)(H:Heap):Prop:=Q (.pan v) [] H
def X.next (K:Env→Heap→Prop)(Q:X→Env→Heap→Prop):X→Env→Heap→Prop
 |.nrm,e,H=>K e H
 |x,e,H=>Q x e H
def X.inBlock (id:Nat)(Q:X→Env→Heap→Prop):X→Env→Heap→Prop
 |.exit i,e,H=>if i=id then Q .nrm e H else Q (.exit i) e H
 |x,e,H=>Q x e H
def Ag (P:Program):SC→(X→Env→Heap→Prop)→Env→Heap→Prop
 |.skip,Q,e,H=>Q .nrm e H
 |.reg its keep,Q,e,H=>regT P its e H (X.panK Q) fun e' H'=>Q .nrm (trim keep e') H'
 |.aH _ _ its keep,Q,e,H=>BL P its e H (X.panK Q) fun e' H'=>Q .nrm (trim keep e') H'
 |.seq a b,Q,e,H=>Ag P a (X.next (Ag P b Q) Q) e H
 |.cond t a b,Q,e,H=>∃c,t.raw e=.c (.bool c)∧(c=true→Ag P a Q e H)∧(c=false→Ag P b Q e H)
 |.block id a,Q,e,H=>Ag P a (X.inBlock id Q) e H
 |.loop a,Q,e,H=>∃(I:Nat→Env→Heap→Prop),(∃n,I n e H)∧
   ∀n e1 H1,I n e1 H1→Ag P a (X.next (fun e2 H2=>∃m,m<n∧I m e2 H2) Q) e1 H1
 |.exit id,Q,e,H=>Q (.exit id) e H
 |.ret,Q,e,H=>Q .ret e H
 |.gh,Q,e,H=>∃e' H',FE e H e' H'∧Q .nrm e' H'
 |.scope a,Q,e,H=>Ag P a Q e H
inductive RS where
 |tmp (t:Nat)
 |cell (t n:Nat) (agg:Bool)
def RS.op:RS→FOp
 |.tmp t=>.mv (.t t)
 |.cell t n agg=>.ld n agg (.t t)
def Q1 (rs:List RS)(e:Env)(H:Heap)(K:V→Heap→Prop):Prop:=
 (∀r∈rs,r.op.obl true e H)∧K (match rs with
  |[r]=>r.op.val e H
  |_=>.tup (rs.map fun r=>r.op.val e H)) H
def zipE (i:Nat):List V→Env
 |[]=>[]
 |v::r=>(i,v)::zipE (i+1) r
variable {P:Program}
theorem Fx {t:TypeId}{i:TypeInfo}(h:P.info? t=some i)(w:World):(typeInfo t).run P w=.ok i w:=by
 simp[typeInfo,h]
theorem Bb {t:TypeId}{i:TypeInfo}(h:P.info? t=some i)(w:World):(sizeOf t).run P w=.ok i.size w:=by
 simp[sizeOf,Fx h]
theorem Qz {t:TypeId}{d:TypeDesc}(h:P.underlying t=some d)(w:World):(underlying t).run P w=.ok d w:=by
 simp[underlying,h]
theorem Qa91 {t:TypeId}{i:TypeInfo}(h:P.info? t=some i):P.cellsOf t=i.size:=by simp[Program.cellsOf,h]
def Cq:TypeDesc→Bool
 |.struct _|.array _ _=>true
 |_=>false
theorem EN {t:TypeId}{d:TypeDesc}(h:P.underlying t=some d)(w:World):(isAgg t).run P w=.ok (Cq d) w:=by
 cases d <;> simp[isAgg,Qz h,Cq]
theorem BS (b o j:Nat):(⟨b,o,none⟩:Addr).add j=⟨b,o+j,none⟩:=by
 unfold Addr.add;split
 ·subst_vars;rfl
 ·rfl
theorem Gd {t:TypeId}{d:TypeDesc}{i:TypeInfo}(hd:P.underlying t=some d)(hi:P.info? t=some i)(w:World)(b o n:Nat)(f:Nat→Value)
  (hn:Cq d=true→i.size=n) (h1:Cq d=false→n=1) (hc:∀j,j<n→w.cell? ⟨b,o+j,none⟩=some (f j)) :
  (loadVar t ⟨b,o,none⟩).run P w=.ok (if Cq d then .agg ((List.range n).map f).toArray else f 0) w:=by
 unfold loadVar;simp only[Sem.run_bind,EN hd,Result.andThen_ok]
 cases ha:Cq d with
 |true=>
  simp only[Sem.run_bind,Bb hi,Result.andThen_ok,if_true,hn ha];rw[run_loadCells w _ n f (fun j hj=>by rw[BS];exact hc j hj)];simp
 |false=>
  have h0:=hc 0 (by have:=h1 ha;omega);simp only[J1]at h0;simp[h0]
def getV (w:World)(b o:Nat)(j:Nat):Value:=(w.cell? ⟨b,o+j,none⟩).getD undef
theorem RepC.ar {w:World}{g:G}{c:C}{v:Value}(h:RepC w g c v):c.ah=false:=by cases h <;> rfl
theorem EW {w:World}{b o:Nat}{cs:Array Value}{T:TypeId}(h:w.heap[b]? = some (.cells cs T (0,0))):w.cell? ⟨b,o,none⟩=cs[o]?:=by
 simp[World.cell?,h]
theorem RepO.toC {w:World}{g:G}{l:Nat}{p:List Nat}{c:C}{v:Value}(h:RepO w g l p c v)(hn:c.ah=false):RepC w g c v:=
 h.plain_of (fun sz rows e=>by subst e;simp[C.ah]at hn)
theorem Fm {H:Heap}{g:G}{w:World}(hs:Sat H g w){s:C}{v:Value}(h:RepC w g s v)(ho:bt H s) :
  ∃a cap,v=.slice a (ax s) cap∧ax s≤LIM∧(rowsOf H s).length=ax s∧
   (∀(i:Nat) (row:List C),(rowsOf H s)[i]? = some row→row.length=s.aQ)∧
   (ax s≠0→∃b off,a=some ⟨b,off,none⟩∧∀(i:Nat) (row:List C) (j:Nat) (c:C),(rowsOf H s)[i]? = some row→row[j]? = some c→c.ah=false→
    ∃u,w.cell? ⟨b,off+i * s.aQ+j,none⟩=some u∧RepC w g c u):=by
 cases h with
 |bk fl sz a=>exact⟨a,0,rfl,by simp[ax,LIM],rfl,by simp[rowsOf],by simp[ax]⟩
 |sl fl sz rows b off cap val hl hf ci hp hr hc hv=>
  refine⟨some ⟨b,off,none⟩,cap,rfl,hl,rfl,hr,fun _=>⟨b,off,rfl,fun i row j c h1 h2 _=>⟨_,hc i row j c h1 h2,hv i row j c h1 h2⟩⟩⟩
 |bf l sz st a=>
  simp only[bt]at ho;refine⟨a,0,rfl,by simp[ax,LIM],?_,?_,by simp[ax]⟩
  ·simp only[rowsOf,ax];split <;> simp
  ·intro i row h1;simp only[rowsOf]at h1;split at h1 <;> simp at h1
 |aG l sz st n cap b base T m bd hn ej hm=>
  simp only[bt]at ho;split at ho
  ·rename_i z rows hH
   obtain⟨rfl,aF⟩:=ho;have aZ:=hs.objs l;rw[hH]at aZ;obtain⟨b',base',T',cs,val,h1,h2,h3,h4,h5,h6,h7,h8⟩:=SatVec.of aZ bd;rw[bd]at h1;simp only[Jb,Ji,true_and]at h1;obtain⟨rfl,rfl⟩:=h1;have av:∀i row,(rowsOf H (.aG l z st n))[i]? = some row→i<n∧rows[st+i]? = some row:=by
    intro i row hi;simp only[rowsOf,hH,Jp,Jr]at hi;split at hi
    ·rename_i aa;exact⟨aa,hi⟩
    ·simp at hi
   refine⟨_,cap,rfl,by simp only[ax];omega,?_,?_,fun _=>⟨b,base+st * z,rfl,?_⟩⟩
   ·simp only[rowsOf,hH,ax,List.length_take,List.length_drop];omega
   ·intro i row hi;exact h6 _ _ (av i row hi).2
   ·intro i row j c hi hj ho;obtain⟨qA,jt⟩:=av i row hi;have e1:=h7 _ _ _ _ jt hj;refine⟨val (st+i) j,?_,(h8 _ _ _ _ jt hj).toC ho⟩;rw[EW h3,←e1];simp only[C.aQ];congr 1;rw[Jm];omega
  ·exact ho.elim
 |_=>simp[bt]at ho
theorem OX {H:Heap}{g:G}{w:World}(hs:Sat H g w){x:C}{v:Value}(h:RepC w g x v)(ho:CJ H x) :
  ∃b o,v=.pointer (some ⟨b,o,none⟩)∧∀(j:Nat) (c:C),(CA H x)[j]? = some c→c.ah=false→∃u,w.cell? ⟨b,o+j,none⟩=some u∧RepC w g c u:=by
 cases h with
 |pp cells b off val hp hc hv=>exact⟨b,off,rfl,fun j c h1 _=>⟨_,hc j c h1,hv j c h1⟩⟩
 |ptr l k b sz base bd=>
  simp only[CJ]at ho;split at ho
  ·rename_i cells hH
   have aZ:=hs.objs l;rw[hH]at aZ;obtain⟨b',sz',T,cs,h1,h2,h3,h4,h5⟩:=aZ;rw[bd]at h1;simp only[Jb,Ji]at h1;obtain⟨rfl,rfl,rfl⟩:=h1;refine⟨b,0+k,rfl,fun j c hj hw=>?_⟩;simp only[CA,hH,Jr]at hj;have aa:k+j<cs.size:=by
    rw[h4];rcases Jf (k+j) cells.length with h|h
    ·exact h
    ·rw[Je h]at hj;simp at hj
   have hv:cs[k+j]? = some cs[k+j]:=Jd aa;exact⟨cs[k+j],by rw[EW h3,show 0+k+j=k+j by omega];exact hv,(h5 _ _ _ hj hv).toC hw⟩
  ·exact ho.elim
 |ep s sz i k b off n cap gG hz hi=>
  simp only[CJ]at ho;obtain⟨dH,fv,ho3⟩:=ho;obtain⟨a,cap',hv,h1,h2,h3,h4⟩:=Fm hs gG dH;simp only[Value.slice.injEq]at hv;obtain⟨rfl,rfl,rfl⟩:=hv;obtain⟨b',off',hb,h5⟩:=h4 (by omega);simp only[Jb,Addr.mk.injEq,and_true]at hb;obtain⟨rfl,rfl⟩:=hb;refine⟨b,off+i * sz+k,rfl,fun j c hj hw=>?_⟩;simp only[CA,Jr]at hj;have av:(rowsOf H s)[i]? = some ((rowsOf H s).getD i []):=by
   rw[Jx,Jc (by omega)];rfl
  obtain⟨u,e1,e2⟩:=h5 i _ (k+j) c av hj hw;refine⟨u,?_,e2⟩;rw[hz]at e1;rw[←e1];congr 2;omega
 |_=>simp[CJ]at ho
def mK:V→Value→Bool
 |.c (.int k n),.int k' n'=>k == k'&&n == n'
 |.c (.bool b),.bool b'=>b == b'
 |.c (.str s),.string b=>decide (s=b.data.toList)&&decide (s.length≤1000000)
 |.c (.sl _ _ []),.slice none 0 0=>true
 |.c .pnil,.pointer none=>true
 |.c .mnil,.map none=>true
 |.c .fnil,.nilFunc=>true
 |_,_=>false
def mO:Opd→Operand→Bool
 |.t n,.tmp m=>n == m
 |.k v,.const c=>mK v c
 |.k (.c (.fn f [])),.func f'=>f == f'
 |_,_=>false
theorem Qb09 {w:World}{g:G}{v:V}{u:Value}(h:mK v u=true):RepV w g v u:=by
 unfold mK at h;split at h
 ·simp at h;obtain⟨rfl,rfl⟩:=h;exact .c _ _ (.int _ _)
 ·simp at h;subst h;exact .c _ _ (.bool _)
 ·rename_i s b
  simp only[Ja,decide_eq_true_eq]at h;obtain⟨rfl,h2⟩:=h;have hb:b=⟨b.data.toList.toArray⟩:=by cases b;rfl
  have:=RepC.str (w:=w) (g:=g) b.data.toList (by unfold LIM;omega);rw[←hb]at this;exact .c _ _ this
 ·exact .c _ _ (.bk _ _ _)
 ·exact .c _ _ .pnil
 ·exact .c _ _ .mnil
 ·exact .c _ _ .fnil
 ·simp at h
theorem IH {w:World}{g:G}{e:Env}{a:Act}(he:∀t,RepV w g (lk t e) (a.tmps.getD t undef)){x:Opd}{y:Operand}(h:mO x y=true) :
  RepV w g (x.raw e) (a.eval y):=by
 unfold mO at h;split at h
 ·simp at h;subst h;exact he _
 ·exact Qb09 h
 ·simp at h;subst h;exact .c _ _ (.fn _ [] [] rfl (by intro j c u h1;simp at h1))
 ·simp at h
theorem Al {w:World}{g:G}{e:Env}{a:Act}(he:∀t,RepV w g (lk t e) (a.tmps.getD t undef)){x:Opd}{y:Operand}(h:mO x y=true)
  {p:Bool} (hp:p=true) (hf:x.fine p e):RepV w g (x.v e) (a.eval y):=by
 have hr:=IH he h;unfold Opd.v Opd.fine at *
 cases hx:x.raw e with
 |gd q v=>
  rw[hx]at hr hf;simp only[V.fine]at hf
  cases hr with
  |gd _ _ _ hv _=>exact hv (hf hp)
 |_=>rw[hx]at hr;exact hr
theorem RepV.aA {w:World}{g:G}{x:C}{v:Value}(h:RepV w g (.c x) v):RepC w g x v:=by cases h;assumption
theorem RepC.aB {w:World}{g:G}{k:IntKind}{n:Int}{v:Value}(h:RepC w g (.int k n) v):v=.int k n:=by cases h;rfl
theorem RepC.bh {w:World}{g:G}{b:Bool}{v:Value}(h:RepC w g (.bool b) v):v=.bool b:=by cases h;rfl
theorem RepC.str_inv {w:World}{g:G}{s:List UInt8}{v:Value}(h:RepC w g (.str s) v):v=.string ⟨s.toArray⟩∧s.length≤LIM:=by cases h;exact⟨rfl,by assumption⟩
theorem RepC.pnil_inv {w:World}{g:G}{v:Value}(h:RepC w g .pnil v):v=.pointer none:=by cases h;rfl
theorem RepC.ptr_inv {w:World}{g:G}{x:C}{v:Value}(h:RepC w g x v)(hx:x.isPtr=true):∃b o,v=.pointer (some ⟨b,o,none⟩):=by
 cases h <;> simp[C.isPtr]at hx <;> exact⟨_,_,rfl⟩
theorem RepC.fn_inv {w:World}{g:G}{f:Nat}{caps:List C}{v:Value}(h:RepC w g (.fn f caps) v) :
  ∃vs:List Value,v=.func (.func f) #[] vs.toArray∧vs.length=caps.length∧∀(j:Nat) (c:C) (u:Value),caps[j]? = some c→vs[j]? = some u→RepC w g c u:=by
 cases h with
 |fn f caps vs hl hv=>exact⟨vs,rfl,hl,hv⟩
theorem RepV.tup_inv {w:World}{g:G}{xs:List V}{v:Value}(h:RepV w g (.tup xs) v) :
  ∃vs:List Value,v=.tuple vs.toArray∧vs.length=xs.length∧∀(j:Nat) (x:V) (u:Value),xs[j]? = some x→vs[j]? = some u→RepV w g x u:=by
 cases h with
 |tup xs vs hl hv=>exact⟨vs,rfl,hl,hv⟩
theorem RepV.ag_inv {w:World}{g:G}{cs:List C}{v:Value}(h:RepV w g (.ag cs) v) :
  ∃vs:List Value,v=.agg vs.toArray∧vs.length=cs.length∧∀(j:Nat) (x:C) (u:Value),cs[j]? = some x→vs[j]? = some u→RepC w g x u:=by
 cases h with
 |ag cs vs hl hv=>exact⟨vs,rfl,hl,hv⟩
theorem Bc {v:V}(h:v.isC):v=.c v.c1:=by cases v <;> simp_all[V.isC,V.c1]
end Go.AE
namespace Go.AE
variable {P:Program}{H:Heap}{g:G}{w:World}{e:Env}{a:Act}{o:Oper}{p:Bool}
def FOk (P:Program)(H:Heap)(g:G)(w:World)(e:Env)(a:Act)(o:Oper)(op:FOp):Prop:=
 ∃v w' g',(execOp a.eval o).run P w=.ok (.value v) w'∧Stp H g w H g' w'∧RepV w' g' (op.val e H) v∧op.fct e H
abbrev EnvOk (w:World)(g:G)(e:Env)(a:Act):Prop:=∀t,RepV w g (lk t e) (a.tmps.getD t undef)
theorem FOk.mk' {op:FOp}(hs:Sat H g w){v:Value}(h1:(execOp a.eval o).run P w=.ok (.value v) w)(h2:RepV w g (op.val e H) v)(h3:op.fct e H) :
  FOk P H g w e a o op:=⟨v,w,g,h1,.refl hs,h2,h3⟩
def mTag (P:Program)(tag:Nat)(t:TypeId):Bool:=
 match tag with
 |1=>(match P.underlying t with|some .bool=>true|_=>false)
 |2=>(match P.underlying t with|some (.pointer _)=>true|_=>false)
 |_=>true
theorem s_mv {x:Opd}{y:Operand}(hm:o.op=.move y∨o.op=.assign y)(hx:mO x y=true)(hs:Sat H g w)(he:EnvOk w g e a)(hp:p=true)
  (ho:(FOp.mv x).obl p e H):FOk P H g w e a o (.mv x):=by
 refine .mk' hs (v:=a.eval y) ?_ (Al he hx hp ho) trivial;rcases hm with hm|hm <;> simp[execOp,hm]
theorem Qb1t {c x y:Opd}{c' x' y':Operand}(hm:o.op=.pick c' x' y')(hc:mO c c'=true)(hx:mO x x'=true)(hy:mO y y'=true)
  (hs:Sat H g w) (he:EnvOk w g e a) (hp:p=true) (ho:(FOp.pick c x y).obl p e H):FOk P H g w e a o (.pick c x y):=by
 simp only[FOp.obl]at ho;obtain⟨h1,h2⟩:=ho;have hr:=Al he hc hp h1
 cases hv:c.v e with
 |c z=>
  cases z with
  |bool t=>
   rw[hv]at hr h2;simp only at h2;have hb:a.eval c'=.bool t:=hr.aA.bh;refine .mk' hs (v:=if t then a.eval x' else a.eval y') (by simp[execOp,hm,hb,asBool]) ?_ trivial;simp only[FOp.val,hv];have gen:∀(u v:V) (s r:Value),(t=true→RepV w g u s)→(t=false→RepV w g v r)→RepV w g (Ec t u v) (if t then s else r):=by
    intro u v s r hu hv;unfold Ec;split
    ·cases t
     ·simpa using hv rfl
     ·simpa using hu rfl
    ·cases t
     ·simpa using hv rfl
     ·simpa using hu rfl
   refine gen _ _ _ _ (fun ht=>?_) (fun ht=>?_)
   ·exact Al he hx (p:=p&&t) (by simp[hp,ht]) h2.1
   ·exact Al he hy (p:=p&&!t) (by simp[hp,ht]) h2.2
  |_=>rw[hv]at h2;exact h2.elim
 |_=>rw[hv]at h2;exact h2.elim
theorem CL {k:IntKind}{n:Int}(h:inR k n):k.wrap n=n:=by
 unfold inR at h;cases k <;> simp[IntKind.min,IntKind.max,IntKind.signed,IntKind.bits]at h <;> simp[IntKind.wrap,IntKind.signed,IntKind.bits] <;> omega
theorem KX (s:List UInt8):(⟨s.toArray⟩:ByteArray).toList=s:=by
 rw[ByteArray.toList_eq]
theorem EL (s:List UInt8):(⟨s.toArray⟩:ByteArray).size=s.length:=by simp[ByteArray.size]
theorem Bu:LIM=549755813888:=rfl
theorem Bk (op:BinOp)(t:TypeId)(x y:Operand)(u v:Value)(h:∀cs ds,¬(u=.agg cs∧v=.agg ds))(h':¬(u=.nilIface∧v=.nilIface))(w:World) :
  (eqGuard op t x y u v).run P w=.ok () w:=by
 unfold eqGuard;cases op <;> simp <;> (cases u <;> cases v <;> simp_all)
theorem Qa99 {t:TypeId}(h:P.underlying t=some .bool)(d:Nat)(x y:Bool)(w:World):(Op.equalIn (d+1) t (.bool x) (.bool y)).run P w=.ok (x == y) w:=by
 simp[Op.equalIn,Qz h]
theorem Qbfj {t pe:TypeId}(h:P.underlying t=some (.pointer pe))(d:Nat)(x:Addr)(w:World):(Op.equalIn (d+1) t (.pointer (some x)) (.pointer none)).run P w=.ok false w:=by
 simp[Op.equalIn,Qz h]
theorem Qbfi {t pe:TypeId}(h:P.underlying t=some (.pointer pe))(d:Nat)(w:World):(Op.equalIn (d+1) t (.pointer none) (.pointer none)).run P w=.ok true w:=by
 simp[Op.equalIn,Qz h]
theorem Nn {t:TypeId}(h:P.underlying t=some .bool)(x y:Bool)(w:World):(Op.equal t (.bool x) (.bool y)).run P w=.ok (x == y) w:=Qa99 h 9999 x y w
theorem MH {t pe:TypeId}(h:P.underlying t=some (.pointer pe))(x:Addr)(w:World):(Op.equal t (.pointer (some x)) (.pointer none)).run P w=.ok false w:=Qbfj h 9999 x w
theorem MI {t pe:TypeId}(h:P.underlying t=some (.pointer pe))(w:World):(Op.equal t (.pointer none) (.pointer none)).run P w=.ok true w:=Qbfi h 9999 w
theorem Qb21 {tag:Nat}{bo:BinOp}{x y:Opd}{x' y':Operand}{t t':TypeId}(hm:o.op=.binOp bo t x' y' t')(ht:mTag P tag t=true)(hx:mO x x'=true)(hy:mO y y'=true)
  (hs:Sat H g w) (he:EnvOk w g e a) (hp:p=true) (ho:(FOp.bin tag bo x y).obl p e H):FOk P H g w e a o (.bin tag bo x y):=by
 simp only[FOp.obl]at ho;obtain⟨h1,h2,h3,h4,h5⟩:=ho;have em:=Al he hx hp h1;have gJ:=Al he hy hp h2;rw[Bc h3]at em;rw[Bc h4]at gJ;have dt:=em.aA;have hX:=gJ.aA;have key:∀(u v:Value) (c d:C),RepC w g c u→RepC w g d v→binO tag bo c d→
   ∃r,(do eqGuard bo t x' y' u v;binOp bo t u v:Sem Value).run P w=.ok r w∧RepC w g (binC bo c d) r:=by
  intro u v c d hu hv hO;unfold binO at hO;split at hO
  case h_1=>
   obtain⟨rfl,hr⟩:=hO;rw[hu.aB,hv.aB];exact⟨_,by simp[Bk,binOp,Op.intArith];try rfl,by rw[CL hr];exact .int _ _⟩
  case h_2=>
   obtain⟨rfl,hr⟩:=hO;rw[hu.aB,hv.aB];exact⟨_,by simp[Bk,binOp,Op.intArith];try rfl,by rw[CL hr];exact .int _ _⟩
  case h_3=>
   obtain⟨rfl,hr⟩:=hO;rw[hu.aB,hv.aB];exact⟨_,by simp[Bk,binOp,Op.intArith];try rfl,by rw[CL hr];exact .int _ _⟩
  case h_4=>
   obtain⟨rfl,h0,hr⟩:=hO;rw[hu.aB,hv.aB];exact⟨_,by simp[Bk,binOp,Op.intDiv,h0];try rfl,by rw[CL hr];exact .int _ _⟩
  case h_5=>
   obtain⟨rfl,h0⟩:=hO;rw[hu.aB,hv.aB];exact⟨_,by simp[Bk,binOp,Op.intDiv,h0];try rfl,.int _ _⟩
  case h_6=>
   subst hO;rw[hu.aB,hv.aB];exact⟨_,by simp[Bk,binOp,Op.intBits];try rfl,.int _ _⟩
  case h_7=>
   subst hO;rw[hu.aB,hv.aB];exact⟨_,by simp[Bk,binOp,Op.intBits];try rfl,.int _ _⟩
  case h_8=>
   subst hO;rw[hu.aB,hv.aB];exact⟨_,by simp[Bk,binOp,Op.intBits];try rfl,.int _ _⟩
  case h_9=>
   subst hO;rw[hu.aB,hv.aB];exact⟨_,by simp[Bk,binOp,Op.intCmp];try rfl,.bool _⟩
  case h_10=>
   subst hO;rw[hu.aB,hv.aB];refine⟨.bool (!decide (_=_)),?_,.bool _⟩;simp[Bk,binOp,Op.intCmp,bne];rfl
  case h_11=>
   subst hO;rw[hu.aB,hv.aB];exact⟨_,by simp[Bk,binOp,Op.intCmp];try rfl,.bool _⟩
  case h_12=>
   subst hO;rw[hu.aB,hv.aB];exact⟨_,by simp[Bk,binOp,Op.intCmp];try rfl,.bool _⟩
  case h_13=>
   subst hO;rw[hu.aB,hv.aB];exact⟨_,by simp[Bk,binOp,Op.intCmp];try rfl,.bool _⟩
  case h_14=>
   subst hO;rw[hu.aB,hv.aB];exact⟨_,by simp[Bk,binOp,Op.intCmp];try rfl,.bool _⟩
  case h_15=>
   subst hO;rw[hu.bh,hv.bh];have hb:P.underlying t=some .bool:=by
    simp only[mTag]at ht;split at ht <;> simp_all
   exact⟨_,by simp only[Sem.run_bind,Bk _ _ _ _ (.bool _) (.bool _) (by simp) (by simp),Result.andThen_ok,binOp,Nn hb];rfl,.bool _⟩
  case h_16=>
   subst hO;rw[hu.bh,hv.bh];have hb:P.underlying t=some .bool:=by
    simp only[mTag]at ht;split at ht <;> simp_all
   exact⟨_,by simp only[Sem.run_bind,Bk _ _ _ _ (.bool _) (.bool _) (by simp) (by simp),Result.andThen_ok,binOp,Nn hb];rfl,.bool _⟩
  case h_17=>
   rename_i s s'
   rw[hu.str_inv.1,hv.str_inv.1];rw[Bu]at hO;refine⟨.string (⟨s.toArray⟩++⟨s'.toArray⟩),?_,?_⟩
   ·simp only[Sem.run_bind,Bk _ _ _ _ (.string _) (.string _) (by simp) (by simp),Result.andThen_ok,binOp,Op.stringOp,EL];rw[if_neg (by simp[IntKind.max,IntKind.signed,IntKind.bits];omega)];rfl
   ·have:(⟨s.toArray⟩++⟨s'.toArray⟩:ByteArray)=⟨(s++s').toArray⟩:=by
     apply Ja5;simp
    rw[this];exact .str _ (by simp[Bu];omega)
  case h_18=>
   rw[hu.str_inv.1,hv.str_inv.1];refine⟨_,by simp only[Sem.run_bind,Bk _ _ _ _ (.string _) (.string _) (by simp) (by simp),Result.andThen_ok,binOp,Op.stringOp,KX];rfl,?_⟩
   rename_i s s'
   rw[show (s == s')=decide (s=s') from by rw[Jbe];simp];exact .bool _
  case h_19=>
   rw[hu.str_inv.1,hv.str_inv.1];refine⟨_,by simp only[Sem.run_bind,Bk _ _ _ _ (.string _) (.string _) (by simp) (by simp),Result.andThen_ok,binOp,Op.stringOp,KX];rfl,?_⟩
   rename_i s s'
   rw[show (s == s')=decide (s=s') from by rw[Jbe];simp];exact .bool _
  case h_20=>
   obtain⟨rfl,hO⟩:=hO;rw[hv.pnil_inv];obtain⟨pe,hb⟩:∃pe,P.underlying t=some (.pointer pe):=by
    simp only[mTag]at ht;split at ht <;> simp_all
   rcases hO with hO|rfl
   ·obtain⟨b,of,rfl⟩:=hu.ptr_inv hO;refine⟨_,by simp only[Sem.run_bind,Bk _ _ _ _ (.pointer _) (.pointer _) (by simp) (by simp),Result.andThen_ok,binOp,MH hb];rfl,?_⟩;cases c <;> simp[C.isPtr]at hO <;> exact .bool _
   ·rw[hu.pnil_inv];exact⟨_,by simp only[Sem.run_bind,Bk _ _ _ _ (.pointer _) (.pointer _) (by simp) (by simp),Result.andThen_ok,binOp,MI hb];rfl,.bool _⟩
  case h_21=>
   obtain⟨rfl,hO⟩:=hO;rw[hv.pnil_inv];obtain⟨pe,hb⟩:∃pe,P.underlying t=some (.pointer pe):=by
    simp only[mTag]at ht;split at ht <;> simp_all
   rcases hO with hO|rfl
   ·obtain⟨b,of,rfl⟩:=hu.ptr_inv hO;refine⟨_,by simp only[Sem.run_bind,Bk _ _ _ _ (.pointer _) (.pointer _) (by simp) (by simp),Result.andThen_ok,binOp,MH hb];rfl,?_⟩;cases c <;> simp[C.isPtr]at hO <;> exact .bool _
   ·rw[hu.pnil_inv];exact⟨_,by simp only[Sem.run_bind,Bk _ _ _ _ (.pointer _) (.pointer _) (by simp) (by simp),Result.andThen_ok,binOp,MI hb];rfl,.bool _⟩
  case h_22=>exact hO.elim
 obtain⟨r,gV,dm⟩:=key _ _ _ _ dt hX h5;refine .mk' hs (v:=r) ?_ ?_ trivial
 ·simp only[execOp,hm,Sem.run_bind]at gV⊢;simp only[gV];rfl
 ·exact .c _ _ dm
theorem Qb3j {x:Opd}{x':Operand}{t:TypeId}(hm:o.op=.unOp .not t x')(hx:mO x x'=true)(hs:Sat H g w)(he:EnvOk w g e a)(hp:p=true)
  (ho:(FOp.not x).obl p e H):FOk P H g w e a o (.not x):=by
 simp only[FOp.obl]at ho;obtain⟨h1,h2⟩:=ho;have hr:=Al he hx hp h1;split at h2
 ·rename_i b hv
  rw[hv]at hr;have hb:=hr.aA.bh;refine .mk' hs (v:=.bool (!b)) (by simp[execOp,hm,hb,Op.unary]) ?_ trivial;simp only[FOp.val,hv];exact .c _ _ (.bool _)
 ·exact h2.elim
theorem KG {α:Type}(l:List α)(i j:Nat):(l.drop i)[j]? = l[i+j]?:=by simp[Jr]
theorem Qb27 {off:Nat}{x:Opd}{x':Operand}{s:TypeId}{k:Nat}{fs:Array Field}{f:Field}{i:TypeInfo}(hm:o.op=.fieldAddr s x' k)(hu:P.underlying s=some (.struct fs))
  (hf:fs[k]? = some f) (jA:f.offset=off) (hi:P.info? f.type=some i) (hz:i.size≠0) (hx:mO x x'=true)
  (hs:Sat H g w) (he:EnvOk w g e a) (hp:p=true) (ho:(FOp.fad off x).obl p e H):FOk P H g w e a o (.fad off x):=by
 simp only[FOp.obl]at ho;obtain⟨h1,h2⟩:=ho;have hr:=Al he hx hp h1;have run:∀b q,a.eval x'=.pointer (some ⟨b,q,none⟩)→(execOp a.eval o).run P w=.ok (.value (.pointer (some ⟨b,q+off,none⟩))) w:=by
  intro b q hq;simp[execOp,hm,hq,Instr.fieldAt,Qz hu,hf,Instr.sureAddr,fieldPlace,Bb hi,hz,BS,jA]
 generalize hq:a.eval x'=vv at hr;split at h2
 ·rename_i cells hv
  rw[hv]at hr
  cases hr.aA with
  |pp _ b q val bV hc i4=>
   refine .mk' hs (run b q hq) ?_ trivial;simp only[FOp.val,hv,V.c1,fadC];refine .c _ _ (.pp _ b (q+off) (fun j=>val (off+j)) bV (fun j c hj=>?_) (fun j c hj=>?_))
   ·rw[KG]at hj;rw[Jas];exact hc _ _ hj
   ·rw[KG]at hj;exact i4 _ _ hj
 ·rename_i l kk hv
  rw[hv]at hr
  cases hr.aA with
  |ptr _ _ b sz base bd=>
   refine .mk' hs (run b _ hq) ?_ trivial;simp only[FOp.val,hv,V.c1,fadC];rw[Jas];exact .c _ _ (.ptr _ _ b sz base bd)
 ·rename_i sl sz ii kk hv
  rw[hv]at hr
  cases hr.aA with
  |ep _ _ _ _ b q n cap gG cD cI=>
   refine .mk' hs (run b _ hq) ?_ trivial;simp only[FOp.val,hv,V.c1,fadC];rw[Jas];exact .c _ _ (.ep _ _ _ _ b q n cap gG cD cI)
 ·exact h2.elim
theorem XU {v:V}(h:BJ v):v=.c (.int .i64 (Q2 v)):=by
 unfold BJ at h;split at h
 ·subst h;rfl
 ·exact h.elim
theorem XT {v:V}(h:Ee v):∃k,v=.c (.int k (Q2 v)):=by
 unfold Ee at h;split at h
 ·exact⟨_,rfl⟩
 ·exact h.elim
theorem C9 {x:Opd}{y:Operand}(he:EnvOk w g e a)(h:mO x y=true)(hp:p=true)(hf:x.fine p e)(hi:BJ (x.v e)) :
  a.eval y=.int .i64 (Q2 (x.v e)):=by
 have hr:=Al he h hp hf;rw[XU hi]at hr;exact hr.aA.aB
theorem Qb3a {sz:Nat}{x y:Opd}{x' y':Operand}{t el:TypeId}{i:TypeInfo}(hm:o.op=.indexAddr t x' y')(hu:P.underlying t=some (.slice el))
  (hi:P.info? el=some i) (hz:i.size=sz) (hx:mO x x'=true) (hy:mO y y'=true)
  (hs:Sat H g w) (he:EnvOk w g e a) (hp:p=true) (ho:(FOp.iad sz x y).obl p e H):FOk P H g w e a o (.iad sz x y):=by
 simp only[FOp.obl]at ho;obtain⟨h1,h2,h3,h4,h5,h6,h7,h8⟩:=ho;have hr:=Al he hx hp h1;have hn:=C9 he hy hp h2 h6;rw[Bc h3]at hr;obtain⟨b0,cap,hv,r1,r2,r3,r4⟩:=Fm hs hr.aA h4;obtain⟨b,off,rfl,r5⟩:=r4 (by omega);refine .mk' hs (v:=.pointer (some ⟨b,off+(Q2 (y.v e)).toNat * sz+0,none⟩)) ?_ ?_ trivial
 ·simp only[execOp,hm,hv,hn,Instr.indexAt,Sem.run_bind,asIntOf,Sem.run_pure,Result.andThen_ok,Qz hu];rw[if_pos ⟨h7,by omega⟩];simp[Bb hi,hz,BS]
 ·simp only[FOp.val];refine .c _ _ (.ep _ _ _ _ b off (ax (x.v e).c1) cap ?_ h5 h8);rw[←hv];exact hr.aA
theorem LF (f:Nat→Value)(n j:Nat)(u:Value)(h:(((List.range n).map f))[j]? = some u):j<n∧u=f j:=by
 simp only[Jo]at h
 cases hj:(List.range n)[j]? with
 |none=>rw[hj]at h;simp at h
 |some m=>
  rw[hj]at h;rw[J9]at hj;obtain⟨h1,h2⟩:=hj;simp only[List.getElem_range]at h2;subst h2;simp only[Jba]at h1;simp at h;exact⟨h1,h.symm⟩
theorem Kb {cs:List C}(h:ar cs=true){j:Nat}{c:C}(hj:cs[j]? = some c):c.ah=false:=by
 unfold ar at h;rw[Jaa]at h;have:=h c (Jg hj);simpa using this
theorem KT {n:Nat}{agg:Bool}{x:Opd}{x':Operand}{t:TypeId}{d:TypeDesc}{i:TypeInfo}(hm:o.op=.load t x')(hu:P.underlying t=some d)(hi:P.info? t=some i)
  (ha:Cq d=agg) (hn:agg=true→i.size=n) (cA:agg=false→n=1) (hx:mO x x'=true)
  (hs:Sat H g w) (he:EnvOk w g e a) (hp:p=true) (ho:(FOp.ld n agg x).obl p e H):∃v,(execOp a.eval o).run P w=.ok (.value v) w∧RepV w g ((FOp.ld n agg x).val e H) v:=by
 simp only[FOp.obl]at ho;obtain⟨h1,h2,h3,h4,h5⟩:=ho;have hr:=Al he hx hp h1;rw[Bc h2]at hr;obtain⟨b,q,hv,hc⟩:=OX hs hr.aA h3;have bW:∀j,j<n→∃c,(CA H (x.v e).c1)[j]? = some c∧w.cell? ⟨b,q+j,none⟩=some (getV w b q j)∧RepC w g c (getV w b q j):=by
  intro j hj;have dA:j<(CA H (x.v e).c1).length:=by omega
  have hg:(CA H (x.v e).c1)[j]? = some (CA H (x.v e).c1)[j]:=Jc dA;have hw:((CA H (x.v e).c1)[j]).ah=false:=Kb h5 (j:=j) (by rw[Jp,if_pos hj];exact hg);obtain⟨u,e1,e2⟩:=hc j _ hg hw;refine⟨_,hg,?_,?_⟩
  ·rw[getV,e1];rfl
  ·rw[getV,e1];exact e2
 have bx:=Gd (t:=t) hu hi w b q n (getV w b q) (fun h=>hn (ha▸h)) (fun h=>cA (ha▸h)) (fun j hj=>(bW j hj).choose_spec.2.1);refine⟨if Cq d then .agg ((List.range n).map (getV w b q)).toArray else getV w b q 0,?_,?_⟩
 ·simp only[execOp,hm,hv,Instr.loadAt,Instr.sureAddr,Sem.run_bind,Sem.run_pure,Result.andThen_ok,bx]
 ·simp only[FOp.val,Cw];rw[ha]
  cases agg with
  |true=>
   simp only[if_true];refine .ag _ _ (by simp;omega) fun j c u hj nf=>?_;obtain⟨rY,rfl⟩:=LF _ _ _ _ nf;obtain⟨c',e1,e2,e3⟩:=bW j rY;rw[Jp,if_pos rY,e1]at hj;simp at hj;subst hj;exact e3
  |false=>
   have qd:=cA rfl;subst qd;obtain⟨c',e1,e2,e3⟩:=bW 0 (by omega);simp only[Jq,if_false];have:((CA H (x.v e).c1).take 1).headD .unk=c':=by
    cases hb:CA H (x.v e).c1 with
    |nil=>rw[hb]at e1;simp at e1
    |cons c r=>rw[hb]at e1;simp at e1;simp[e1]
   rw[this];exact .c _ _ e3
theorem s_ld {n:Nat}{agg:Bool}{x:Opd}{x':Operand}{t:TypeId}{d:TypeDesc}{i:TypeInfo}(hm:o.op=.load t x')(hu:P.underlying t=some d)(hi:P.info? t=some i)
  (ha:Cq d=agg) (hn:agg=true→i.size=n) (cA:agg=false→n=1) (hx:mO x x'=true)
  (hs:Sat H g w) (he:EnvOk w g e a) (hp:p=true) (ho:(FOp.ld n agg x).obl p e H):FOk P H g w e a o (.ld n agg x):=by
 obtain⟨v,h1,h2⟩:=KT hm hu hi ha hn cA hx hs he hp ho;exact .mk' hs h1 h2 trivial
theorem Qb3i {x:Opd}{x':Operand}(hm:o.op=.nilCheck x')(hx:mO x x'=true)
  (hs:Sat H g w) (he:EnvOk w g e a) (hp:p=true) (ho:(FOp.nck x).obl p e H):FOk P H g w e a o (.nck x):=by
 simp only[FOp.obl]at ho;obtain⟨h1,h2⟩:=ho;have hr:=Al he hx hp h1;have kU:(x.v e).isC→(x.v e).c1.isPtr=true→FOk P H g w e a o (.nck x):=by
  intro hc hq;have aP:=hr;rw[Bc hc]at aP;obtain⟨b,q,hv⟩:=aP.aA.ptr_inv hq;exact .mk' hs (v:=a.eval x') (by simp[execOp,hm,hv]) hr trivial
 split at h2
 ·rename_i hv;exact kU (by rw[hv];trivial) (by rw[hv];rfl)
 ·rename_i hv;exact kU (by rw[hv];trivial) (by rw[hv];rfl)
 ·rename_i hv;exact kU (by rw[hv];trivial) (by rw[hv];rfl)
 ·rename_i hv
  have aP:=hr;rw[hv]at aP;obtain⟨vs,hq,_⟩:=aP.aA.fn_inv;exact .mk' hs (v:=a.eval x') (by simp[execOp,hm,hq]) hr trivial
 ·exact h2.elim
theorem Qb3f {x:Opd}{x':Operand}{t el:TypeId}{ats:Array TypeId}(hm:o.op=.call { callee:=.builtin .len,args:=#[x'],argTypes:=ats })(az:ats[0]? = some t)
  (hu:P.underlying t=some (.slice el)) (hx:mO x x'=true)
  (hs:Sat H g w) (he:EnvOk w g e a) (hp:p=true) (ho:(FOp.len x).obl p e H):FOk P H g w e a o (.len x):=by
 simp only[FOp.obl]at ho;obtain⟨h1,h2,h3⟩:=ho;have hr:=Al he hx hp h1;rw[Bc h2]at hr;obtain⟨b0,cap,hv,r1,r2,r3,r4⟩:=Fm hs hr.aA h3;refine .mk' hs (v:=.int .i64 (ax (x.v e).c1)) ?_ (.c _ _ (.int _ _)) r1;simp[execOp,hm,resolve,invoke,builtin,Builtin.len_,az,hv,Qz hu,goInt]
theorem Qb1r {x:Opd}{x':Operand}{t el:TypeId}{ats:Array TypeId}(hm:o.op=.call { callee:=.builtin .len,args:=#[x'],argTypes:=ats })(az:ats[0]? = some t)
  (hu:P.underlying t=some (.slice el)) (hx:mO x x'=true)
  (hs:Sat H g w) (he:EnvOk w g e a) (hp:p=true) (ho:(FOp.lenx x).obl p e H):FOk P H g w e a o (.lenx x):=by
 simp only[FOp.obl]at ho;obtain⟨h1,h2,h3⟩:=ho;have hr:=Al he hx hp h1;rw[Bc h2]at hr;have key:∃(b0:Option Addr) (cap:Nat),a.eval x'=.slice b0 (lenX (x.v e).c1) cap∧lenX (x.v e).c1<2 ^ 63:=by
  rcases h3 with h3|h3
  ·obtain⟨b0,cap,hv,r1,r2,r3,r4⟩:=Fm hs hr.aA h3;have:lenX (x.v e).c1=ax (x.v e).c1:=by
    generalize (x.v e).c1=c at h3;cases c <;> first|rfl|simp[bt]at h3
   rw[this];exact⟨b0,cap,hv,by rw[Bu]at r1;omega⟩
  ·have cP:=hr.aA;generalize (x.v e).c1=c at h3 cP⊢;generalize a.eval x'=xv at cP⊢
   cases cP with
   |slb n a0 cap h=>exact⟨_,_,rfl,h⟩
   |_=>simp[FA]at h3
 obtain⟨b0,cap,hv,hl⟩:=key;refine .mk' hs (v:=.int .i64 (lenX (x.v e).c1)) ?_ (.c _ _ (.int _ _)) hl;simp[execOp,hm,resolve,invoke,builtin,Builtin.len_,az,hv,Qz hu,goInt]
theorem Qb1q {x:Opd}{x':Operand}{t:TypeId}{ats:Array TypeId}(hm:o.op=.call { callee:=.builtin .len,args:=#[x'],argTypes:=ats })(az:ats[0]? = some t)
  (hu:P.underlying t=some .string) (hx:mO x x'=true)
  (hs:Sat H g w) (he:EnvOk w g e a) (hp:p=true) (ho:(FOp.lens x).obl p e H):FOk P H g w e a o (.lens x):=by
 simp only[FOp.obl]at ho;obtain⟨h1,h2⟩:=ho;have hr:=Al he hx hp h1;split at h2
 ·rename_i s hv
  rw[hv]at hr;obtain⟨hq,hl⟩:=hr.aA.str_inv;refine .mk' hs (v:=.int .i64 s.length) ?_ (by simp only[FOp.val,hv];exact .c _ _ (.int _ _)) (by simp only[FOp.fct,hv];exact hl);simp[execOp,hm,resolve,invoke,builtin,Builtin.len_,az,hq,Qz hu,goInt,EL]
 ·exact h2.elim
theorem T1 {x:Opd}{x':Operand}{t:TypeId}{ats:Array TypeId}(hm:o.op=.call { callee:=.builtin .len,args:=#[x'],argTypes:=ats })(az:ats[0]? = some t)
  (hu:P.underlying t=some .string) (hx:mO x x'=true)
  (hs:Sat H g w) (he:EnvOk w g e a) (hp:p=true) (ho:(FOp.lensx x).obl p e H):FOk P H g w e a o (.lensx x):=by
 simp only[FOp.obl]at ho;obtain⟨h1,h2⟩:=ho;have hr:=Al he hx hp h1;split at h2
 ·rename_i s hv
  rw[hv]at hr;obtain⟨hq,hl⟩:=hr.aA.str_inv;refine .mk' hs (v:=.int .i64 s.length) ?_ (by simp only[FOp.val,hv];exact .c _ _ (.int _ _)) (by simp only[FOp.fct,hv];exact hl);simp[execOp,hm,resolve,invoke,builtin,Builtin.len_,az,hq,Qz hu,goInt,EL]
 ·rename_i n hv
  rw[hv]at hr;have cP:=hr.aA;generalize hq:a.eval x'=xv at cP
  cases cP with
  |stb s h=>
   refine .mk' hs (v:=.int .i64 s.size) ?_ (by simp only[FOp.val,hv];exact .c _ _ (.int _ _)) (by simp only[FOp.fct,hv];exact h);simp[execOp,hm,resolve,invoke,builtin,Builtin.len_,az,hq,Qz hu,goInt]
 ·exact h2.elim
theorem FL {agg:Bool}{ks:List C}{rows:List (List C)}{v:Value}(h:RepC w g (.cm agg ks rows) v):∃b ms clock,v=.map (some b)∧w.heap[b]? = some (.map ms clock)∧ms.size=(Q6 H (.cm agg ks rows)).length∧(Q6 H (.cm agg ks rows)).length≤LIM∧
   (∀(i:Nat) (x:C×V) (m:MapEntry),(Q6 H (.cm agg ks rows))[i]? = some x→ms[i]? = some m→RepE w g x m)∧
   (∀(i j:Nat) (m m':MapEntry),ms[i]? = some m→ms[j]? = some m'→(m.born=m'.born∨m.key=m'.key)→i=j):=by
 cases h with
 |cm _ _ _ b ms clock val hp hb be bZ hl hd hm hk hv=>
  have ai:(Q6 H (.cm agg ks rows)).length=ks.length:=by simp[Q6];omega
  refine⟨b,ms,clock,rfl,hb,by rw[ai];exact be,by rw[ai];exact hl,fun i x m h1 h2=>?_,hd⟩;simp only[Q6,Jo]at h1;obtain⟨e,he,rfl⟩:=Option.map_eq_some_iff.1 h1;obtain⟨e1,e2⟩:=Jan.1 he;refine⟨hk i _ m e1 h2,?_⟩;obtain⟨k1,k2⟩:=hm i _ m e2 h2;obtain⟨ec,er⟩:=e;simp only at e1 e2 k1 k2⊢
  cases agg with
  |true=>
   simp only[if_true]at k1;rw[k1];refine .ag _ _ (by simp) fun j c u h3 h4=>?_;obtain⟨_,rfl⟩:=LF _ _ _ _ h4;exact hv i _ j c e2 h3
  |false=>
   have ft:=k2 rfl
   match er,ft with
   |[c],_=>
    simp only[Jq,if_false]at k1;rw[k1];exact .c _ _ (hv i _ 0 c e2 rfl)
theorem T7 (hs:Sat H g w){c:C}{v:Value}(h:RepC w g c v)(ho:B4 H c) :
  (v=.map none∧Q6 H c=[])∨∃b ms clock,v=.map (some b)∧w.heap[b]? = some (.map ms clock)∧ms.size=(Q6 H c).length∧(Q6 H c).length≤LIM∧
   ∀(i:Nat) (x:C×V) (m:MapEntry),(Q6 H c)[i]? = some x→ms[i]? = some m→RepE w g x m:=by
 have h0:=h
 cases h with
 |mp l b bd=>
  simp only[B4]at ho;split at ho
  ·rename_i n es hH
   have aZ:=hs.objs l;rw[hH]at aZ;obtain⟨b',ms,clock,k1,k2,k3,k4,k5,k6,_⟩:=aZ;rw[bd]at k1;simp only[Jb,Ji,and_true]at k1;subst k1;simp only[Q6,hH];exact .inr ⟨b,ms,clock,rfl,k3,k4,k5,k6⟩
  ·exact ho.elim
 |mnil=>exact .inl ⟨rfl,rfl⟩
 |cm=>
  obtain⟨b,ms,clock,q1,q2,q3,q4,q5,_⟩:=FL (H:=H) h0;exact .inr ⟨b,ms,clock,q1,q2,q3,q4,q5⟩
 |_=>simp[B4]at ho
theorem Qb1p {x:Opd}{x':Operand}{t kt et:TypeId}{ats:Array TypeId}(hm:o.op=.call { callee:=.builtin .len,args:=#[x'],argTypes:=ats })(az:ats[0]? = some t)
  (hu:P.underlying t=some (.map kt et)) (hx:mO x x'=true)
  (hs:Sat H g w) (he:EnvOk w g e a) (hp:p=true) (ho:(FOp.lenm x).obl p e H):FOk P H g w e a o (.lenm x):=by
 simp only[FOp.obl]at ho;obtain⟨h1,h2,h3⟩:=ho;have hr:=Al he hx hp h1;rw[Bc h2]at hr;rcases T7 hs hr.aA h3 with ⟨hv,hE⟩|⟨b,ms,clock,hv,hb,be,hl,_⟩
 ·refine .mk' hs (v:=.int .i64 0) ?_ (by simp only[FOp.val,hE];exact .c _ _ (.int _ _)) (by simp only[FOp.fct,hE];simp[Bu]);simp[execOp,hm,resolve,invoke,builtin,Builtin.len_,az,hv,Qz hu,goInt]
 ·refine .mk' hs (v:=.int .i64 (Q6 H (x.v e).c1).length) ?_ (.c _ _ (.int _ _)) hl;have de:(getObj b).run P w=.ok (.map ms clock) w:=by simp[getObj,Sem.run,hb]
  simp[execOp,hm,resolve,invoke,builtin,Builtin.len_,az,hv,Qz hu,goInt,de,be]
theorem Qb26 {x:Opd}{x':Operand}{i:Nat}(hm:o.op=.extract x' i)(hx:mO x x'=true)
  (hs:Sat H g w) (he:EnvOk w g e a) (hp:p=true) (ho:(FOp.ext x i).obl p e H):FOk P H g w e a o (.ext x i):=by
 simp only[FOp.obl]at ho;obtain⟨h1,h2⟩:=ho;have hr:=Al he hx hp h1;split at h2
 ·rename_i xs hv
  rw[hv]at hr;obtain⟨vs,hq,hl,hh⟩:=hr.tup_inv;have hi:i<vs.length:=by omega
  refine .mk' hs (v:=vs[i]) ?_ ?_ trivial
  ·simp[execOp,hm,Instr.extract,hq,hi]
  ·simp only[FOp.val,hv];refine hh i _ _ ?_ (Jc hi);rw[Jx,Jc h2];rfl
 ·exact h2.elim
theorem Qb25 {x:Opd}{x':Operand}{k:IntKind}{src dst:TypeId}{d:TypeDesc}(hm:o.op=.convert src dst x')(hu:P.underlying dst=some (.int k))(nf:P.underlying src=some d)(hx:mO x x'=true)
  (hs:Sat H g w) (he:EnvOk w g e a) (hp:p=true) (ho:(FOp.cvt k x).obl p e H):FOk P H g w e a o (.cvt k x):=by
 simp only[FOp.obl]at ho;obtain⟨h1,h2,h3⟩:=ho;have hr:=Al he hx hp h1;obtain⟨k',hk⟩:=XT h2;rw[hk]at hr;have hq:=hr.aA.aB;refine .mk' hs (v:=.int k (Q2 (x.v e))) ?_ (.c _ _ (.int _ _)) trivial;simp[execOp,hm,hq,convert,Qz hu,Qz nf,Conv.intToInt,CL h3]
theorem s_mx {x y:Opd}{x' y':Operand}{ats:Array TypeId}(hm:o.op=.call { callee:=.builtin .max,args:=#[x',y'],argTypes:=ats })(hx:mO x x'=true)(hy:mO y y'=true)
  (hs:Sat H g w) (he:EnvOk w g e a) (hp:p=true) (ho:(FOp.mx x y).obl p e H):FOk P H g w e a o (.mx x y):=by
 simp only[FOp.obl]at ho;obtain⟨h1,h2,h3,h4⟩:=ho;have q1:=C9 he hx hp h1 h3;have q2:=C9 he hy hp h2 h4;refine .mk' hs (v:=.int .i64 (if Q2 (y.v e) > Q2 (x.v e)then Q2 (y.v e)else Q2 (x.v e))) ?_ (.c _ _ (.int _ _)) trivial;simp[execOp,hm,resolve,invoke,builtin,Builtin.max_,q1,q2,Builtin.max2]
theorem s_mn {x y:Opd}{x' y':Operand}{ats:Array TypeId}(hm:o.op=.call { callee:=.builtin .min,args:=#[x',y'],argTypes:=ats })(hx:mO x x'=true)(hy:mO y y'=true)
  (hs:Sat H g w) (he:EnvOk w g e a) (hp:p=true) (ho:(FOp.mn x y).obl p e H):FOk P H g w e a o (.mn x y):=by
 simp only[FOp.obl]at ho;obtain⟨h1,h2,h3,h4⟩:=ho;have q1:=C9 he hx hp h1 h3;have q2:=C9 he hy hp h2 h4;refine .mk' hs (v:=.int .i64 (if Q2 (y.v e)<Q2 (x.v e)then Q2 (y.v e)else Q2 (x.v e))) ?_ (.c _ _ (.int _ _)) trivial;simp[execOp,hm,resolve,invoke,builtin,Builtin.min_,q1,q2,Builtin.min2]
theorem Qb3c {x y:Opd}{x' y':Operand}{t:TypeId}(hm:o.op=.index t x' y')(hu:P.underlying t=some .string)(hx:mO x x'=true)(hy:mO y y'=true)
  (hs:Sat H g w) (he:EnvOk w g e a) (hp:p=true) (ho:(FOp.idx x y).obl p e H):FOk P H g w e a o (.idx x y):=by
 simp only[FOp.obl]at ho;obtain⟨h1,h2,h3,h4⟩:=ho;have hr:=Al he hx hp h1;have q2:=C9 he hy hp h2 h3;split at h4
 ·rename_i s hv
  rw[hv]at hr;obtain⟨hq,hl⟩:=hr.aA.str_inv;refine .mk' hs (v:=.int .u8 ((s.getD (Q2 (y.v e)).toNat 0).toNat)) ?_ (by simp only[FOp.val,hv];exact .c _ _ (.int _ _)) trivial;have hb:(⟨s.toArray⟩:ByteArray)[(Q2 (y.v e)).toNat]? = some (s.getD (Q2 (y.v e)).toNat 0):=by
   rw[getElem?_pos _ _ (by simpa[ByteArray.size]using h4.2)];rw[Jx,Jc h4.2];rfl
  simp only[execOp,hm,hq,q2,Instr.index,Sem.run_bind,asIntOf,Sem.run_pure,Result.andThen_ok,Qz hu,if_pos h4.1,hb]
 ·exact h4.elim
def AR (g:G)(w:World)(g':G)(w':World)(l:Nat):Prop:=
 ∀b q,g.own b=some (l,q)→g'.own b=some (l,q)∧w'.heap[b]? = w.heap[b]?
theorem RepE.mono {g':G}{w':World}(a9:Le g w g' w'){x:C×V}{m:MapEntry}(h:RepE w g x m):RepE w' g' x m:=⟨h.1.mono a9,h.2.mono a9⟩
theorem SatObj.keep {H':Heap}{g':G}{w':World}(hs:Sat H g w)(a9:Le g w g' w'){l:Nat}(hk:AR g w g' w' l)(hH:H' l=H l)
  (nQ:∀m v left cur,H l=.iter (some (m,v)) left cur→∀v' es,H' m=.map v' es→(H m=.map v' es∧AR g w g' w' m)∨∃v0 es0,H m=.map v0 es0∧v0<v') :
  SatObj H' g' w' l (H' l):=by
 have ho:=hs.objs l;rw[hH]
 cases hc:H l with
 |none=>exact trivial
 |st cells=>
  rw[hc]at ho;obtain⟨b,sz,T,cs,h1,h2,h3,h4,h5⟩:=ho;have k0:=hk b [] h2;refine⟨b,sz,T,cs,a9.io _ _ h1,k0.1,k0.2.trans h3,h4,fun k c v e1 e2=>?_⟩;exact (h5 k c v e1 e2).move a9 fun q b' hb=>hk b' _ hb
 |vec sz rows=>
  rw[hc]at ho;rcases ho with ⟨q1,x,q2,q3⟩|⟨b,base,T,cs,val,h1,h2,h3,h4,h5,h6,h7,h8⟩
  ·exact .inl ⟨q1,x,a9.io _ _ q2,q3⟩
  have k0:=hk b [] h2;refine .inr ⟨b,base,T,cs,val,a9.io _ _ h1,k0.1,k0.2.trans h3,h4,h5,h6,h7,fun i row j c e1 e2=>?_⟩;exact (h8 i row j c e1 e2).move a9 fun q b' hb=>hk b' _ hb
 |map v es=>
  rw[hc]at ho;obtain⟨b,ms,clock,h1,h2,h3,h4,h5,h6,h7,h8⟩:=ho;have k0:=hk b [] h2;exact⟨b,ms,clock,a9.io _ _ h1,k0.1,k0.2.trans h3,h4,h5,fun i x m e1 e2=>(h6 i x m e1 e2).mono a9,h7,h8⟩
 |gl b cells=>
  rw[hc]at ho;obtain⟨sz,val,h1,h2,h3,h4⟩:=ho;refine⟨sz,val,a9.io _ _ h1,(a9.per b h2).1,fun j c e=>?_,fun j c e=>(h4 j c e).mono a9⟩;rw[PW (w:=w) (a9.per b h2).2];exact h3 j c e
 |sit s q=>
  rw[hc]at ho;obtain⟨b,h1,h2,h3,h4⟩:=ho;have k0:=hk b [] h2;exact⟨b,a9.io _ _ h1,k0.1,k0.2.trans h3,h4⟩
 |iter m left cur=>
  rw[hc]at ho
  cases m with
  |none=>
   obtain⟨b,si,se,la,h1,h2,h3,h4⟩:=ho;have k0:=hk b [] h2;exact⟨b,si,se,la,a9.io _ _ h1,k0.1,k0.2.trans h3,h4⟩
  |some mv=>
   obtain⟨m,ver⟩:=mv;obtain⟨b,mb,si,se,h1,h2,h3,h4,h5⟩:=ho;have k0:=hk b [] h2;refine⟨b,mb,si,se,a9.io _ _ h1,k0.1,k0.2.trans h3,a9.io _ _ h4,fun v es hv=>?_⟩;rcases nQ m ver left cur hc v es hv with ⟨a1,a2⟩|⟨v0,es0,a1,a2⟩
   ·obtain⟨b1,b2⟩:=h5 v es a1;refine⟨b1,fun i4=>?_⟩;obtain⟨ms,c1,c2⟩:=b2 i4;refine⟨ms,?_,c2⟩;have hm:=hs.objs m;rw[a1]at hm;obtain⟨mb',ms',clock,d1,d2,d3,_⟩:=hm;rw[h4]at d1;simp only[Jb,Ji,and_true]at d1;subst d1;rw[(a2 mb [] d2).2];exact c1
   ·obtain⟨b1,b2⟩:=h5 v0 es0 a1;exact⟨by omega,fun i4=>by omega⟩
theorem SatObj.keep_all {g':G}{w':World}(hs:Sat H g w)(a9:Le g w g' w')(hk:∀l,AR g w g' w' l)(l:Nat):SatObj H g' w' l (H l):=
 SatObj.keep (H':=H) hs a9 (hk l) rfl fun m v left cur _ v' es hv=>.inl ⟨hv,hk m⟩
theorem C1 (hs:Sat H g w){b:Nat}{x:Nat×List Nat}(h:g.own b=some x):b<w.heap.size:=by
 rcases Jf b w.heap.size with h'|h'
 ·exact h'
 ·rw[(hs.fresh b h').2]at h;simp at h
theorem FI (hs:Sat H g w){b:Nat}(h:g.per b=true):b<w.heap.size:=by
 rcases Jf b w.heap.size with h'|h'
 ·exact h'
 ·rw[(hs.fresh b h').1]at h;simp at h
theorem Dj (w:World)(x:Go.Obj){b:Nat}(h:b<w.heap.size):(w.alloc x).heap[b]? = w.heap[b]?:=by
 simp only[World.alloc,J6];rw[if_neg (by omega)]
theorem BQ (w:World)(x:Go.Obj):(w.alloc x).heap[w.heap.size]? = some x:=by
 simp only[World.alloc,J6,if_true]
theorem Hj {w:World}{b:Nat}{T:TypeId}{n:Nat}(h:w.shape? b=some (T,n)):b<w.heap.size:=by
 unfold World.shape? at h;rcases Jf b w.heap.size with h'|h'
 ·exact h'
 ·simp[Jk h']at h
theorem PK {w w':World}{b:Nat}(h:w'.heap[b]? = w.heap[b]?):w'.shape? b=w.shape? b:=by simp only[World.shape?,h]
def G.newPer (g:G)(nb:Nat):G:={ g with per:=fun b=>if b=nb then true else g.per b }
theorem Oy (hs:Sat H g w)(x:Go.Obj):Stp H g w H (g.newPer w.heap.size) (w.alloc x):=by
 have a9:Le g w (g.newPer w.heap.size) (w.alloc x):=by
  refine⟨fun b hb=>⟨?_,Dj _ _ (FI hs hb)⟩,fun _ _ h=>h,by simp,fun b T n hn=>?_,rfl,rfl,rfl⟩
  ·simp only[G.newPer];split
   ·rfl
   ·exact hb
  ·rw[PK (Dj _ _ (Hj hn))];exact hn
 have hk:∀l,AR g w (g.newPer w.heap.size) (w.alloc x) l:=fun l b q hb=>⟨hb,Dj _ _ (C1 hs hb)⟩;refine⟨a9,fun l _ hn=>⟨hn,fun b q hb=>hk l b q hb⟩,⟨fun b hb=>?_,hs.names,fun b y hb=>?_,hs.named,fun l=>SatObj.keep_all hs a9 hk l⟩⟩
 ·simp only[World.size_alloc]at hb;refine⟨?_,(hs.fresh b (by omega)).2⟩;simp only[G.newPer];rw[if_neg (by omega)];exact (hs.fresh b (by omega)).1
 ·have aR:g.own b=some y:=hb;simp only[G.newPer];have:=C1 hs aR;rw[if_neg (by omega)];exact hs.excl b y aR
theorem Hh (hs:Sat H g w):Stp H g w H g w.drew:=by
 have a9:Le g w g w.drew:=⟨fun _ h=>⟨h,rfl⟩,fun _ _ h=>h,Ju _,fun _ _ _ h=>h,rfl,rfl,rfl⟩;have hk:∀l,AR g w g w.drew l:=fun l b q hb=>⟨hb,rfl⟩;exact⟨a9,fun l _ hn=>⟨hn,fun b q hb=>hk l b q hb⟩,⟨hs.fresh,hs.names,hs.excl,hs.named,fun l=>SatObj.keep_all hs a9 hk l⟩⟩
theorem M9 (w:World)(cs:Array Value)(T:TypeId)(j:Nat):(w.alloc (.cells cs T)).cell? ⟨w.heap.size,j,none⟩=cs[j]?:=
 World.cell?_alloc_new w cs T j
theorem Gk {v:V}{u:Value}(h:RepV w g v u)(hn:v.cells≠[]) :
  u.cells.size=v.cells.length∧∀(j:Nat) (c:C) (x:Value),v.cells[j]? = some c→u.cells[j]? = some x→RepC w g c x:=by
 cases h with
 |c x v h=>
  have h1:=h.one;have hu:u.cells=#[u]:=by cases u <;> simp_all[Value.cells,Value.oneCell']
  rw[hu];refine⟨rfl,fun j c y e1 e2=>?_⟩
  cases j with
  |zero=>simp[V.cells]at e1 e2;subst e1;subst e2;exact h
  |succ j=>simp[V.cells]at e1
 |ag cs vs hl hh=>
  refine⟨by simpa[Value.cells,V.cells]using hl,fun j c y e1 e2=>hh j c y e1 (by simpa[Value.cells]using e2)⟩
 |_=>simp[V.cells]at hn
theorem Qb23 {x:Opd}{x':Operand}{t:TypeId}(hm:o.op=.box t x')(hx:mO x x'=true)
  (hs:Sat H g w) (he:EnvOk w g e a) (hp:p=true) (ho:(FOp.box x).obl p e H):FOk P H g w e a o (.box x):=by
 simp only[FOp.obl]at ho;obtain⟨h1,h2⟩:=ho;have hr:=Al he hx hp h1;obtain⟨hz,hc⟩:=Gk hr h2;have aF:=Oy hs (.cells (a.eval x').cells t);refine⟨.pointer (some ⟨w.heap.size,0,none⟩),w.alloc (.cells (a.eval x').cells t),g.newPer w.heap.size,?_,aF,?_,trivial⟩
 ·simp[execOp,hm,Instr.box,newVar,newRow]
 ·simp only[FOp.val];have bn:∀(j:Nat) (c:C),(x.v e).cells[j]? = some c→∃y,(a.eval x').cells[j]? = some y∧RepC w g c y:=by
   intro j c hj;have aa:j<(a.eval x').cells.size:=by
    rw[hz];rcases Jf j (x.v e).cells.length with h|h
    ·exact h
    ·rw[Je h]at hj;simp at hj
   exact⟨_,Jd aa,hc j c _ hj (Jd aa)⟩
  refine .c _ _ (.pp _ _ 0 (fun j=>(a.eval x').cells.getD j undef) (by simp[G.newPer]) (fun j c hj=>?_) (fun j c hj=>?_))
  ·obtain⟨y,e1,e2⟩:=bn j c hj;rw[J3,M9];simp[e1]
  ·obtain⟨y,e1,e2⟩:=bn j c hj;simp only[Jh,e1,Jv];exact e2.mono aF.le
theorem Qb3h {f:Nat}{caps:List Opd}{caps':Array Operand}(hm:o.op=.makeFunc (.func f) #[] caps')(hl:caps.length=caps'.size)
  (hx:∀(j:Nat) (x:Opd) (y:Operand),caps[j]? = some x→caps'[j]? = some y→mO x y=true)
  (hs:Sat H g w) (he:EnvOk w g e a) (hp:p=true) (ho:(FOp.mkf f caps).obl p e H):FOk P H g w e a o (.mkf f caps):=by
 simp only[FOp.obl]at ho;refine .mk' hs (v:=.func (.func f) #[] (caps'.toList.map a.eval).toArray) ?_ ?_ trivial
 ·simp only[execOp,hm,Instr.makeFunc,Sem.run_bind,Sem.run_pure,Result.andThen_ok];congr 4 <;> (apply Jac;simp)
 ·simp only[FOp.val];refine .c _ _ (.fn f _ _ (by simp[hl]) fun j c u h1 h2=>?_);simp only[Jo]at h1 h2
  cases hj:caps[j]? with
  |none=>rw[hj]at h1;simp at h1
  |some x=>
   rw[hj]at h1;simp at h1;subst h1
   cases dA:caps'[j]? with
   |none=>simp[dA]at h2
   |some y=>
    simp[dA]at h2;subst h2;obtain⟨f1,f2⟩:=ho x (Jg hj);have:=Al he (hx j x y hj dA) hp f1;rw[Bc f2]at this;exact this.aA
def mOpt:Option Opd→Option Operand→Bool
 |none,none=>true
 |some x,some y=>mO x y
 |_,_=>false
theorem D3 (he:EnvOk w g e a)(hp:p=true){x:Option Opd}{y:Option Operand}(h:mOpt x y=true)(hf:optF p x e)(hi:optI x e) :
  y.map a.eval=(x.map fun z=>Q2 (z.v e)).map fun n=>Value.int .i64 n:=by
 cases x with
 |none=>cases y with
  |none=>rfl
  |some _=>simp[mOpt]at h
 |some x=>cases y with
  |none=>simp[mOpt]at h
  |some y=>
   simp only[mOpt]at h;simp only[optF]at hf;simp only[optI]at hi;simp only[Js,C9 he h hp hf hi]
theorem R4 (isS:Bool)(len cap:Nat)(lo hi:Option Int)(rW:len≤cap)(hb:bnds lo hi len)(w:World) :
  (Instr.sliceBounds isS len cap (lo.map fun n=>Value.int .i64 n) (hi.map fun n=>Value.int .i64 n) none).run P w=.ok ((lo.getD 0).toNat,(hi.getD len).toNat,cap) w:=by
 obtain⟨b1,b2,b3⟩:=hb;unfold Instr.sliceBounds
 cases hi with
 |none=>
  cases lo with
  |none=>simp
  |some l=>
   simp only[Jv,Jz]at b1 b2 b3;simp only[Js,J5,Sem.run_bind,Instr.sliceBound,asIntOf,Sem.run_pure,Result.andThen_ok];rw[if_pos (by omega)];simp
 |some h=>
  cases lo with
  |none=>
   simp only[Jv,Jz]at b1 b2 b3;simp only[Js,J5,Sem.run_bind,Instr.sliceBound,asIntOf,Sem.run_pure,Result.andThen_ok];rw[if_pos (by omega)];simp
  |some l=>
   simp only[Jv]at b1 b2 b3;simp only[Js,Sem.run_bind,Instr.sliceBound,asIntOf,Sem.run_pure,Result.andThen_ok];rw[if_pos (by omega)];simp only[Sem.run_pure,Result.andThen_ok];rw[if_pos (by omega)];simp
theorem Qb3k {x:Opd}{lo hi:Option Opd}{x':Operand}{lo' dI:Option Operand}{t el:TypeId}{i:TypeInfo}{sz:Nat}(hm:o.op=.slice t x' lo' dI none)(hu:P.underlying t=some (.slice el))
  (ka:P.info? el=some i) (hz:i.size=sz) (hx:mO x x'=true) (qn:mOpt lo lo'=true) (nS:mOpt hi dI=true)
  (hs:Sat H g w) (he:EnvOk w g e a) (hp:p=true) (ho:(FOp.sli sz x lo hi).obl p e H):FOk P H g w e a o (.sli sz x lo hi):=by
 simp only[FOp.obl]at ho;obtain⟨h1,h2,h3,h4,h5,h6,h7,h8,hb⟩:=ho;have hr:=Al he hx hp h1;have el:=D3 he hp qn h2 h4;have eh:=D3 he hp nS h3 h5;generalize hL:(lo.map fun z=>Q2 (z.v e))=L at *;generalize hU:(hi.map fun z=>Q2 (z.v e))=U at *;rw[Bc h6]at hr;generalize hq:a.eval x'=vv at hr;have run:∀(ad:Option Addr) (len cap:Nat),vv=.slice ad len cap→len≤cap→bnds L U len→
   (execOp a.eval o).run P w=.ok (.value (.slice (if cap=(L.getD 0).toNat then ad else ad.map (·.add ((L.getD 0).toNat * sz))) ((U.getD len).toNat-(L.getD 0).toNat) (cap-(L.getD 0).toNat))) w:=by
  intro ad len cap hv rW mD;simp only[execOp,hm,hq,hv,Instr.sliceAt,Sem.run_bind,Qz hu,Result.andThen_ok,el,eh,J5,Instr.slice,R4 (P:=P) true len cap L U rW mD w,Bb ka,hz,Sem.run_pure]
 have fin:∀r v,(execOp a.eval o).run P w=.ok (.value v) w→RepC w g r v→sliC L U (x.v e).c1=r→FOk P H g w e a o (.sli sz x lo hi):=by
  intro r v h1 h2 h3;refine .mk' hs h1 ?_ trivial;simp only[FOp.val,hL,hU,h3];exact .c _ _ h2
 generalize hc:(x.v e).c1=cc at *;have dW:=hr.aA
 cases dW with
 |bk fl sz' ad=>
  have aR:bnds L U 0:=hb;have br:=aR;obtain⟨b1,b2,b3⟩:=br;refine fin (sliC L U (.sl fl sz' [])) _ (run ad 0 0 rfl (Ju _) aR) ?_ rfl;have e1:(L.getD 0).toNat=0:=by omega
  have e2:(U.getD ((0:Nat):Int)).toNat=0:=by omega
  simp only[e1,e2,sliC];simp;exact .bk _ _ _
 |sl fl sz' rows b off cap val hl hf ci bV dx jc ip=>
  simp only[ax]at hb;simp only[C.aQ]at h8;subst h8;obtain⟨b1,b2,b3⟩:=hb;refine fin (sliC L U (.sl fl sz' rows)) _ (run _ _ cap rfl ci ⟨b1,b2,b3⟩) ?_ rfl;simp only[sliC];generalize gO:(L.getD 0).toNat=ln;generalize i5:(U.getD (rows.length:Int)).toNat=un;have q1:ln≤un:=by omega
  have q2:un≤rows.length:=by omega
  have ai:((rows.take un).drop ln).length=un-ln:=by simp;omega
  have av:∀(i:Nat) (row:List C),((rows.take un).drop ln)[i]? = some row→rows[ln+i]? = some row:=by
   intro i row hi;simp only[Jr,Jp]at hi;split at hi
   ·exact hi
   ·simp at hi
  by_cases bP:cap=ln
  ·rw[if_pos bP];have qa:(rows.take un).drop ln=[]:=Jy.1 (by omega);have q3:un-ln=0:=by omega
   have q4:cap-ln=0:=by omega
   rw[qa,q3,q4];exact RepC.sl _ _ [] b off 0 val (by simp[Bu]) (by simp) (by simp) bV (by simp) (by simp) (by simp)
  ·rw[if_neg bP];simp only[Js,BS];rw[←ai];refine .sl _ _ _ b _ _ (fun i j=>val (ln+i) j) (by rw[ai];omega) (fun iA=>?_) (by rw[ai];omega) bV (fun i row h=>dx _ _ (av i row h)) (fun i row j c h hj=>?_) (fun i row j c h hj=>ip _ _ _ _ (av i row h) hj)
   ·rw[Ja]at iA;rcases Bool.or_eq_true _ _▸iA.2 with h0|h0
    ·have:U=none:=(by simpa using h0);subst this;simp at i5;rw[ai,hf iA.1];omega
    ·have:rows=[]:=(by simpa using h0);subst this;have:=hf iA.1;simp at this q2;omega
   ·have:=jc _ _ _ _ (av i row h) hj;rw[←this];congr 2;rw[Jm];omega
 |bf l sz' st ad=>
  have aR:bnds L U 0:=hb;have br:=aR;obtain⟨b1,b2,b3⟩:=br;refine fin (sliC L U (.aG l sz' st 0)) _ (run ad 0 0 rfl (Ju _) aR) ?_ rfl;have e1:(L.getD 0).toNat=0:=by omega
  have e2:(U.getD ((0:Nat):Int)).toNat=0:=by omega
  simp only[e1,e2,sliC];simp;exact .bf _ _ _ _
 |aG l sz' st n cap b base T m bd hn ej gX=>
  simp only[ax]at hb;simp only[C.aQ]at h8;subst h8;obtain⟨b1,b2,b3⟩:=hb;refine fin (sliC L U (.aG l sz' st n)) _ (run _ _ cap rfl hn ⟨b1,b2,b3⟩) ?_ rfl;simp only[sliC];generalize gO:(L.getD 0).toNat=ln;generalize i5:(U.getD (n:Int)).toNat=un;by_cases bP:cap=ln
  ·rw[if_pos bP];have q3:un-ln=0:=by omega
   have q4:cap-ln=0:=by omega
   rw[q3,q4];exact .bf _ _ _ _
  ·rw[if_neg bP];simp only[Js,BS];have:base+st * sz'+ln * sz'=base+(st+ln) * sz':=by rw[Jm];omega
   rw[this];refine .aG _ _ _ _ _ b base T m bd (by omega) ej ?_;have:st+ln+(cap-ln)=st+cap:=by omega
   rw[this];exact gX
 |_=>simp[bt]at h7
theorem Qb1u {x:Opd}{lo hi:Option Opd}{x':Operand}{lo' dI:Option Operand}{t:TypeId}(hm:o.op=.slice t x' lo' dI none)(hu:P.underlying t=some .string)
  (hx:mO x x'=true) (qn:mOpt lo lo'=true) (nS:mOpt hi dI=true)
  (hs:Sat H g w) (he:EnvOk w g e a) (hp:p=true) (ho:(FOp.slis x lo hi).obl p e H):FOk P H g w e a o (.slis x lo hi):=by
 simp only[FOp.obl]at ho;obtain⟨h1,h2,h3,h4,h5,hb⟩:=ho;have hr:=Al he hx hp h1;have el:=D3 he hp qn h2 h4;have eh:=D3 he hp nS h3 h5;generalize hL:(lo.map fun z=>Q2 (z.v e))=L at *;generalize hU:(hi.map fun z=>Q2 (z.v e))=U at *;split at hb
 ·rename_i s hv
  rw[hv]at hr;obtain⟨hq,hl⟩:=hr.aA.str_inv;have oN:(⟨s.toArray⟩:ByteArray).extract (L.getD 0).toNat (U.getD s.length).toNat=⟨((s.take (U.getD s.length).toNat).drop (L.getD 0).toNat).toArray⟩:=by
   apply Ja5;apply Jac;simp[J8,Ja1]
  refine .mk' hs (v:=.string ⟨((s.take (U.getD s.length).toNat).drop (L.getD 0).toNat).toArray⟩) ?_ ?_ trivial
  ·simp only[execOp,hm,hq,Instr.sliceAt,Sem.run_bind,Qz hu,Result.andThen_ok,el,eh,J5,Instr.slice,EL,Sem.run_pure];simp only[Jaf,Jq,if_false,Sem.run_bind,Sem.run_pure,Result.andThen_ok];rw[R4 (P:=P) false s.length s.length L U (Ju _) hb w];simp[oN]
  ·simp only[FOp.val,hv,hL,hU];refine .c _ _ (.str _ ?_);simp;omega
 ·exact hb.elim
theorem Qb29 {sz n:Nat}{x y:Opd}{x' y':Operand}{t el:TypeId}{i:TypeInfo}(hm:o.op=.indexAddr t x' y')(hu:P.underlying t=some (.array n el))
  (hi:P.info? el=some i) (hz:i.size=sz) (hx:mO x x'=true) (hy:mO y y'=true)
  (hs:Sat H g w) (he:EnvOk w g e a) (hp:p=true) (ho:(FOp.iaa sz n x y).obl p e H):FOk P H g w e a o (.iaa sz n x y):=by
 simp only[FOp.obl]at ho;obtain⟨h1,h2,h6,h7,h8,h9⟩:=ho;have hr:=Al he hx hp h1;have hn:=C9 he hy hp h2 h6;split at h9
 ·rename_i l k hv
  rw[hv]at hr;have cP:=hr.aA;generalize hq:a.eval x'=xv at cP
  cases cP with
  |ptr _ _ b s base bd=>
   refine .mk' hs (v:=.pointer (some ⟨b,base+k+(Q2 (y.v e)).toNat * sz,none⟩)) ?_ ?_ trivial
   ·simp only[execOp,hm,hq,hn,Instr.indexAt,Sem.run_bind,asIntOf,Sem.run_pure,Result.andThen_ok,Qz hu,Instr.sureAddr];rw[if_pos ⟨h7,h8⟩];simp[Bb hi,hz,BS]
   ·simp only[FOp.val,hv];have e:base+k+(Q2 (y.v e)).toNat * sz=base+(k+(Q2 (y.v e)).toNat * sz):=(by omega);rw[e];exact .c _ _ (.ptr l _ b s base bd)
 ·exact h9.elim
theorem Qb2z {n:Nat}{x:Opd}{x':Operand}{t el:TypeId}{i:TypeInfo}(hm:o.op=.slice t x' none none none)(bU:P.underlying t=some (.array n el))
  (hi:P.info? el=some i) (hx:mO x x'=true)
  (hs:Sat H g w) (he:EnvOk w g e a) (hp:p=true) (ho:(FOp.asl n x).obl p e H):FOk P H g w e a o (.asl n x):=by
 simp only[FOp.obl]at ho;obtain⟨h1,h2⟩:=ho;have hr:=Al he hx hp h1;split at h2
 ·rename_i l k hv
  split at h2
  ·rename_i cells hH
   rw[hv]at hr;have cP:=hr.aA;generalize hq:a.eval x'=xv at cP;have aZ:=hs.objs l;rw[hH]at aZ;obtain⟨b',sz',T,cs,k1,_⟩:=aZ
   cases cP with
   |ptr _ _ b sz base bd=>
    rw[bd]at k1;simp only[Jb,Ji]at k1;obtain⟨rfl,rfl,rfl⟩:=k1;refine .mk' hs (v:=.slice (some ⟨b,k,none⟩) n n) ?_ ?_ trivial
    ·have ha:(⟨b,0+k,none⟩:Addr)=⟨b,k,none⟩:=(by rw[J3]);rw[ha]at hq;by_cases hn:n=0
     ·subst hn;simp[execOp,hm,hq,Instr.sliceAt,Qz bU,Instr.sureAddr,Instr.sliceBounds,Bb hi,Sem.run_pure]
     ·simp[execOp,hm,hq,Instr.sliceAt,Qz bU,Instr.sureAddr,Instr.sliceBounds,Bb hi,Sem.run_pure,hn,BS]
    ·simp only[FOp.val,hv];exact .asl l k n b sz bd
  ·exact h2.elim
 ·exact h2.elim
theorem Qb3d {n b l:Nat}{t:TypeId}{d:TypeDesc}{i:TypeInfo}(hm:o.op=.load t (.global b))(hu:P.underlying t=some d)(hi:P.info? t=some i)(ha:Cq d=true)(hn:i.size=n)
  (hs:Sat H g w) (ho:(FOp.ldg n b l).obl p e H):FOk P H g w e a o (.ldg n b l):=by
 simp only[FOp.obl]at ho;split at ho
 ·rename_i b' cells hH
  obtain⟨rfl,h2⟩:=ho;have aZ:=hs.objs l;rw[hH]at aZ;obtain⟨s,val,k1,k2,k3,k4⟩:=aZ;have hq:a.eval (.global b')=.pointer (some ⟨b',0,none⟩):=rfl;have hc:∀j,j<n→w.cell? ⟨b',0+j,none⟩=some (val j):=fun j hj=>by
   rw[J3];exact k3 j _ (Jc (by omega))
  have hr:=Gd hu hi w b' 0 n val (fun _=>hn) (fun h=>by rw[ha]at h;simp at h) hc;refine .mk' hs (v:=.agg ((List.range n).map val).toArray) ?_ ?_ trivial
  ·simp only[execOp,hm,hq,Instr.loadAt,Instr.sureAddr,Sem.run_bind,Sem.run_pure,Result.andThen_ok,hr,ha,if_true]
  ·simp only[FOp.val,hH];refine .ag _ _ (by simp;omega) fun j c u h1 h2=>?_;rw[Jp]at h1;split at h1
   ·rename_i hj
    simp[hj]at h2;subst h2;exact k4 j c h1
   ·simp at h1
 ·exact ho.elim
theorem Qb3e {b l:Nat}{t:TypeId}{d:TypeDesc}{i:TypeInfo}(hm:o.op=.load t (.global b))(hu:P.underlying t=some d)(hi:P.info? t=some i)(ha:Cq d=false)
  (hs:Sat H g w) (ho:(FOp.ldo b l).obl p e H):FOk P H g w e a o (.ldo b l):=by
 simp only[FOp.obl]at ho;split at ho
 ·rename_i b' cells hH
  obtain⟨rfl,h2⟩:=ho;have aZ:=hs.objs l;rw[hH]at aZ;obtain⟨s,val,k1,k2,k3,k4⟩:=aZ;have hq:a.eval (.global b')=.pointer (some ⟨b',0,none⟩):=rfl;have h0:cells[0]? = some (cells.headD .unk):=by
   cases cells with
   |nil=>simp at h2
   |cons c r=>rfl
  have hc:∀j,j<1→w.cell? ⟨b',0+j,none⟩=some (val j):=fun j hj=>by
   obtain rfl:j=0:=by omega
   exact k3 0 _ h0
  have hr:=Gd hu hi w b' 0 1 val (fun h=>by rw[ha]at h;simp at h) (fun _=>rfl) hc;refine .mk' hs (v:=val 0) ?_ ?_ trivial
  ·simp only[execOp,hm,hq,Instr.loadAt,Instr.sureAddr,Sem.run_bind,Sem.run_pure,Result.andThen_ok,hr,ha];simp
  ·simp only[FOp.val,hH];exact .c _ _ (k4 0 _ h0)
 ·exact ho.elim
theorem Qb1j {n b l:Nat}{t el:TypeId}{i:TypeInfo}(hm:o.op=.slice t (.global b) none none none)(bU:P.underlying t=some (.array n el))(ka:P.info? el=some i)
  (hs:Sat H g w) (ho:(FOp.aslg n b l).obl p e H):FOk P H g w e a o (.aslg n b l):=by
 simp only[FOp.obl]at ho;split at ho
 ·rename_i b' cells hH
  obtain⟨rfl,h2,h3⟩:=ho;have aZ:=hs.objs l;rw[hH]at aZ;obtain⟨s,val,k1,k2,k3,k4⟩:=aZ;have hq:a.eval (.global b')=.pointer (some ⟨b',0,none⟩):=rfl;have ai:((cells.take n).map fun c=>[c]).length=n:=by simp;omega
  have av:∀(k:Nat) (row:List C),((cells.take n).map fun c=>[c])[k]? = some row→∃c,row=[c]∧cells[k]? = some c:=by
   intro k row hk;rw[Jo,Jp]at hk;split at hk
   ·cases dW:cells[k]? with
    |none=>rw[dW]at hk;simp at hk
    |some c=>rw[dW]at hk;simp at hk;exact⟨c,hk.symm,rfl⟩
   ·simp at hk
  refine .mk' hs (v:=.slice (some ⟨b',0,none⟩) n n) ?_ ?_ trivial
  ·by_cases hn:n=0
   ·subst hn;simp[execOp,hm,hq,Instr.sliceAt,Qz bU,Instr.sureAddr,Instr.sliceBounds,Bb ka,Sem.run_pure]
   ·simp[execOp,hm,hq,Instr.sliceAt,Qz bU,Instr.sureAddr,Instr.sliceBounds,Bb ka,Sem.run_pure,hn,BS]
  ·simp only[FOp.val,hH];have:=RepC.sl (w:=w) (g:=g) true 1 ((cells.take n).map fun c=>[c]) b' 0 n (fun k _=>val k) (by rw[ai];omega) (fun _=>ai.symm) (by rw[ai];omega) k2
    (fun k row hk=>by obtain⟨c,rfl,_⟩:=av k row hk;rfl)
    (fun k row j c hk hj=>by
     obtain⟨c',rfl,bK⟩:=av k row hk
     cases j with
     |zero=>simpa using k3 k c' bK
     |succ j=>simp at hj)
    (fun k row j c hk hj=>by
     obtain⟨c',rfl,bK⟩:=av k row hk
     cases j with
     |zero=>simp at hj;subst hj;exact k4 k _ bK
     |succ j=>simp at hj)
   rw[ai]at this;exact .c _ _ this
 ·exact ho.elim
theorem Qb3b {sz n:Nat}{x y:Opd}{x' y':Operand}{t el:TypeId}{d:TypeDesc}{i:TypeInfo}(hm:o.op=.index t x' y')(hu:P.underlying t=some (.array n el))
  (hd:P.underlying el=some d) (ha:Cq d=true) (hi:P.info? el=some i) (hz:i.size=sz) (hx:mO x x'=true) (hy:mO y y'=true)
  (hs:Sat H g w) (he:EnvOk w g e a) (hp:p=true) (ho:(FOp.iax sz n x y).obl p e H):FOk P H g w e a o (.iax sz n x y):=by
 simp only[FOp.obl]at ho;obtain⟨h1,h2,h6,h7,h8,h9,ie⟩:=ho;have hr:=Al he hx hp h1;have hn:=C9 he hy hp h2 h6;have hv:∃cs,x.v e=.ag cs:=by cases hv:x.v e <;> simp_all[V.isAg]
 obtain⟨cs,hv⟩:=hv;rw[hv]at hr ie;simp only[V.cells]at ie;obtain⟨vs,hq,hl,hh⟩:=hr.ag_inv;refine .mk' hs (v:=.agg ((vs.drop ((Q2 (y.v e)).toNat * sz)).take sz).toArray) ?_ ?_ trivial
 ·simp only[execOp,hm,hq,hn,Instr.index,Sem.run_bind,asIntOf,Sem.run_pure,Result.andThen_ok,Qz hu];rw[if_pos ⟨h7,h8⟩];simp only[Sem.run_bind,Bb hi,hz,Result.andThen_ok,part,EN hd,ha,if_true,Sem.run_pure];congr 4;apply Jac;simp[J8,Ja1]
 ·simp only[FOp.val,hv,V.cells];refine .ag _ _ (by simp[hl]) fun j c u h1 h2=>?_;simp only[Jp,Jr]at h1 h2;split at h1
  ·rename_i hj;rw[if_pos hj]at h2;exact hh _ _ _ h1 h2
  ·simp at h1
theorem Qb1k {n:Nat}{x:Opd}{x':Operand}{hi:Option Opd}{dI:Option Operand}{t el:TypeId}{i:TypeInfo}(hm:o.op=.slice t x' none dI none)(bU:P.underlying t=some (.array n el))
  (ka:P.info? el=some i) (hx:mO x x'=true) (nS:mOpt hi dI=true)
  (hs:Sat H g w) (he:EnvOk w g e a) (hp:p=true) (ho:(FOp.aslp n x hi).obl p e H):FOk P H g w e a o (.aslp n x hi):=by
 simp only[FOp.obl]at ho;obtain⟨h1,h3,h5,hb,d9,h2⟩:=ho;have hr:=Al he hx hp h1;have eh:=D3 he hp nS h3 h5;have eQ:(hi.map fun z=>Q2 (z.v e)).isNone=hi.isNone:=by cases hi <;> rfl
 split at h2
 ·rename_i cells hv
  rw[hv]at hr;have cP:=hr.aA;generalize hq:a.eval x'=xv at cP
  cases cP with
  |pp _ b off val bV hc ip=>
   have bY:(FOp.aslp n x hi).val e H=.c (.sl hi.isNone 1 ((cells.take ((hi.map fun x=>Q2 (x.v e)).getD n).toNat).map fun c=>[c])):=by simp only[FOp.val,hv]
   rw[←eQ]at bY;generalize hU:(hi.map fun z=>Q2 (z.v e))=U at *;have bx:=R4 (P:=P) false n n none U (Ju _) hb w;have fq:=hb;obtain⟨b1,b2,b3⟩:=fq;simp only[Jz,J5]at b1 b2 b3 bx;have e0:(U.getD (n:Int)).toNat≤n:=by omega
   refine .mk' hs (v:=.slice (some ⟨b,off,none⟩) (U.getD n).toNat n) ?_ ?_ trivial
   ·simp only[execOp,hm,hq,Instr.sliceAt,Sem.run_bind,Qz bU,Result.andThen_ok,Instr.sureAddr,Sem.run_pure,eh,J5,bx,Bb ka];have ha:(⟨b,off,none⟩:Addr).add (0 * i.size)=⟨b,off,none⟩:=(by rw[Nat.zero_mul,BS,J1]);by_cases hn:n=0
    ·subst hn;simp
    ·simp[hn,ha];try rw[BS,J1]
   ·rw[bY];have ai:((cells.take (U.getD (n:Int)).toNat).map fun c=>[c]).length=(U.getD (n:Int)).toNat:=(by simp;omega);have av:∀(k:Nat) (row:List C),((cells.take (U.getD (n:Int)).toNat).map fun c=>[c])[k]? = some row→∃c,row=[c]∧cells[k]? = some c:=by
     intro k row hk;rw[Jo,Jp]at hk;split at hk
     ·cases dW:cells[k]? with
      |none=>rw[dW]at hk;simp at hk
      |some c=>rw[dW]at hk;simp at hk;exact⟨c,hk.symm,rfl⟩
     ·simp at hk
    have:=RepC.sl (w:=w) (g:=g) U.isNone 1 ((cells.take (U.getD (n:Int)).toNat).map fun c=>[c]) b off n (fun k _=>val k) (by rw[ai];omega)
     (fun hu=>by
      have:U=none:=(by simpa using hu);subst this;rw[ai];simp) (by rw[ai];omega) bV (fun k row hk=>by obtain⟨c,rfl,_⟩:=av k row hk;rfl)
     (fun k row j c hk hj=>by
      obtain⟨c',rfl,bK⟩:=av k row hk
      cases j with
      |zero=>simp only[Nat.mul_one,J1];exact hc k c' bK
      |succ j=>simp at hj)
     (fun k row j c hk hj=>by
      obtain⟨c',rfl,bK⟩:=av k row hk
      cases j with
      |zero=>simp at hj;subst hj;exact ip k c' bK
      |succ j=>simp at hj)
    rw[ai]at this;exact .c _ _ this
 ·exact h2.elim
theorem KL {r:List C}(h:Eg r=true):∃n,r=[.int .u8 n]:=by
 unfold Eg at h;split at h
 ·exact⟨_,rfl⟩
 ·cases h
def Ef:List C→Int
 |.int _ n::_=>n
 |_=>0
theorem Qb20 {x:Opd}{x':Operand}{src dst el:TypeId}(hm:o.op=.convert src dst x')(hu:P.underlying dst=some .string)(oA:P.underlying src=some (.slice el))(bU:P.underlying el=some (.int .u8))(hx:mO x x'=true)
  (hs:Sat H g w) (he:EnvOk w g e a) (hp:p=true) (ho:(FOp.b2s x).obl p e H):FOk P H g w e a o (.b2s x):=by
 simp only[FOp.obl]at ho;obtain⟨h1,h2⟩:=ho;have hr:=Al he hx hp h1;split at h2
 ·rename_i fl z rows hv
  obtain⟨rfl,h3⟩:=h2;rw[hv]at hr;have cP:=hr.aA;have bY:(FOp.b2s x).val e H=.c (.str (rows.map Dt)):=by simp only[FOp.val,hv]
  generalize hq:a.eval x'=xv at cP
  cases cP with
  |bk _ _ ad=>
   refine .mk' hs (v:=.string ⟨([]:List UInt8).toArray⟩) ?_ ?_ trivial
   ·simp only[execOp,hm,hq,Sem.run_bind];rw[run_convert_bytes_string w src dst el ad 0 0 oA bU hu]
    cases ad with
    |none=>rfl
    |some ad=>
     have:=run_bytesToString (P:=P) w ad 0 0 [] (run_loadCells_list (P:=P) w ad [] fun j v hj=>by simp at hj);rw[this];rfl
   ·rw[bY];exact .c _ _ (.str [] (by simp[LIM]))
  |sl _ _ _ b off cap val hl hf ci bV dx jc ip=>
   have jn:∀i,i<rows.length→w.cell? ⟨b,off+i,none⟩=some (.int .u8 ((rows.map Ef).getD i 0)):=by
    intro i hi;have kO:rows[i]? = some rows[i]:=Jc hi;obtain⟨n,hn⟩:=KL (Jaa.1 h3 _ (List.getElem_mem hi));rw[hn]at kO;have e1:=jc i _ 0 (.int .u8 n) kO rfl;have e2:=(ip i _ 0 (.int .u8 n) kO rfl).aB;rw[Nat.mul_one,J1]at e1;rw[e1,e2];simp[Jx,kO,Ef]
   refine .mk' hs (v:=.string ⟨(rows.map Dt).toArray⟩) ?_ ?_ trivial
   ·have:=run_convert_bytes_arg w src el oA bU b off rows.length cap (rows.map Ef) (by simp) jn dst hu
    have e3:strOfNums (rows.map Ef)=⟨(rows.map Dt).toArray⟩:=by
     unfold strOfNums;congr 2;rw[Jbc];refine List.map_congr_left fun r hr=>?_;obtain⟨n,rfl⟩:=KL (Jaa.1 h3 r hr);rfl
    rw[e3]at this;simp only[execOp,hm,hq,Sem.run_bind,this,Result.andThen_ok,Sem.run_pure]
   ·rw[bY];exact .c _ _ (.str _ (by simpa using hl))
 ·exact h2.elim
theorem Qb3l {sz:Nat}{x hi:Opd}{x' ft rm:Operand}{t el:TypeId}{i:TypeInfo}(hm:o.op=.slice t x' none (some ft) (some rm))(hu:P.underlying t=some (.slice el))
  (ka:P.info? el=some i) (hx:mO x x'=true) (jF:mO hi ft=true) (qB:mO hi rm=true)
  (hs:Sat H g w) (he:EnvOk w g e a) (hp:p=true) (ho:(FOp.slm sz x hi).obl p e H):FOk P H g w e a o (.slm sz x hi):=by
 simp only[FOp.obl]at ho;obtain⟨h1,h2,h3,h4,h5⟩:=ho;have hr:=Al he hx hp h1;have e1:=C9 he jF hp h2 h3;have e2:=C9 he qB hp h2 h3;split at h5
 ·rename_i fl z rows hv
  obtain⟨rfl,h6⟩:=h5;rw[hv]at hr;have cP:=hr.aA;have bY:(FOp.slm z x hi).val e H=.c (.sl true z (rows.take (Q2 (hi.v e)).toNat)):=by simp only[FOp.val,hv]
  generalize Q2 (hi.v e)=n at *;obtain⟨n,rfl⟩:=Int.eq_ofNat_of_zero_le h4;have h7:n≤rows.length:=by omega
  simp only[Jao]at bY;generalize hq:a.eval x'=xv at cP;have run:∀(ad:Option Addr) (len cap:Nat),xv=.slice ad len cap→n≤cap→
    (execOp a.eval o).run P w=.ok (.value (.slice (if n=0 then ad else ad.map (·.add (0 * i.size))) n n)) w:=by
   intro ad len cap dO ci;have hb:(Instr.sliceBounds true len cap none (some (.int .i64 (n:Int))) (some (.int .i64 (n:Int)))).run P w=.ok (0,n,n) w:=by
    unfold Instr.sliceBounds;simp only[Sem.run_bind,Instr.sliceBound,asIntOf,Sem.run_pure,Result.andThen_ok];rw[if_pos ⟨Ja6 _,by omega⟩];simp only[Sem.run_pure,Result.andThen_ok,Jao];rw[if_pos ⟨Ja6 _,Int.le_refl _⟩];simp only[Sem.run_pure,Result.andThen_ok,Jao]
   simp only[execOp,hm,hq,dO,Instr.sliceAt,Sem.run_bind,Qz hu,Result.andThen_ok,e1,e2,Js,J5,Instr.slice,hb,Bb ka,Sem.run_pure,Nat.sub_zero]
  cases cP with
  |bk _ _ ad=>
   have h0:n=0:=by simpa using h7
   subst h0;refine .mk' hs (run ad 0 0 rfl (Ju _)) ?_ trivial;rw[bY];exact .c _ _ (.bk _ _ _)
  |sl _ _ _ b off cap val hl hf ci bV dx jc ip=>
   refine .mk' hs (run _ _ cap rfl (by omega)) ?_ trivial;rw[bY];have ha:(if n=0 then (some ⟨b,off,none⟩:Option Addr)else (some ⟨b,off,none⟩:Option Addr).map (·.add (0 * i.size)))=some ⟨b,off,none⟩:=by
    split
    ·rfl
    ·simp only[Js,Nat.zero_mul,BS,J1]
   rw[ha];have ai:(rows.take n).length=n:=by simp;omega
   have av:∀(k:Nat) (row:List C),(rows.take n)[k]? = some row→rows[k]? = some row:=by
    intro k row hk;rw[Jp]at hk;split at hk
    ·exact hk
    ·simp at hk
   have:=RepC.sl (w:=w) (g:=g) true z (rows.take n) b off n val (by rw[ai];omega) (fun _=>by rw[ai]) (by rw[ai];exact Ju _) bV (fun k row hk=>dx _ _ (av k row hk))
    (fun k row j c hk hj=>jc _ _ _ _ (av k row hk) hj) (fun k row j c hk hj=>ip _ _ _ _ (av k row hk) hj)
   rw[ai]at this;exact .c _ _ this
 ·exact h5.elim
theorem Qb28 {off n:Nat}{agg:Bool}{x:Opd}{x':Operand}{s:TypeId}{k:Nat}{fs:Array Field}{f:Field}{i:TypeInfo}{d:TypeDesc}(hm:o.op=.field s x' k)(hu:P.underlying s=some (.struct fs))
  (hf:fs[k]? = some f) (jA:f.offset=off) (hi:P.info? f.type=some i) (hd:P.underlying f.type=some d) (ha:Cq d=agg) (hn:agg=true→i.size=n) (cA:agg=false→n=1) (hx:mO x x'=true)
  (hs:Sat H g w) (he:EnvOk w g e a) (hp:p=true) (ho:(FOp.fld off n agg x).obl p e H):FOk P H g w e a o (.fld off n agg x):=by
 simp only[FOp.obl]at ho;obtain⟨h1,h2,h3⟩:=ho;have hr:=Al he hx hp h1;have hv:∃cs,x.v e=.ag cs:=by cases hv:x.v e <;> simp_all[V.isAg]
 obtain⟨cs,hv⟩:=hv;rw[hv]at hr h3;simp only[V.cells]at h3;obtain⟨vs,hq,hl,hh⟩:=hr.ag_inv
 cases agg with
 |true=>
  have hz:=hn rfl;refine .mk' hs (v:=.agg ((vs.drop off).take n).toArray) ?_ ?_ trivial
  ·simp only[execOp,hm,hq,Instr.field,Sem.run_bind,Qz hu,Result.andThen_ok,hf,asAgg,Sem.run_pure,part,EN hd,ha,if_true,Bb hi,hz,jA];congr 4;apply Jac;simp[J8,Ja1]
  ·simp only[FOp.val,Cw,hv,V.cells,if_true];refine .ag _ _ (by simp;omega) fun j c u h1 h2=>?_;simp only[Jp,Jr]at h1 h2;split at h1
   ·rename_i hj;rw[if_pos hj]at h2;exact hh _ _ _ h1 h2
   ·simp at h1
 |false=>
  have hz:=cA rfl;subst hz;have aa:off<vs.length:=by omega
  refine .mk' hs (v:=vs[off]) ?_ ?_ trivial
  ·simp only[execOp,hm,hq,Instr.field,Sem.run_bind,Qz hu,Result.andThen_ok,hf,asAgg,Sem.run_pure,part,EN hd,ha,jA];simp[aa]
  ·simp only[FOp.val,Cw,hv,V.cells,Jq,if_false];have cQ:off<cs.length:=by omega
   have:((cs.drop off).take 1).headD .unk=cs[off]:=by
    rw[List.drop_eq_getElem_cons cQ];rfl
   rw[this];exact .c _ _ (hh off _ _ (Jc cQ) (Jc aa))
theorem Fp (off:Nat):∀(vs:List Value) (s:Nat) (cs:Array Value) (k:Nat),off+s+vs.length≤cs.size→
  ((vs.zipIdx s).foldl (fun (cs:Array Value) (x:Value×Nat)=>cs.setIfInBounds (off+x.2) x.1) cs).size=cs.size∧
  ((vs.zipIdx s).foldl (fun (cs:Array Value) (x:Value×Nat)=>cs.setIfInBounds (off+x.2) x.1) cs)[k]? =
   if off+s≤k∧k<off+s+vs.length then vs[k-(off+s)]? else cs[k]?
 |[],s,cs,k,_=>by
  refine⟨rfl,?_⟩;rw[if_neg (by simp only[Jax];omega)];rfl
 |v::vs,s,cs,k,h=>by
  simp only[Jai]at h;have ih:=Fp off vs (s+1) (cs.setIfInBounds (off+s) v) k (by simp;omega);simp only[List.zipIdx_cons,List.foldl_cons];refine⟨by rw[ih.1];simp,?_⟩;rw[ih.2];simp only[Jai];by_cases h1:off+(s+1)≤k∧k<off+(s+1)+vs.length
  ·rw[if_pos h1,if_pos (by omega)];have:k-(off+s)=(k-(off+(s+1)))+1:=by omega
   rw[this,List.getElem?_cons_succ]
  ·rw[if_neg h1];by_cases h2:k=off+s
   ·subst h2;rw[if_pos (by omega)];simp only[Nat.sub_self,List.getElem?_cons_zero];rw[Array.getElem?_setIfInBounds_self_of_lt (by omega)]
   ·rw[if_neg (by omega),Jw (by omega)]
theorem K6 {place:Nat→Option (Nat×Nat)}{cells:Array Value}{i off sz:Nat}{v:Value}{rest:List (Nat×Value)}(hp:place i=some (off,sz))(hz:v.cells.size=sz)
  (hb:off+sz≤cells.size):∃cs:Array Value,Instr.fill place cells ((i,v)::rest)=Instr.fill place cs rest∧cs.size=cells.size∧
   ∀k,cs[k]? = if off≤k∧k<off+sz then v.cells[k-off]? else cells[k]?:=by
 have hf:=fun k=>Fp off v.cells.toList 0 cells k (by simp;omega);refine⟨v.cells.zipIdx.foldl (fun (cs:Array Value) (x:Value×Nat)=>cs.setIfInBounds (off+x.2) x.1) cells,?_,?_,fun k=>?_⟩
 ·simp only[Instr.fill,hp];rw[if_neg (by simp;omega)]
 ·rw[←Ja4,Ja2];exact (hf 0).1
 ·rw[←Ja4,Ja2,(hf k).2];simp only[J1,Array.length_toList,hz,Jt]
def RepL (w:World)(g:G)(cs:List C)(vs:Array Value):Prop:=
 vs.size=cs.length∧∀(j:Nat) (c:C) (u:Value),cs[j]? = some c→vs[j]? = some u→RepC w g c u
theorem RepL.put {cs ps:List C}{vs us vs':Array Value}{off:Nat}(h:RepL w g cs vs)(hp:RepL w g ps us)(hb:off+ps.length≤cs.length)(be:vs'.size=vs.size)
  (hv:∀k,vs'[k]? = if off≤k∧k<off+ps.length then us[k-off]? else vs[k]?) :
  RepL w g (cs.take off++ps++cs.drop (off+ps.length)) vs':=by
 refine⟨by rw[be,h.1];simp;omega,fun j c u h1 h2=>?_⟩;rw[hv]at h2;by_cases hj:off≤j∧j<off+ps.length
 ·rw[if_pos hj]at h2;rw[J0,Jl (by simp;omega),Jj (by simp;omega)]at h1;refine hp.2 _ c u ?_ h2;rw[←h1];congr 1;simp;omega
 ·rw[if_neg hj]at h2;refine h.2 j c u ?_ h2;by_cases hl:j<off
  ·rw[J0,Jj (by simp;omega),Jp,if_pos hl]at h1;exact h1
  ·rw[Jl (by simp;omega),Jr]at h1;rw[←h1];congr 1;simp;omega
def Ea:C→Value→Bool
 |.int k n,.int k' n'=>k == k'&&n == n'
 |.bool b,.bool b'=>b == b'
 |.str [],.string b=>decide (b.data.toList=[])
 |.sl _ _ [],.slice none 0 0=>true
 |.pnil,.pointer none=>true
 |.mnil,.map none=>true
 |.fnil,.nilFunc=>true
 |_,_=>false
theorem KU {c:C}{v:Value}(h:Ea c v=true):RepC w g c v:=by
 unfold Ea at h;split at h
 ·simp at h;obtain⟨rfl,rfl⟩:=h;exact .int _ _
 ·simp at h;subst h;exact .bool _
 ·rename_i b
  have hb:b=⟨([]:List UInt8).toArray⟩:=by
   apply Ja5;apply Jac;simpa using h
  rw[hb];exact .str _ (by simp[Bu])
 ·exact .bk _ _ _
 ·exact .pnil
 ·exact .mnil
 ·exact .fnil
 ·simp at h
def B1 (cs:List C)(v:Value):Bool:=cs.length == v.cells.size&&(cs.zip v.cells.toList).all fun x=>Ea x.1 x.2
theorem Ft {cs:List C}{v:Value}(h:B1 cs v=true):RepL w g cs v.cells:=by
 unfold B1 at h;rw[Ja,Jaa]at h;obtain⟨h1,h2⟩:=h;refine⟨by simpa using (beq_iff_eq.1 h1).symm,fun j c u e1 e2=>KU (h2 (c,u) ?_)⟩;have:(cs.zip v.cells.toList)[j]? = some (c,u):=by
  rw[Jan];exact⟨e1,by simpa using e2⟩
 exact Jg this
theorem BM {t:TypeId}{i:TypeInfo}{z:Value}(hi:P.info? t=some i)(hz:i.zero=some z)(w:World):(zeroValue t).run P w=.ok z w:=by
 simp[zeroValue,Fx hi,hz]
theorem Qa5o (fs:List Field)(h:∀f∈fs,∃i,P.info? f.type=some i)(w:World) :
  (fs.mapM fun f=>(do pure (f.offset,←sizeOf f.type):Sem (Nat×Nat))).run P w=.ok (fs.map fun f=>(f.offset,P.cellsOf f.type)) w:=by
 induction fs with
 |nil=>simp
 |cons f fs ih=>
  obtain⟨i,hi⟩:=h f (by simp);have ih':=ih fun f hf=>h f (by simp[hf]);simp only[List.mapM_cons,Sem.run_bind,Bb hi,Result.andThen_ok,Sem.run_pure,ih',List.map_cons,Qa91 hi]
theorem OF (place:Nat→Option (Nat×Nat)):∀(parts:List (Nat×Nat×List C)) (ps:List (Nat×Value)) (cells:Array Value) (cs:List C),
  RepL w g cs cells→ps.length=parts.length→
  (∀(j:Nat) (x:Nat×Nat×List C) (y:Nat×Value),parts[j]? = some x→ps[j]? = some y→place y.1=some (x.1,x.2.1)∧x.2.2.length=x.2.1∧x.1+x.2.1≤cs.length∧RepL w g x.2.2 y.2.cells)→
  ∃out,Instr.fill place cells ps=some out∧RepL w g (DA cs (parts.map fun x=>(x.1,x.2.2))) out
 |[],[],cells,cs,h,_,_=>⟨cells,rfl,h⟩
 |[],y::ps,_,_,_,hl,_=>by simp at hl
 |x::parts,[],_,_,_,hl,_=>by simp at hl
 |x::parts,(i,v)::ps,cells,cs,h,hl,hh=>by
  obtain⟨h1,h2,h3,h4⟩:=hh 0 x (i,v) rfl rfl;obtain⟨cs',f1,f2,f3⟩:=K6 (rest:=ps) (cells:=cells) h1 (by rw[h4.1,h2]) (by rw[h.1];exact h3);have hr:RepL w g (cs.take x.1++x.2.2++cs.drop (x.1+x.2.2.length)) cs':=h.put h4 (by rw[h2];exact h3) f2 (by rw[h2];exact f3);obtain⟨out,o1,o2⟩:=OF place parts ps cs' _ hr (by simpa using hl) (fun j x' y' e1 e2=>by
   obtain⟨q1,q2,q3,q4⟩:=hh (j+1) x' y' (by simpa using e1) (by simpa using e2);refine⟨q1,q2,?_,q4⟩;have:(cs.take x.1++x.2.2++cs.drop (x.1+x.2.2.length)).length=cs.length:=by simp;omega
   rw[this];exact q3)
  exact⟨out,f1.trans o1,by simpa[DA]using o2⟩
theorem HD {v:V}{u:Value}(h:RepV w g v u)(hn:v.cells≠[]):RepL w g v.cells u.cells:=Gk h hn
theorem Qb22 {zero:List C}{parts:List (Nat×Nat×Opd)}{t:TypeId}{parts':Array (Nat×Operand)}{fs:Array Field}{i:TypeInfo}{z:Value}
  (hm:o.op=.build t parts') (hu:P.underlying t=some (.struct fs)) (hi:P.info? t=some i) (hz:i.zero=some z) (aY:B1 zero z=true)
  (gZ:∀f∈fs.toList,∃i,P.info? f.type=some i) (hl:parts.length=parts'.size)
  (hx:∀(j:Nat) (x:Nat×Nat×Opd) (y:Nat×Operand),parts[j]? = some x→parts'[j]? = some y→
   mO x.2.2 y.2=true∧(∃f,fs[y.1]? = some f∧f.offset=x.1∧P.cellsOf f.type=x.2.1)∧x.1+x.2.1≤zero.length∧x.2.1≠0)
  (hs:Sat H g w) (he:EnvOk w g e a) (hp:p=true) (ho:(FOp.bld zero parts).obl p e H):FOk P H g w e a o (.bld zero parts):=by
 simp only[FOp.obl]at ho;have ai:(parts'.toList.map fun (x:Nat×Operand)=>(x.1,a.eval x.2)).length=(parts.map fun q=>(q.1,q.2.1,(q.2.2.v e).cells)).length:=by simp[hl]
 obtain⟨out,f1,f2⟩:=OF (w:=w) (g:=g) (fun (j:Nat)=>(fs.toList.map fun f=>(f.offset,P.cellsOf f.type))[j]?) (parts.map fun q=>(q.1,q.2.1,(q.2.2.v e).cells))
  (parts'.toList.map fun (x:Nat×Operand)=>(x.1,a.eval x.2)) z.cells zero (Ft aY) ai (fun j x y e1 e2=>by
   simp only[Jo]at e1 e2
   cases hj:parts[j]? with
   |none=>rw[hj]at e1;simp at e1
   |some q=>
    cases dA:parts'.toList[j]? with
    |none=>rw[dA]at e2;simp at e2
    |some y'=>
     rw[hj]at e1;rw[dA]at e2;simp only[Js,Jb]at e1 e2;subst e1;subst e2;obtain⟨m1,⟨f,m2,m3,m4⟩,m5,m6⟩:=hx j q y' hj (by simpa using dA);obtain⟨o1,o2⟩:=ho q (Jg hj);refine⟨?_,o2,m5,HD (Al he m1 hp o1) (fun hn=>m6 (by rw[←o2,hn];rfl))⟩;simp only[Jo,Jt,m2,Js,m3,m4])
 have gN:(fs.mapM fun f=>(do pure (f.offset,←sizeOf f.type):Sem (Nat×Nat))).run P w=.ok ((fs.toList.map fun f=>(f.offset,P.cellsOf f.type)).toArray) w:=by
  rw[Array.mapM_eq_mapM_toList];simp only[Sem.run_map,Qa5o fs.toList gZ w,Result.andThen_ok]
 refine .mk' hs (v:=.agg out) ?_ ?_ trivial
 ·simp only[execOp,hm,Instr.build,Sem.run_bind,BM hi hz,Result.andThen_ok,Qz hu,gN];have:(fun (x:Nat)=>((fs.toList.map fun f=>(f.offset,P.cellsOf f.type)).toArray)[x]?)=(fun (j:Nat)=>(fs.toList.map fun f=>(f.offset,P.cellsOf f.type))[j]?):=by
   funext j;simp
  rw[this];have mr:(parts'.map fun (x:Nat×Operand)=>(x.1,a.eval x.2)).toList=parts'.toList.map fun (x:Nat×Operand)=>(x.1,a.eval x.2):=by simp
  rw[mr,f1];simp
 ·simp only[FOp.val];have cH:out=out.toList.toArray:=by simp
  rw[cH];refine .ag _ _ ?_ ?_
  ·have:=f2.1;simp only[Jbc,Ja8]at this;simpa using this
  ·intro j c u h1 h2;refine f2.2 j c u ?_ (by simpa using h2);simpa only[Jbc,Ja8]using h1
theorem Gw (size:Nat):∀(ps:List (Nat×Value)) (s:Nat) (cells:Array Value),(∀(j:Nat) (y:Nat×Value),ps[j]? = some y→y.1=s+j∧y.2.cells.size=size)→
  (s+ps.length) * size≤cells.size→
  ∃out:Array Value,Instr.fill (fun i=>some (i * size,size)) cells ps=some out∧out.size=cells.size∧
   (∀k,k<s * size→out[k]? = cells[k]?)∧
   ∀(j:Nat) (y:Nat×Value) (k:Nat),ps[j]? = some y→k<size→out[(s+j) * size+k]? = y.2.cells[k]?
 |[],s,cells,_,_=>⟨cells,rfl,rfl,fun _ _=>rfl,by simp⟩
 |(i,v)::ps,s,cells,h,hb=>by
  obtain⟨h1,h2⟩:=h 0 (i,v) rfl;simp only[J1]at h1 h2;subst h1;have aR:(i+1+ps.length) * size≤cells.size:=by
   have e:i+((i,v)::ps).length=i+1+ps.length:=by simp only[Jai];omega
   rw[e]at hb;exact hb
  have gM:i * size+size≤cells.size:=by
   have:(i+1) * size≤(i+1+ps.length) * size:=Jn _ (by omega);rw[Jm,Jag]at this;omega
  obtain⟨cs,f1,f2,f3⟩:=K6 (place:=fun i=>some (i * size,size)) (rest:=ps) (cells:=cells) (i:=i) (v:=v) rfl h2 gM;obtain⟨out,o1,o2,o3,o4⟩:=Gw size ps (i+1) cs (fun j y hj=>by
   have:=h (j+1) y (by simpa using hj);exact⟨by rw[this.1];omega,this.2⟩) (by rw[f2];exact aR)
  refine⟨out,f1.trans o1,o2.trans f2,fun k hk=>?_,fun j y k hj hk=>?_⟩
  ·rw[o3 k (by rw[Jm];omega),f3 k,if_neg (by omega)]
  ·cases j with
   |zero=>
    simp at hj;subst hj;simp only[J1];rw[o3 _ (by rw[Jm];omega),f3 _,if_pos (by omega)];congr 1;omega
   |succ j=>
    have:=o4 j y k (by simpa using hj) hk;rw[←this];congr 3;omega
theorem Qb24 {sz:Nat}{parts:List Opd}{t el:TypeId}{n:Nat}{parts':Array (Nat×Operand)}{i:TypeInfo}{z:Value}
  (hm:o.op=.buildSlice t n parts') (hu:P.underlying t=some (.slice el)) (hi:P.info? el=some i) (hz:i.zero=some z) (be:i.size=sz) (kE:sz≠0)
  (hn:n=parts'.size) (lU:n * sz≤2 ^ 24) (hl:parts.length=parts'.size)
  (hx:∀(j:Nat) (x:Opd) (y:Nat×Operand),parts[j]? = some x→parts'[j]? = some y→y.1=j∧mO x y.2=true)
  (hs:Sat H g w) (he:EnvOk w g e a) (hp:p=true) (ho:(FOp.bw sz parts).obl p e H):FOk P H g w e a o (.bw sz parts):=by
 simp only[FOp.obl]at ho;have mr:(parts'.map fun (x:Nat×Operand)=>(x.1,a.eval x.2)).toList=parts'.toList.map fun (x:Nat×Operand)=>(x.1,a.eval x.2):=by simp
 have bn:∀(j:Nat) (y:Nat×Value),(parts'.toList.map fun (x:Nat×Operand)=>(x.1,a.eval x.2))[j]? = some y→
   ∃x y',parts[j]? = some x∧parts'[j]? = some y'∧y=(y'.1,a.eval y'.2):=by
  intro j y hj;simp only[Jo]at hj
  cases dA:parts'.toList[j]? with
  |none=>rw[dA]at hj;simp at hj
  |some y'=>
   rw[dA]at hj;simp at hj;have aa:j<parts.length:=by
    rw[hl];rcases Jf j parts'.size with h|h
    ·exact h
    ·simp[Jk h]at dA
   exact⟨_,y',Jc aa,by simpa using dA,hj.symm⟩
 have av:∀x∈parts,x.fine p e∧(x.v e).cells.length=sz∧(x.v e).cells≠[]:=fun x hx=>by
  obtain⟨q1,q2⟩:=ho x hx;exact⟨q1,q2,fun hn=>kE (by rw[←q2,hn];rfl)⟩
 have fP:(parts'.toList.map fun (x:Nat×Operand)=>(x.1,a.eval x.2)).length=n:=by simp[hn]
 obtain⟨out,f1,f2,f3,f4⟩:=Gw sz (parts'.toList.map fun (x:Nat×Operand)=>(x.1,a.eval x.2)) 0
  ((Array.range (n * sz)).map ((if n * sz=0 then #[]else z.cells)[· % (if n * sz=0 then #[]else z.cells).size]!)) (fun j y hj=>by
   obtain⟨x,y',e1,e2,rfl⟩:=bn j y hj;obtain⟨q1,q2⟩:=hx j x y' e1 e2;obtain⟨q3,q4,q5⟩:=av x (Jg e1);refine⟨by simp[q1],?_⟩;rw[(HD (Al he q2 hp q3) q5).1,q4]) (by rw[fP];simp)
 have aF:=Oy hs (.cells out el);refine⟨.slice (some ⟨w.heap.size,0,none⟩) n n,w.alloc (.cells out el),g.newPer w.heap.size,?_,aF,?_,trivial⟩
 ·simp only[execOp,hm,Instr.buildSlice,Sem.run_bind,Qz hu,Result.andThen_ok,Bb hi,be,mr];rw[if_neg (by omega)];by_cases h0:n * sz=0
  ·simp only[if_pos h0]at f1⊢;simp only[Sem.run_bind,Sem.run_pure,Result.andThen_ok];rw[f1];simp[newRow]
  ·simp only[if_neg h0]at f1⊢;simp only[Sem.run_bind,Sem.run_pure,Result.andThen_ok,BM hi hz];rw[f1];simp[newRow]
 ·simp only[FOp.val];have eS:(parts.map fun x=>(x.v e).cells).length=n:=by simp[hl,hn]
  refine .c _ _ ?_;have ju:∀(k:Nat) (row:List C),(parts.map fun x=>(x.v e).cells)[k]? = some row→∃x y,parts[k]? = some x∧parts'[k]? = some y∧row=(x.v e).cells:=by
   intro k row hk;simp only[Jo]at hk
   cases hj:parts[k]? with
   |none=>rw[hj]at hk;simp at hk
   |some x=>
    rw[hj]at hk;simp at hk;have aa:k<parts'.size:=by
     rw[←hl];rcases Jf k parts.length with h|h
     ·exact h
     ·rw[Je h]at hj;simp at hj
    exact⟨x,parts'[k],rfl,Jd aa,hk.symm⟩
  have bW:∀(k:Nat) (row:List C) (j:Nat) (c:C),(parts.map fun x=>(x.v e).cells)[k]? = some row→row[j]? = some c→∃u,out[0+k * sz+j]? = some u∧RepC w g c u:=by
   intro k row j c hk hj;obtain⟨x,y,e1,e2,rfl⟩:=ju k row hk;obtain⟨q1,q2⟩:=hx k x y e1 e2;obtain⟨q3,q4,q5⟩:=av x (Jg e1);have hr:=HD (Al he q2 hp q3) q5;have eM:j<sz:=by
    rw[←q4];rcases Jf j (x.v e).cells.length with h|h
    ·exact h
    ·rw[Je h]at hj;simp at hj
   have lB:j<(a.eval y.2).cells.size:=by rw[hr.1,q4];exact eM
   have:=f4 k (y.1,a.eval y.2) j (by simp only[Jo,Jt,e2,Js]) eM;simp only[J3]at this⊢;rw[this];exact⟨_,Jd lB,hr.2 j c _ hj (Jd lB)⟩
  have:=RepC.sl (w:=w.alloc (.cells out el)) (g:=g.newPer w.heap.size) true sz (parts.map fun x=>(x.v e).cells) w.heap.size 0 n (fun k j=>out.getD (0+k * sz+j) undef)
   (by rw[eS,Bu]
       have cA:n * 1≤n * sz:=Ja3 _ (by omega);have rl:(2:Nat) ^ 24=16777216:=(by decide);rw[rl]at lU;omega) (fun _=>eS.symm) (by rw[eS];exact Ju _) (by simp[G.newPer])
   (fun k row hk=>by obtain⟨x,y,e1,e2,rfl⟩:=ju k row hk;exact (av x (Jg e1)).2.1)
   (fun k row j c hk hj=>by
    obtain⟨u,e1,e2⟩:=bW k row j c hk hj;rw[M9,Jh,e1];rfl)
   (fun k row j c hk hj=>by
    obtain⟨u,e1,e2⟩:=bW k row j c hk hj;simp only[Jh,e1,Jv];exact e2.mono aF.le)
  rw[eS]at this;exact this
end Go.AE
namespace Go.AE
open Go.MapKept (IsKey findNow_spec run_checkKey run_findKey run_keyThatStays)
variable {P:Program}{H:Heap}{g:G}{w:World}{e:Env}{a:Act}{o:Oper}{p:Bool}
def tagD:Nat→TypeDesc
 |0=>.int .i64
 |1=>.string
 |_=>.bool
theorem CN {tag:Nat}{k:C}{es:List (C×V)}(h:Br tag k es){v:Value}(hr:RepC w g k v):IsKey (tagD tag) v:=by
 unfold Br at h;split at h
 ·rw[hr.aB];simp[tagD,IsKey]
 ·rw[hr.str_inv.1];simp[tagD,IsKey]
 ·rw[hr.bh];simp[tagD,IsKey]
 ·exact h.elim
theorem Ys {tag:Nat}{k:C}{es:List (C×V)}(h:Br tag k es){x:C×V}(hx:x∈es){v:Value}(hr:RepC w g x.1 v):IsKey (tagD tag) v:=by
 unfold Br at h;split at h
 ·obtain⟨n,hn⟩:=h x hx;rw[hn]at hr;rw[hr.aB];simp[tagD,IsKey]
 ·obtain⟨n,hn⟩:=h x hx;rw[hn]at hr;rw[hr.str_inv.1];simp[tagD,IsKey]
 ·obtain⟨n,hn⟩:=h x hx;rw[hn]at hr;rw[hr.bh];simp[tagD,IsKey]
 ·exact h.elim
theorem En {tag:Nat}{k:C}{es:List (C×V)}(h:Br tag k es){x:C×V}(hx:x∈es){u v:Value}(hr:RepC w g k u)(aP:RepC w g x.1 v) :
  AM k x.1=true↔v=u:=by
 unfold Br at h;split at h
 ·obtain⟨n,hn⟩:=h x hx;rw[hn]at aP⊢;rw[aP.aB,hr.aB];simp only[AM,decide_eq_true_eq,Value.int.injEq,true_and];exact eq_comm
 ·obtain⟨n,hn⟩:=h x hx;rw[hn]at aP⊢;rw[aP.str_inv.1,hr.str_inv.1];simp only[AM,decide_eq_true_eq,Value.string.injEq,Jbj,Array.mk.injEq];exact eq_comm
 ·obtain⟨n,hn⟩:=h x hx;rw[hn]at aP⊢;rw[aP.bh,hr.bh];simp only[AM,beq_iff_eq,Value.bool.injEq];exact eq_comm
 ·exact h.elim
theorem K5:∀(es:List (C×V)) (k:C) (j:Nat) (x:C×V),es[j]? = some x→AM k x.1=true→(∀i y,i<j→es[i]? = some y→AM k y.1=false)→AI k es=some x.2
 |[],_,_,_,h,_,_=>by simp at h
 |y::es,k,0,x,h,hk,_=>by simp at h;subst h;simp[AI,hk]
 |y::es,k,j+1,x,h,hk,hh=>by
  have h0:=hh 0 y (by omega) rfl;simp only[AI,h0,Jq,if_false];exact K5 es k j x (by simpa using h) hk fun i z hi hz=>hh (i+1) z (by omega) (by simpa using hz)
theorem OE:∀(es:List (C×V)) (k:C),(∀x∈es,AM k x.1=false)→AI k es=none
 |[],_,_=>rfl
 |y::es,k,h=>by
  simp only[AI,h y (by simp),Jq,if_false];exact OE es k fun x hx=>h x (by simp[hx])
theorem HY {tag:Nat}{k:C}{es:List (C×V)}{ms:Array MapEntry}(aM:Br tag k es){kv:Value}(hk:RepC w g k kv)(be:ms.size=es.length)
  (hE:∀(i:Nat) (x:C×V) (m:MapEntry),es[i]? = some x→ms[i]? = some m→RepE w g x m)
  (hd:∀(i j:Nat) (m m':MapEntry),ms[i]? = some m→ms[j]? = some m'→(m.born=m'.born∨m.key=m'.key)→i=j) :
  (Instr.findNow (tagD tag) kv ms.toList 0=some none∧AI k es=none∧∀x∈es,AM k x.1=false)∨
  ∃j m x,Instr.findNow (tagD tag) kv ms.toList 0=some (some (j,m.val))∧ms[j]? = some m∧m.key=kv∧es[j]? = some x∧AI k es=some x.2∧AM k x.1=true∧
   ∀i y,i<j→es[i]? = some y→AM k y.1=false:=by
 have pair:∀(i:Nat) (m:MapEntry),ms[i]? = some m→∃x,es[i]? = some x:=by
  intro i m hm;have:i<es.length:=by
   rw[←be];rcases Jf i ms.size with h|h
   ·exact h
   ·rw[Jk h]at hm;simp at hm
  exact⟨_,Jc this⟩
 have pair':∀(i:Nat) (x:C×V),es[i]? = some x→∃m,ms[i]? = some m:=by
  intro i x hx;have:i<ms.size:=by
   rw[be];rcases Jf i es.length with h|h
   ·exact h
   ·rw[Je h]at hx;simp at hx
  exact⟨_,Jd this⟩
 have nM:∀m∈ms.toList,IsKey (tagD tag) m.key:=by
  intro m hm;obtain⟨i,hi⟩:=J4 hm;obtain⟨x,hx⟩:=pair i m (by simpa using hi);exact Ys aM (Jg hx) (hE i x m hx (by simpa using hi)).1
 rcases findNow_spec (CN aM hk) ms.toList 0 nM with ⟨h1,h2⟩|⟨j,m,h1,h2,h3⟩
 ·have bg:∀x∈es,AM k x.1=false:=by
   intro x hx;obtain⟨i,hi⟩:=J4 hx;obtain⟨m,hm⟩:=pair' i x hi;have:=h2 m (by have:=Jg (l:=ms.toList) (i:=i) (a:=m) (by simpa using hm);exact this)
   cases hq:AM k x.1 with
   |false=>rfl
   |true=>exact absurd ((En aM hx hk (hE i x m hi hm).1).1 hq) this
  exact .inl ⟨h1,OE es k bg,bg⟩
 ·have hm:ms[j]? = some m:=by simpa using h2
  obtain⟨x,hx⟩:=pair j m hm;have hq:=(En aM (Jg hx) hk (hE j x m hx hm).1).2 h3;have iZ:∀i y,i<j→es[i]? = some y→AM k y.1=false:=by
   intro i y hi hy;obtain⟨m',dz⟩:=pair' i y hy
   cases hq':AM k y.1 with
   |false=>rfl
   |true=>
    have e1:=(En aM (Jg hy) hk (hE i y m' hy dz).1).1 hq';have:=hd i j m' m dz hm (.inr (e1.trans h3.symm));omega
  exact .inr ⟨j,m,x,by simpa using h1,hm,h3,hx,K5 es k j x hx hq iZ,hq,iZ⟩
def CH:V→Value→Bool
 |.c x,v=>Ea x v
 |.ag cs,.agg vs=>B1 cs (.agg vs)
 |_,_=>false
theorem Hv {x:V}{v:Value}(h:CH x v=true):RepV w g x v:=by
 unfold CH at h;split at h
 ·exact .c _ _ (KU h)
 ·rename_i cs vs
  have:=Ft (w:=w) (g:=g) h;obtain⟨h1,h2⟩:=this;have hv:vs=vs.toList.toArray:=by simp
  rw[hv];exact .ag cs vs.toList (by simpa[Value.cells]using h1) fun j c u e1 e2=>h2 j c u e1 (by simpa[Value.cells]using e2)
 ·simp at h
theorem Qb3g {tag:Nat}{zero:V}{x k:Opd}{x' k':Operand}{t kt et:TypeId}{i:TypeInfo}{z:Value}(hm:o.op=.lookup t x' k' false)(hu:P.underlying t=some (.map kt et))
  (hk:P.underlying kt=some (tagD tag)) (hi:P.info? et=some i) (hz:i.zero=some z) (aY:CH zero z=true) (hx:mO x x'=true) (mz:mO k k'=true)
  (hs:Sat H g w) (he:EnvOk w g e a) (hp:p=true) (ho:(FOp.lup tag zero x k).obl p e H):FOk P H g w e a o (.lup tag zero x k):=by
 simp only[FOp.obl]at ho;obtain⟨h1,h2,h3,h4,h5,h6⟩:=ho;have hr:=Al he hx hp h1;have iR:=Al he mz hp h2;rw[Bc h3]at hr;rw[Bc h4]at iR;have jE:=iR.aA;have ce:=CN h6 jE;have fY:(v:Value)→(AI (k.v e).c1 (Q6 H (x.v e).c1)).getD zero=(FOp.lup tag zero x k).val e H:=fun _=>rfl;generalize dW:(x.v e).c1=cc at *;generalize bD:(k.v e).c1=kc at *;have iC:=hr.aA;generalize fj:a.eval x'=xv at iC hr;have lQ:=iC
 cases iC with
 |mp l b bd=>
  simp only[B4]at h5;split at h5
  ·rename_i n es hH
   have aZ:=hs.objs l;rw[hH]at aZ;obtain⟨b',ms,clock,k1,k2,k3,k4,k5,k6,k7,k8⟩:=aZ;rw[bd]at k1;simp only[Jb,Ji,and_true]at k1;subst k1;simp only[Q6,hH]at h6;have de:(getObj b).run P w=.ok (.map ms clock) w:=by simp[getObj,Sem.run,k3]
   rcases HY h6 jE k4 k6 k8 with ⟨f1,f2,f3⟩|⟨j,m,y,f1,f2,f3,f4,f5,f6,f7⟩
   ·refine .mk' hs (v:=z) ?_ ?_ trivial
    ·simp only[execOp,hm,fj,Instr.lookup,Sem.run_bind,Qz hu,Result.andThen_ok,de,Sem.run_pure,run_checkKey hk ce _ 9999,run_findKey hk f1,BM hi hz];simp
    ·simp only[FOp.val,dW,bD,Q6,hH,f2,Jz];exact Hv aY
   ·refine .mk' hs (v:=m.val) ?_ ?_ trivial
    ·simp only[execOp,hm,fj,Instr.lookup,Sem.run_bind,Qz hu,Result.andThen_ok,de,Sem.run_pure,run_checkKey hk ce _ 9999,run_findKey hk f1];simp
    ·simp only[FOp.val,dW,bD,Q6,hH,f5,Jv];exact (k6 j y m f4 f2).2
  ·exact h5.elim
 |cm _ _ _ b0=>
  obtain⟨b,ms,clock,q1,q2,q3,q4,q5,q6⟩:=FL (H:=H) lQ;simp only[Value.map.injEq,Jb]at q1;subst q1;have de:(getObj b0).run P w=.ok (.map ms clock) w:=by simp only[getObj,Sem.run,q2]
  rcases HY h6 jE q3 q5 q6 with ⟨f1,f2,f3⟩|⟨j,m,y,f1,f2,f3,f4,f5,f6,f7⟩
  ·refine .mk' hs (v:=z) ?_ ?_ trivial
   ·simp only[execOp,hm,fj,Instr.lookup,Sem.run_bind,Qz hu,Result.andThen_ok,de,Sem.run_pure,run_checkKey hk ce _ 9999,run_findKey hk f1,BM hi hz];simp
   ·simp only[FOp.val,dW,bD,f2,Jz];exact Hv aY
  ·refine .mk' hs (v:=m.val) ?_ ?_ trivial
   ·simp only[execOp,hm,fj,Instr.lookup,Sem.run_bind,Qz hu,Result.andThen_ok,de,Sem.run_pure,run_checkKey hk ce _ 9999,run_findKey hk f1];simp
   ·simp only[FOp.val,dW,bD,f5,Jv];exact (q5 j y m f4 f2).2
 |mnil=>
  refine .mk' hs (v:=z) ?_ ?_ trivial
  ·have fx:Instr.findNow (tagD tag) (a.eval k') ([]:List MapEntry) 0=some none:=rfl;have qJ:=run_findKey (P:=P) (w:=w) (kt:=kt) (k:=a.eval k') (l:=[]) hk fx;simp only[execOp,hm,fj,Instr.lookup,Sem.run_bind,Qz hu,Result.andThen_ok,Sem.run_pure,run_checkKey hk ce _ 9999,qJ,BM hi hz];simp
  ·simp only[FOp.val,dW,bD,Q6,AI,Jz];exact Hv aY
 |_=>simp[B4]at h5
theorem Qb1s {tag:Nat}{zero:V}{x k:Opd}{x' k':Operand}{t kt et:TypeId}{i:TypeInfo}{z:Value}(hm:o.op=.lookup t x' k' true)(hu:P.underlying t=some (.map kt et))
  (hk:P.underlying kt=some (tagD tag)) (hi:P.info? et=some i) (hz:i.zero=some z) (aY:CH zero z=true) (hx:mO x x'=true) (mz:mO k k'=true)
  (hs:Sat H g w) (he:EnvOk w g e a) (hp:p=true) (ho:(FOp.lup2 tag zero x k).obl p e H):FOk P H g w e a o (.lup2 tag zero x k):=by
 simp only[FOp.obl]at ho;obtain⟨h1,h2,h3,h4,h5,h6⟩:=ho;have hr:=Al he hx hp h1;have iR:=Al he mz hp h2;rw[Bc h3]at hr;rw[Bc h4]at iR;have jE:=iR.aA;have ce:=CN h6 jE;have two:∀{y:V} {v:Value} {b:Bool},RepV w g y v→RepV w g (.tup [y,.c (.bool b)]) (.tuple #[v,.bool b]):=fun {y v b} h=>
  .tup [y,.c (.bool b)] [v,.bool b] rfl fun j x u e1 e2=>by
   match j with
   |0=>cases e1;cases e2;exact h
   |1=>cases e1;cases e2;exact .c _ _ (.bool b)
   |j+2=>simp at e1
 generalize dW:(x.v e).c1=cc at *;generalize bD:(k.v e).c1=kc at *;have iC:=hr.aA;generalize fj:a.eval x'=xv at iC hr;have lQ:=iC
 cases iC with
 |mp l b bd=>
  simp only[B4]at h5;split at h5
  ·rename_i n es hH
   have aZ:=hs.objs l;rw[hH]at aZ;obtain⟨b',ms,clock,k1,k2,k3,k4,k5,k6,k7,k8⟩:=aZ;rw[bd]at k1;simp only[Jb,Ji,and_true]at k1;subst k1;simp only[Q6,hH]at h6;have de:(getObj b).run P w=.ok (.map ms clock) w:=by simp[getObj,Sem.run,k3]
   rcases HY h6 jE k4 k6 k8 with ⟨f1,f2,f3⟩|⟨j,m,y,f1,f2,f3,f4,f5,f6,f7⟩
   ·refine .mk' hs (v:=.tuple #[z,.bool false]) ?_ ?_ trivial
    ·simp only[execOp,hm,fj,Instr.lookup,Sem.run_bind,Qz hu,Result.andThen_ok,de,Sem.run_pure,run_checkKey hk ce _ 9999,run_findKey hk f1,BM hi hz];simp
    ·simp only[FOp.val,dW,bD,Q6,hH,f2,Jz,Jaf];exact two (Hv aY)
   ·refine .mk' hs (v:=.tuple #[m.val,.bool true]) ?_ ?_ trivial
    ·simp only[execOp,hm,fj,Instr.lookup,Sem.run_bind,Qz hu,Result.andThen_ok,de,Sem.run_pure,run_checkKey hk ce _ 9999,run_findKey hk f1];simp
    ·simp only[FOp.val,dW,bD,Q6,hH,f5,Jv,Option.isSome_some];exact two (k6 j y m f4 f2).2
  ·exact h5.elim
 |cm _ _ _ b0=>
  obtain⟨b,ms,clock,q1,q2,q3,q4,q5,q6⟩:=FL (H:=H) lQ;simp only[Value.map.injEq,Jb]at q1;subst q1;have de:(getObj b0).run P w=.ok (.map ms clock) w:=by simp only[getObj,Sem.run,q2]
  rcases HY h6 jE q3 q5 q6 with ⟨f1,f2,f3⟩|⟨j,m,y,f1,f2,f3,f4,f5,f6,f7⟩
  ·refine .mk' hs (v:=.tuple #[z,.bool false]) ?_ ?_ trivial
   ·simp only[execOp,hm,fj,Instr.lookup,Sem.run_bind,Qz hu,Result.andThen_ok,de,Sem.run_pure,run_checkKey hk ce _ 9999,run_findKey hk f1,BM hi hz];simp
   ·simp only[FOp.val,dW,bD,f2,Jz,Jaf];exact two (Hv aY)
  ·refine .mk' hs (v:=.tuple #[m.val,.bool true]) ?_ ?_ trivial
   ·simp only[execOp,hm,fj,Instr.lookup,Sem.run_bind,Qz hu,Result.andThen_ok,de,Sem.run_pure,run_checkKey hk ce _ 9999,run_findKey hk f1];simp
   ·simp only[FOp.val,dW,bD,f5,Jv,Option.isSome_some];exact two (q5 j y m f4 f2).2
 |mnil=>
  refine .mk' hs (v:=.tuple #[z,.bool false]) ?_ ?_ trivial
  ·have fx:Instr.findNow (tagD tag) (a.eval k') ([]:List MapEntry) 0=some none:=rfl;have qJ:=run_findKey (P:=P) (w:=w) (kt:=kt) (k:=a.eval k') (l:=[]) hk fx;simp only[execOp,hm,fj,Instr.lookup,Sem.run_bind,Qz hu,Result.andThen_ok,Sem.run_pure,run_checkKey hk ce _ 9999,qJ,BM hi hz];simp
  ·simp only[FOp.val,dW,bD,Q6,AI,Jz,Jaf];exact two (Hv aY)
 |_=>simp[B4]at h5
end Go.AE
namespace Go.AE
variable {P:Program}{H:Heap}{g:G}{w:World}{e:Env}{a:Act}{o:Oper}{p:Bool}
def CX (P:Program)(fs:Array Field)(zl:Nat):List (Nat×Nat×Opd)→List (Nat×Operand)→Bool
 |[],[]=>true
 |(off,sz,x)::r,(i,y)::r'=>mO x y&&(match fs[i]? with
   |some f=>f.offset == off&&P.cellsOf f.type == sz
   |none=>false)&&decide (off+sz≤zl)&&decide (sz≠0)&&CX P fs zl r r'
 |_,_=>false
def mRow:Nat→List Opd→List (Nat×Operand)→Bool
 |_,[],[]=>true
 |k,x::r,(i,y)::r'=>i == k&&mO x y&&mRow (k+1) r r'
 |_,_,_=>false
def mOs:List Opd→List Operand→Bool
 |[],[]=>true
 |x::r,y::r'=>mO x y&&mOs r r'
 |_,_=>false
theorem Hk:∀(xs:List Opd) (ys:List Operand),mOs xs ys=true→xs.length=ys.length∧∀(j:Nat) (x:Opd) (y:Operand),xs[j]? = some x→ys[j]? = some y→mO x y=true
 |[],[],_=>⟨rfl,by simp⟩
 |[],_::_,h=>by simp[mOs]at h
 |_::_,[],h=>by simp[mOs]at h
 |x::r,y::r',h=>by
  simp only[mOs,Ja]at h;obtain⟨h1,h2⟩:=Hk r r' h.2;refine⟨by simp[h1],fun j x' y' e1 e2=>?_⟩
  cases j with
  |zero=>simp at e1 e2;subst e1;subst e2;exact h.1
  |succ j=>exact h2 j x' y' (by simpa using e1) (by simpa using e2)
theorem MD {fs:Array Field}{zl:Nat}:∀(xs:List (Nat×Nat×Opd)) (ys:List (Nat×Operand)),CX P fs zl xs ys=true→
  xs.length=ys.length∧∀(j:Nat) (x:Nat×Nat×Opd) (y:Nat×Operand),xs[j]? = some x→ys[j]? = some y→
   mO x.2.2 y.2=true∧(∃f,fs[y.1]? = some f∧f.offset=x.1∧P.cellsOf f.type=x.2.1)∧x.1+x.2.1≤zl∧x.2.1≠0
 |[],[],_=>⟨rfl,by simp⟩
 |[],_::_,h=>by simp[CX]at h
 |_::_,[],h=>by simp[CX]at h
 |(off,sz,x)::r,(i,y)::r',h=>by
  simp only[CX,Ja,decide_eq_true_eq]at h;obtain⟨⟨⟨⟨h1,h2⟩,h3⟩,h4⟩,h5⟩:=h;obtain⟨k1,k2⟩:=MD r r' h5;refine⟨by simp[k1],fun j x' y' e1 e2=>?_⟩
  cases j with
  |zero=>
   simp at e1 e2;subst e1;subst e2;refine⟨h1,?_,h3,h4⟩;split at h2
   ·rename_i f hf;simp at h2;exact⟨f,hf,h2.1,h2.2⟩
   ·simp at h2
  |succ j=>exact k2 j x' y' (by simpa using e1) (by simpa using e2)
theorem Gf:∀(k:Nat) (xs:List Opd) (ys:List (Nat×Operand)),mRow k xs ys=true→
  xs.length=ys.length∧∀(j:Nat) (x:Opd) (y:Nat×Operand),xs[j]? = some x→ys[j]? = some y→y.1=k+j∧mO x y.2=true
 |_,[],[],_=>⟨rfl,by simp⟩
 |_,[],_::_,h=>by simp[mRow]at h
 |_,_::_,[],h=>by simp[mRow]at h
 |k,x::r,(i,y)::r',h=>by
  simp only[mRow,Ja,beq_iff_eq]at h;obtain⟨⟨h1,h2⟩,h3⟩:=h;obtain⟨k1,k2⟩:=Gf (k+1) r r' h3;refine⟨by simp[k1],fun j x' y' e1 e2=>?_⟩
  cases j with
  |zero=>simp at e1 e2;subst e1;subst e2;exact⟨by simp[h1],h2⟩
  |succ j=>
   have:=k2 j x' y' (by simpa using e1) (by simpa using e2);exact⟨by rw[this.1];omega,this.2⟩
def BU (P:Program)(t:TypeId)(n:Nat)(agg:Bool):Bool:=
 match P.underlying t,P.info? t with
 |some d,some i=>Cq d == agg&&(if agg then i.size == n else n == 1)
 |_,_=>false
theorem Hz {t:TypeId}{n:Nat}{agg:Bool}(h:BU P t n agg=true) :
  ∃d i,P.underlying t=some d∧P.info? t=some i∧Cq d=agg∧(agg=true→i.size=n)∧(agg=false→n=1):=by
 unfold BU at h;split at h
 ·rename_i d i hd hi
  simp only[Ja,beq_iff_eq]at h;refine⟨d,i,hd,hi,h.1,fun ha=>?_,fun ha=>?_⟩
  ·subst ha;simpa using h.2
  ·subst ha;simpa using h.2
 ·simp at h
def By (P:Program)(t:TypeId)(sz:Nat):Bool:=
 match P.info? t with
 |some i=>i.size == sz
 |none=>false
theorem EV {t:TypeId}{sz:Nat}(h:By P t sz=true):∃i,P.info? t=some i∧i.size=sz:=by
 unfold By at h;split at h
 ·rename_i i hi;exact⟨i,hi,by simpa using h⟩
 ·simp at h
def Cx (P:Program)(t:TypeId)(zero:List C):Bool:=
 match P.info? t with
 |some i=>(match i.zero with
  |some z=>B1 zero z
  |none=>false)
 |none=>false
theorem Hy {t:TypeId}{zero:List C}(h:Cx P t zero=true):∃i z,P.info? t=some i∧i.zero=some z∧B1 zero z=true:=by
 unfold Cx at h;split at h
 ·rename_i i hi
  split at h
  ·rename_i z hz;exact⟨i,z,hi,hz,h⟩
  ·simp at h
 ·simp at h
def Ds (d:TypeDesc)(tag:Nat):Bool:=
 match d,tag with
 |.int .i64,0=>true
 |.string,1=>true
 |.bool,2=>true
 |_,_=>false
theorem GE {d:TypeDesc}{tag:Nat}(h:Ds d tag=true):d=tagD tag:=by
 unfold Ds at h;split at h <;> first|rfl|simp at h
def mF (P:Program)(o:Oper):FOp→Bool
 |.mv x=>match o.op with
  |.move y=>mO x y
  |.assign y=>mO x y
  |_=>false
 |.pick c a b=>match o.op with
  |.pick c' a' b'=>mO c c'&&mO a a'&&mO b b'
  |_=>false
 |.bin tag op a b=>match o.op with
  |.binOp op' t a' b' _=>op == op'&&mTag P tag t&&mO a a'&&mO b b'
  |_=>false
 |.not a=>match o.op with
  |.unOp .not _ a'=>mO a a'
  |_=>false
 |.fad off a=>match o.op with
  |.fieldAddr s y k=>mO a y&&(match P.underlying s with
   |some (.struct fs)=>(match fs[k]? with
    |some f=>f.offset == off&&(match P.info? f.type with
     |some i=>decide (i.size≠0)
     |none=>false)
    |none=>false)
   |_=>false)
  |_=>false
 |.iad sz a i=>match o.op with
  |.indexAddr t a' i'=>mO a a'&&mO i i'&&(match P.underlying t with
   |some (.slice el)=>By P el sz
   |_=>false)
  |_=>false
 |.ld n agg a=>match o.op with
  |.load t a'=>mO a a'&&BU P t n agg
  |_=>false
 |.nck a=>match o.op with
  |.nilCheck a'=>mO a a'
  |_=>false
 |.len a=>match o.op with
  |.call { callee:=.builtin .len,args:=⟨[a']⟩,argTypes:=ats }=>mO a a'&&(match ats[0]? with
   |some t=>(match P.underlying t with
    |some (.slice _)=>true
    |_=>false)
   |none=>false)
  |_=>false
 |.lenx a=>match o.op with
  |.call { callee:=.builtin .len,args:=⟨[a']⟩,argTypes:=ats }=>mO a a'&&(match ats[0]? with
   |some t=>(match P.underlying t with
    |some (.slice _)=>true
    |_=>false)
   |none=>false)
  |_=>false
 |.lens a=>match o.op with
  |.call { callee:=.builtin .len,args:=⟨[a']⟩,argTypes:=ats }=>mO a a'&&(match ats[0]? with
   |some t=>(match P.underlying t with
    |some .string=>true
    |_=>false)
   |none=>false)
  |_=>false
 |.lensx a=>match o.op with
  |.call { callee:=.builtin .len,args:=⟨[a']⟩,argTypes:=ats }=>mO a a'&&(match ats[0]? with
   |some t=>(match P.underlying t with
    |some .string=>true
    |_=>false)
   |none=>false)
  |_=>false
 |.lenm a=>match o.op with
  |.call { callee:=.builtin .len,args:=⟨[a']⟩,argTypes:=ats }=>mO a a'&&(match ats[0]? with
   |some t=>(match P.underlying t with
    |some (.map _ _)=>true
    |_=>false)
   |none=>false)
  |_=>false
 |.sli sz a lo hi=>match o.op with
  |.slice t a' lo' dI none=>mO a a'&&mOpt lo lo'&&mOpt hi dI&&(match P.underlying t with
   |some (.slice el)=>By P el sz
   |_=>false)
  |_=>false
 |.iaa sz n a i=>match o.op with
  |.indexAddr t a' i'=>mO a a'&&mO i i'&&(match P.underlying t with
   |some (.array m el)=>m == n&&By P el sz
   |_=>false)
  |_=>false
 |.aslp n a hi=>match o.op with
  |.slice t a' none dI none=>mO a a'&&mOpt hi dI&&(match P.underlying t with
   |some (.array m el)=>m == n&&(P.info? el).isSome
   |_=>false)
  |_=>false
 |.slm sz a hi=>match o.op with
  |.slice t a' none (some h1) (some h2)=>mO a a'&&mO hi h1&&mO hi h2&&(match P.underlying t with
   |some (.slice el)=>By P el sz
   |_=>false)
  |_=>false
 |.b2s a=>match o.op with
  |.convert src dst a'=>mO a a'&&(match P.underlying dst,P.underlying src with
   |some .string,some (.slice el)=>(match P.underlying el with
    |some (.int k)=>k == .u8
    |_=>false)
   |_,_=>false)
  |_=>false
 |.ldg n b _=>match o.op with
  |.load t (.global b')=>b' == b&&BU P t n true
  |_=>false
 |.ldo b _=>match o.op with
  |.load t (.global b')=>b' == b&&BU P t 1 false
  |_=>false
 |.aslg n b _=>match o.op with
  |.slice t (.global b') none none none=>b' == b&&(match P.underlying t with
   |some (.array m el)=>m == n&&(P.info? el).isSome
   |_=>false)
  |_=>false
 |.iax sz n a i=>match o.op with
  |.index t a' i'=>mO a a'&&mO i i'&&(match P.underlying t with
   |some (.array m el)=>m == n&&BU P el sz true
   |_=>false)
  |_=>false
 |.asl n a=>match o.op with
  |.slice t a' none none none=>mO a a'&&(match P.underlying t with
   |some (.array m el)=>m == n&&(P.info? el).isSome
   |_=>false)
  |_=>false
 |.slis a lo hi=>match o.op with
  |.slice t a' lo' dI none=>mO a a'&&mOpt lo lo'&&mOpt hi dI&&(match P.underlying t with
   |some .string=>true
   |_=>false)
  |_=>false
 |.ext a i=>match o.op with
  |.extract a' i'=>mO a a'&&i == i'
  |_=>false
 |.fld off n agg a=>match o.op with
  |.field s y k=>mO a y&&(match P.underlying s with
   |some (.struct fs)=>(match fs[k]? with
    |some f=>f.offset == off&&BU P f.type n agg
    |none=>false)
   |_=>false)
  |_=>false
 |.idx a i=>match o.op with
  |.index t a' i'=>mO a a'&&mO i i'&&(match P.underlying t with
   |some .string=>true
   |_=>false)
  |_=>false
 |.bld zero parts=>match o.op with
  |.build t parts'=>(match P.underlying t with
   |some (.struct fs)=>Cx P t zero&&fs.toList.all (fun f=>(P.info? f.type).isSome)&&CX P fs zero.length parts parts'.toList
   |_=>false)
  |_=>false
 |.bw sz parts=>match o.op with
  |.buildSlice t n parts'=>n == parts'.size&&decide (n * sz≤2 ^ 24)&&mRow 0 parts parts'.toList&&decide (sz≠0)&&(match P.underlying t with
   |some (.slice el)=>By P el sz&&(match P.info? el with
    |some i=>i.zero.isSome
    |none=>false)
   |_=>false)
  |_=>false
 |.box a=>match o.op with
  |.box _ a'=>mO a a'
  |_=>false
 |.cvt k a=>match o.op with
  |.convert src dst a'=>mO a a'&&(match P.underlying dst,P.underlying src with
   |some (.int k'),some _=>k == k'
   |_,_=>false)
  |_=>false
 |.mkf f caps=>match o.op with
  |.makeFunc (.func f') ⟨[]⟩ caps'=>f == f'&&mOs caps caps'.toList
  |_=>false
 |.lup tag zero m k=>match o.op with
  |.lookup t m' k' false=>mO m m'&&mO k k'&&(match P.underlying t with
   |some (.map kt et)=>(match P.underlying kt with
    |some d=>Ds d tag
    |none=>false)&&(match P.info? et with
    |some i=>(match i.zero with
     |some z=>CH zero z
     |none=>false)
    |none=>false)
   |_=>false)
  |_=>false
 |.lup2 tag zero m k=>match o.op with
  |.lookup t m' k' true=>mO m m'&&mO k k'&&(match P.underlying t with
   |some (.map kt et)=>(match P.underlying kt with
    |some d=>Ds d tag
    |none=>false)&&(match P.info? et with
    |some i=>(match i.zero with
     |some z=>CH zero z
     |none=>false)
    |none=>false)
   |_=>false)
  |_=>false
 |.mx a b=>match o.op with
  |.call { callee:=.builtin .max,args:=⟨[a',b']⟩,argTypes:=_ }=>mO a a'&&mO b b'
  |_=>false
 |.mn a b=>match o.op with
  |.call { callee:=.builtin .min,args:=⟨[a',b']⟩,argTypes:=_ }=>mO a a'&&mO b b'
  |_=>false
theorem LH {op:FOp}(hm:mF P o op=true)(hs:Sat H g w)(he:EnvOk w g e a)(hp:p=true)(ho:op.obl p e H):FOk P H g w e a o op:=by
 cases op with
 |mv x=>
  simp only[mF]at hm;split at hm
  ·exact s_mv (.inl ‹_›) hm hs he hp ho
  ·exact s_mv (.inr ‹_›) hm hs he hp ho
  ·simp at hm
 |pick c x y=>
  simp only[mF]at hm;split at hm
  ·simp only[Ja]at hm;exact Qb1t ‹_› hm.1.1 hm.1.2 hm.2 hs he hp ho
  ·simp at hm
 |bin tag bo x y=>
  simp only[mF]at hm;split at hm
  ·simp only[Ja,beq_iff_eq]at hm;obtain⟨⟨⟨rfl,h2⟩,h3⟩,h4⟩:=hm;exact Qb21 ‹_› h2 h3 h4 hs he hp ho
  ·simp at hm
 |not x=>
  simp only[mF]at hm;split at hm
  ·exact Qb3j ‹_› hm hs he hp ho
  ·simp at hm
 |fad off x=>
  simp only[mF]at hm;split at hm
  ·rename_i s y k aK
   rw[Ja]at hm;obtain⟨h1,h2⟩:=hm;split at h2
   ·rename_i fs gZ
    split at h2
    ·rename_i f hf
     rw[Ja]at h2;obtain⟨h3,h4⟩:=h2;split at h4
     ·rename_i i hi
      exact Qb27 aK gZ hf (by simpa using h3) hi (by simpa using h4) h1 hs he hp ho
     ·simp at h4
    ·simp at h2
   ·simp at h2
  ·simp at hm
 |iad sz x y=>
  simp only[mF]at hm;split at hm
  ·rename_i t x' y' aK
   simp only[Ja]at hm;obtain⟨⟨h1,h2⟩,h3⟩:=hm;split at h3
   ·rename_i el dB
    obtain⟨i,hi,hz⟩:=EV h3;exact Qb3a aK dB hi hz h1 h2 hs he hp ho
   ·simp at h3
  ·simp at hm
 |ld n agg x=>
  simp only[mF]at hm;split at hm
  ·rename_i t x' aK
   rw[Ja]at hm;obtain⟨d,i,h1,h2,h3,h4,h5⟩:=Hz hm.2;exact s_ld aK h1 h2 h3 h4 h5 hm.1 hs he hp ho
  ·simp at hm
 |nck x=>
  simp only[mF]at hm;split at hm
  ·exact Qb3i ‹_› hm hs he hp ho
  ·simp at hm
 |len x=>
  simp only[mF]at hm;split at hm
  ·rename_i x' ats aK
   rw[Ja]at hm;obtain⟨h1,h2⟩:=hm;split at h2
   ·rename_i t ht
    split at h2
    ·exact Qb3f aK ht ‹_› h1 hs he hp ho
    ·simp at h2
   ·simp at h2
  ·simp at hm
 |lenx x=>
  simp only[mF]at hm;split at hm
  ·rename_i x' ats aK
   rw[Ja]at hm;obtain⟨h1,h2⟩:=hm;split at h2
   ·rename_i t ht
    split at h2
    ·exact Qb1r aK ht ‹_› h1 hs he hp ho
    ·simp at h2
   ·simp at h2
  ·simp at hm
 |lens x=>
  simp only[mF]at hm;split at hm
  ·rename_i x' ats aK
   rw[Ja]at hm;obtain⟨h1,h2⟩:=hm;split at h2
   ·rename_i t ht
    split at h2
    ·exact Qb1q aK ht ‹_› h1 hs he hp ho
    ·simp at h2
   ·simp at h2
  ·simp at hm
 |lensx x=>
  simp only[mF]at hm;split at hm
  ·rename_i x' ats aK
   rw[Ja]at hm;obtain⟨h1,h2⟩:=hm;split at h2
   ·rename_i t ht
    split at h2
    ·exact T1 aK ht ‹_› h1 hs he hp ho
    ·simp at h2
   ·simp at h2
  ·simp at hm
 |lenm x=>
  simp only[mF]at hm;split at hm
  ·rename_i x' ats aK
   rw[Ja]at hm;obtain⟨h1,h2⟩:=hm;split at h2
   ·rename_i t ht
    split at h2
    ·exact Qb1p aK ht ‹_› h1 hs he hp ho
    ·simp at h2
   ·simp at h2
  ·simp at hm
 |sli sz x lo hi=>
  simp only[mF]at hm;split at hm
  ·rename_i t x' lo' dI aK
   simp only[Ja]at hm;obtain⟨⟨⟨h1,h2⟩,h3⟩,h4⟩:=hm;split at h4
   ·rename_i el dB
    obtain⟨i,hi,hz⟩:=EV h4;exact Qb3k aK dB hi hz h1 h2 h3 hs he hp ho
   ·simp at h4
  ·simp at hm
 |iaa sz n x y=>
  simp only[mF]at hm;split at hm
  ·rename_i t x' y' aK
   simp only[Ja]at hm;obtain⟨⟨h1,h2⟩,h3⟩:=hm;split at h3
   ·rename_i m el dB
    rw[Ja,beq_iff_eq]at h3;obtain⟨rfl,h3⟩:=h3;obtain⟨i,hi,hz⟩:=EV h3;exact Qb29 aK dB hi hz h1 h2 hs he hp ho
   ·simp at h3
  ·simp at hm
 |aslp n x hi=>
  simp only[mF]at hm;split at hm
  ·rename_i t x' dI aK
   simp only[Ja]at hm;obtain⟨⟨h1,h4⟩,h2⟩:=hm;split at h2
   ·rename_i m el bU
    rw[Ja,beq_iff_eq]at h2;obtain⟨rfl,h3⟩:=h2;obtain⟨i,hi⟩:=J2.1 h3;exact Qb1k aK bU hi h1 h4 hs he hp ho
   ·simp at h2
  ·simp at hm
 |slm sz x hi=>
  simp only[mF]at hm;split at hm
  ·rename_i t x' ft rm aK
   simp only[Ja]at hm;obtain⟨⟨⟨h1,h2⟩,h3⟩,h4⟩:=hm;split at h4
   ·rename_i el dB
    obtain⟨i,hi,hz⟩:=EV h4;exact Qb3l aK dB hi h1 h2 h3 hs he hp ho
   ·simp at h4
  ·simp at hm
 |b2s x=>
  simp only[mF]at hm;split at hm
  ·rename_i src dst x' aK
   simp only[Ja]at hm;obtain⟨h1,h2⟩:=hm;split at h2
   ·rename_i el hd px
    split at h2
    ·rename_i k hk
     simp only[beq_iff_eq]at h2;subst h2;exact Qb20 aK hd px hk h1 hs he hp ho
    ·simp at h2
   ·simp at h2
  ·simp at hm
 |ldg n b l=>
  simp only[mF]at hm;split at hm
  ·rename_i t b' aK
   simp only[Ja,beq_iff_eq]at hm;obtain⟨rfl,h2⟩:=hm;obtain⟨d,i,k1,k2,k3,k4,k5⟩:=Hz h2;exact Qb3d aK k1 k2 k3 (k4 rfl) hs ho
  ·simp at hm
 |ldo b l=>
  simp only[mF]at hm;split at hm
  ·rename_i t b' aK
   simp only[Ja,beq_iff_eq]at hm;obtain⟨rfl,h2⟩:=hm;obtain⟨d,i,k1,k2,k3,k4,k5⟩:=Hz h2;exact Qb3e aK k1 k2 k3 hs ho
  ·simp at hm
 |aslg n b l=>
  simp only[mF]at hm;split at hm
  ·rename_i t b' aK
   simp only[Ja,beq_iff_eq]at hm;obtain⟨rfl,h2⟩:=hm;split at h2
   ·rename_i m el dB
    rw[Ja,beq_iff_eq]at h2;obtain⟨rfl,h3⟩:=h2;obtain⟨i,hi⟩:=J2.1 h3;exact Qb1j aK dB hi hs ho
   ·simp at h2
  ·simp at hm
 |iax sz n x y=>
  simp only[mF]at hm;split at hm
  ·rename_i t x' y' aK
   simp only[Ja]at hm;obtain⟨⟨h1,h2⟩,h3⟩:=hm;split at h3
   ·rename_i m el dB
    rw[Ja,beq_iff_eq]at h3;obtain⟨rfl,h3⟩:=h3;obtain⟨d,i,k1,k2,k3,k4,k5⟩:=Hz h3;exact Qb3b aK dB k1 k3 k2 (k4 rfl) h1 h2 hs he hp ho
   ·simp at h3
  ·simp at hm
 |asl n x=>
  simp only[mF]at hm;split at hm
  ·rename_i t x' aK
   rw[Ja]at hm;obtain⟨h1,h2⟩:=hm;split at h2
   ·rename_i m el bU
    rw[Ja,beq_iff_eq]at h2;obtain⟨rfl,h3⟩:=h2;obtain⟨i,hi⟩:=J2.1 h3;exact Qb2z aK bU hi h1 hs he hp ho
   ·simp at h2
  ·simp at hm
 |slis x lo hi=>
  simp only[mF]at hm;split at hm
  ·rename_i t x' lo' dI aK
   simp only[Ja]at hm;obtain⟨⟨⟨h1,h2⟩,h3⟩,h4⟩:=hm;split at h4
   ·exact Qb1u aK ‹_› h1 h2 h3 hs he hp ho
   ·simp at h4
  ·simp at hm
 |ext x i=>
  simp only[mF]at hm;split at hm
  ·rename_i x' i' aK
   simp only[Ja,beq_iff_eq]at hm;obtain⟨h1,rfl⟩:=hm;exact Qb26 aK h1 hs he hp ho
  ·simp at hm
 |fld off n agg x=>
  simp only[mF]at hm;split at hm
  ·rename_i s y k aK
   rw[Ja]at hm;obtain⟨h1,h2⟩:=hm;split at h2
   ·rename_i fs gZ
    split at h2
    ·rename_i f hf
     rw[Ja]at h2;obtain⟨h3,h4⟩:=h2;obtain⟨d,i,k1,k2,k3,k4,k5⟩:=Hz h4;exact Qb28 aK gZ hf (by simpa using h3) k2 k1 k3 k4 k5 h1 hs he hp ho
    ·simp at h2
   ·simp at h2
  ·simp at hm
 |idx x y=>
  simp only[mF]at hm;split at hm
  ·rename_i t x' y' aK
   simp only[Ja]at hm;obtain⟨⟨h1,h2⟩,h3⟩:=hm;split at h3
   ·exact Qb3c aK ‹_› h1 h2 hs he hp ho
   ·simp at h3
  ·simp at hm
 |bld zero parts=>
  simp only[mF]at hm;split at hm
  ·rename_i t parts' aK
   split at hm
   ·rename_i fs gZ
    simp only[Ja]at hm;obtain⟨⟨h1,h2⟩,h3⟩:=hm;obtain⟨i,z,k1,k2,k3⟩:=Hy h1;obtain⟨k4,k5⟩:=MD _ _ h3;rw[Jaa]at h2;refine Qb22 aK gZ k1 k2 k3 (fun f hf=>J2.1 (h2 f hf)) (by simpa using k4) (fun j x y e1 e2=>k5 j x y e1 (by simpa using e2)) hs he hp ho
   ·simp at hm
  ·simp at hm
 |bw sz parts=>
  simp only[mF]at hm;split at hm
  ·rename_i t n parts' aK
   simp only[Ja,decide_eq_true_eq,beq_iff_eq]at hm;obtain⟨⟨⟨⟨h1,h2⟩,h3⟩,h4⟩,h5⟩:=hm;split at h5
   ·rename_i el dB
    rw[Ja]at h5;obtain⟨i,hi,hz⟩:=EV h5.1;have h6:=h5.2;rw[hi]at h6;obtain⟨z,cD⟩:=J2.1 h6;obtain⟨k1,k2⟩:=Gf _ _ _ h3;exact Qb24 aK dB hi cD hz h4 h1 h2 (by simpa using k1) (fun j x y e1 e2=>by
     have:=k2 j x y e1 (by simpa using e2);exact⟨by simpa using this.1,this.2⟩) hs he hp ho
   ·simp at h5
  ·simp at hm
 |box x=>
  simp only[mF]at hm;split at hm
  ·exact Qb23 ‹_› hm hs he hp ho
  ·simp at hm
 |cvt k x=>
  simp only[mF]at hm;split at hm
  ·rename_i src dst x' aK
   rw[Ja]at hm;obtain⟨h1,h2⟩:=hm;split at h2
   ·simp only[beq_iff_eq]at h2;subst h2;exact Qb25 aK ‹_› ‹_› h1 hs he hp ho
   ·simp at h2
  ·simp at hm
 |mkf f caps=>
  simp only[mF]at hm;split at hm
  ·rename_i f' caps' aK
   simp only[Ja,beq_iff_eq]at hm;obtain⟨rfl,h2⟩:=hm;obtain⟨k1,k2⟩:=Hk _ _ h2;exact Qb3h aK (by simpa using k1) (fun j x y e1 e2=>k2 j x y e1 (by simpa using e2)) hs he hp ho
  ·simp at hm
 |lup tag zero m k=>
  simp only[mF]at hm;split at hm
  ·rename_i t m' k' aK
   simp only[Ja]at hm;obtain⟨⟨h1,h2⟩,h3⟩:=hm;split at h3
   ·rename_i kt et gN
    rw[Ja]at h3;obtain⟨h4,h5⟩:=h3;split at h4
    ·rename_i d hd
     have:=GE h4;subst this;split at h5
     ·rename_i i hi
      split at h5
      ·rename_i z hz
       exact Qb3g aK gN hd hi hz h5 h1 h2 hs he hp ho
      ·simp at h5
     ·simp at h5
    ·simp at h4
   ·simp at h3
  ·simp at hm
 |lup2 tag zero m k=>
  simp only[mF]at hm;split at hm
  ·rename_i t m' k' aK
   simp only[Ja]at hm;obtain⟨⟨h1,h2⟩,h3⟩:=hm;split at h3
   ·rename_i kt et gN
    rw[Ja]at h3;obtain⟨h4,h5⟩:=h3;split at h4
    ·rename_i d hd
     have:=GE h4;subst this;split at h5
     ·rename_i i hi
      split at h5
      ·rename_i z hz
       exact Qb1s aK gN hd hi hz h5 h1 h2 hs he hp ho
      ·simp at h5
     ·simp at h5
    ·simp at h4
   ·simp at h3
  ·simp at hm
 |mx x y=>
  simp only[mF]at hm;split at hm
  ·simp only[Ja]at hm;exact s_mx ‹_› hm.1 hm.2 hs he hp ho
  ·simp at hm
 |mn x y=>
  simp only[mF]at hm;split at hm
  ·simp only[Ja]at hm;exact s_mn ‹_› hm.1 hm.2 hs he hp ho
  ·simp at hm
def EOk (P:Program)(H:Heap)(g:G)(w:World)(a:Act)(o:Oper)(K:V→Heap→Prop):Prop:=
 ∀(Q:Exit→Act→World→Prop) (next:Act→World→Prop),
  (∀x v w' H' g',K x H'→Stp H g w H' g' w'→RepV w' g' x v→next (a.put o.dst v) w')→
  (∀v w' H' g',K (.pn v) H'→Stp H g w H' g' w'→Q (.panic [{ v:=v,recovered:=false }]) a w')→o.wp P a w next Q
theorem EOk.value {K:V→Heap→Prop}{v:Value}{w':World}{x:V}{H':Heap}{g':G}(hr:(execOp a.eval o).run P w=.ok (.value v) w')(hk:K x H')(aF:Stp H g w H' g' w')(hv:RepV w' g' x v) :
  EOk P H g w a o K:=by
 intro Q next hn gK;unfold Oper.wp;rw[hr,Oper.upon_value];exact hn x v w' H' g' hk aF hv
theorem EOk.skip {K:V→Heap→Prop}{w':World}{H':Heap}{g':G}(hr:(execOp a.eval o).run P w=.ok .skip w')(hk:K .unk H')(aF:Stp H g w H' g' w') :
  EOk P H g w a o K:=by
 intro Q next hn gK;unfold Oper.wp;rw[hr,Oper.upon_skip];exact hn .unk undef w' H' g' hk aF (.unk _)
theorem Sat.newName (hs:Sat H g w):∃l,g.io l=none∧H l=.none:=by
 obtain⟨N,hN⟩:=hs.names;exact⟨N,hN N (Ju _),hs.none_of_io (hN N (Ju _))⟩
def G.newObj (g:G)(l nb sz base:Nat):G:=
 { g with own:=fun b=>if b=nb then some (l,[])else g.own b,io:=fun x=>if x=l then some (nb,sz,base)else g.io x }
theorem ET (hs:Sat H g w){l:Nat}(hl:g.io l=none)(sz base:Nat)(x:Go.Obj):Le g w (g.newObj l w.heap.size sz base) (w.alloc x):=by
 refine⟨fun b hb=>⟨hb,Dj _ _ (FI hs hb)⟩,fun m y hm=>?_,by simp,fun b T n hn=>?_,rfl,rfl,rfl⟩
 ·simp only[G.newObj];have:m≠l:=fun h=>by subst h;rw[hl]at hm;simp at hm
  rw[if_neg this];exact hm
 ·rw[PK (Dj _ _ (Hj hn))];exact hn
theorem Qba6 (hs:Sat H g w){l:Nat}(sz base:Nat)(x:Go.Obj)(m:Nat):AR g w (g.newObj l w.heap.size sz base) (w.alloc x) m:=by
 intro b q hb;have:=C1 hs hb;refine⟨?_,Dj _ _ this⟩;simp only[G.newObj];rw[if_neg (by omega)];exact hb
theorem Dl (hs:Sat H g w){l:Nat}(hl:g.io l=none)(sz base:Nat)(x:Go.Obj)(ob:Obj)
  (aZ:∀g',g'=g.newObj l w.heap.size sz base→SatObj (H.set l ob) g' (w.alloc x) l ob) :
  Stp H g w (H.set l ob) (g.newObj l w.heap.size sz base) (w.alloc x):=by
 have a9:=ET hs hl sz base x;have hk:=Qba6 hs (l:=l) sz base x;have hH:H l=.none:=hs.none_of_io hl;refine⟨a9,fun m hm hn=>?_,⟨fun b hb=>?_,?_,fun b y hb=>?_,fun b m q hb=>?_,fun m=>?_⟩⟩
 ·have:m≠l:=fun h=>by subst h;exact hm hl
  rw[Heap.af _ _ this];exact⟨hn,fun b q hb=>hk m b q hb⟩
 ·simp only[World.size_alloc]at hb;refine⟨(hs.fresh b (by omega)).1,?_⟩;simp only[G.newObj];rw[if_neg (by omega)];exact (hs.fresh b (by omega)).2
 ·obtain⟨N,hN⟩:=hs.names;refine⟨max N (l+1),fun m hm=>?_⟩;simp only[G.newObj];rw[if_neg (by omega)];exact hN m (by omega)
 ·simp only[G.newObj]at hb;split at hb
  ·rename_i h;subst h;exact (hs.fresh _ (Ju _)).1
  ·exact hs.excl b y hb
 ·simp only[G.newObj]at hb⊢;split at hb
  ·simp at hb;obtain⟨rfl,rfl⟩:=hb;simp
  ·split
   ·simp
   ·exact hs.named b m q hb
 ·by_cases hm:m=l
  ·subst hm;rw[Heap.ay];exact aZ _ rfl
  ·have cu:=Heap.af H ob hm;rw[cu,←cu];refine SatObj.keep hs a9 (hk m) cu fun m' v left cur hc v' es hv=>?_;by_cases dz:m'=l
   ·subst dz;have iV:=hs.objs m;rw[hc]at iV;obtain⟨b,mb,si,se,h1,h2,h3,h4,h5⟩:=iV;rw[hl]at h4;simp at h4
   ·rw[Heap.af _ _ dz]at hv;exact .inl ⟨hv,hk m'⟩
theorem N4 {l:Nat}{cells:List C}{vs:Array Value}{T:TypeId}{H':Heap}(hr:∀(j:Nat) (c:C) (u:Value),cells[j]? = some c→vs[j]? = some u→RepC w g c u)(be:vs.size=cells.length)
  (a9:Le g w (g.newObj l w.heap.size cells.length 0) (w.alloc (.cells vs T))) :
  SatObj H' (g.newObj l w.heap.size cells.length 0) (w.alloc (.cells vs T)) l (.st cells):=by
 refine⟨w.heap.size,cells.length,T,vs,by simp[G.newObj],by simp[G.newObj],BQ _ _,be,fun k c v h1 h2=>.plain _ _ _ _ ((hr k c v h1 h2).mono a9)⟩
theorem VD {cells:List C}{t:TypeId}{i:TypeInfo}{z:Value}{K:V→Heap→Prop}(hm:o.op=.alloc t)(hi:P.info? t=some i)(hz:i.zero=some z)(aY:B1 cells z=true)
  (hs:Sat H g w) (ho:(EOp.alloc cells).eff P p e H K):EOk P H g w a o K:=by
 obtain⟨l,hl,hH⟩:=hs.newName;have hr:=Ft (w:=w) (g:=g) aY;have a9:=ET hs hl cells.length 0 (.cells z.cells t);have aF:=Dl hs hl cells.length 0 (.cells z.cells t) (.st cells) (fun g' hg=>by subst hg;exact N4 hr.2 hr.1 a9);refine EOk.value (v:=.pointer (some ⟨w.heap.size,0,none⟩)) (x:=.c (.ptr l 0)) ?_ (ho l hH) aF ?_
 ·simp[execOp,hm,Instr.alloc,BM hi hz,newVar,newRow]
 ·exact .c _ _ (.ptr l 0 w.heap.size cells.length 0 (by simp[G.newObj]))
theorem Qb0l {x:Opd}{x':Operand}{t:TypeId}{K:V→Heap→Prop}(hm:o.op=.box t x')(hx:mO x x'=true)
  (hs:Sat H g w) (he:EnvOk w g e a) (hp:p=true) (ho:(EOp.boxm x).eff P p e H K):EOk P H g w a o K:=by
 simp only[EOp.eff]at ho;obtain⟨h1,h2,h3⟩:=ho;have hr:=Al he hx hp h1;obtain⟨hz,hc⟩:=Gk hr h2;obtain⟨l,hl,hH⟩:=hs.newName;have a9:=ET hs hl (x.v e).cells.length 0 (.cells (a.eval x').cells t);have aF:=Dl hs hl (x.v e).cells.length 0 (.cells (a.eval x').cells t) (.st (x.v e).cells) (fun g' hg=>by subst hg;exact N4 hc hz a9);refine EOk.value (v:=.pointer (some ⟨w.heap.size,0,none⟩)) (x:=.c (.ptr l 0)) ?_ (h3 l hH) aF ?_
 ·simp[execOp,hm,Instr.box,newVar,newRow]
 ·exact .c _ _ (.ptr l 0 w.heap.size (x.v e).cells.length 0 (by simp[G.newObj]))
def World.au (w:World)(b:Nat)(cs:Array Value)(T:TypeId):World:={ w with heap:=w.heap.setIfInBounds b (.cells cs T (0,0)) }
theorem DY {w:World}{b:Nat}{cs:Array Value}{T:TypeId}(h:b<w.heap.size):(World.au w b cs T).heap[b]? = some (.cells cs T (0,0)):=by
 simp[World.au,h]
theorem DL {w:World}{b b':Nat}{cs:Array Value}{T:TypeId}(h:b'≠b):(World.au w b cs T).heap[b']? = w.heap[b']?:=by
 simp only[World.au];rw[Jw (Ne.symm h)]
theorem Qaoa {w:World}{b k:Nat}{cs:Array Value}{T:TypeId}{v:Value}(h:w.heap[b]? = some (.cells cs T (0,0))) :
  w.setCell ⟨b,k,none⟩ v=World.au w b (cs.setIfInBounds k v) T:=by
 simp only[World.setCell,World.au];congr 1;apply Jac;apply Ja9;intro i;simp only[Jt,J7];by_cases hi:b=i
 ·subst hi;rw[if_pos rfl,h];have aa:b<w.heap.size:=by
   rcases Jf b w.heap.size with h'|h'
   ·exact h'
   ·simp[Jk h']at h
  simp[aa]
 ·rw[if_neg hi,Jw hi]
theorem Qafw (w:World)(b:Nat)(cs cs':Array Value)(T:TypeId):World.au (World.au w b cs T) b cs' T=World.au w b cs' T:=by
 simp only[World.au,Array.setIfInBounds_setIfInBounds]
theorem HM:∀(vs:List Value) (i:Nat) (w:World) (b k:Nat) (cs:Array Value) (T:TypeId),w.heap[b]? = some (.cells cs T (0,0))→k+i+vs.length≤cs.size→(∀v∈vs,v.oneCell'=true)→
  (storeCells ⟨b,k,none⟩ vs i).run P w=.ok () (World.au w b ((vs.zipIdx i).foldl (fun (cs:Array Value) (x:Value×Nat)=>cs.setIfInBounds (k+x.2) x.1) cs) T)
 |[],i,w,b,k,cs,T,h,_,_=>by
  simp only[storeCells,Sem.run_pure,List.zipIdx_nil,List.foldl_nil];congr 1;simp only[World.au];have aa:b<w.heap.size:=by
   rcases Jf b w.heap.size with h'|h'
   ·exact h'
   ·simp[Jk h']at h
  have:w.heap.setIfInBounds b (.cells cs T (0,0))=w.heap:=by
   apply Jac;apply Ja9;intro j;simp only[Jt];by_cases hj:b=j
   ·subst hj;rw[h];simp[aa]
   ·rw[Jw hj]
  rw[this]
 |v::vs,i,w,b,k,cs,T,h,hb,hv=>by
  simp only[Jai]at hb;have aa:k+i<cs.size:=by omega
  have bW:w.cell? ⟨b,k+i,none⟩=some cs[k+i]:=by rw[EW h];exact Jd aa
  have i0:w.frozen? ⟨b,k+i,none⟩=false:=by simp[World.frozen?,h]
  have h1:=hv v (by simp);have aF:(store ⟨b,k+i,none⟩ v).run P w=.ok () (w.setCell ⟨b,k+i,none⟩ v):=by
   rw[run_store _ _ _ _ _ h1];simp[bW,i0]
  have dD:b<w.heap.size:=by
   rcases Jf b w.heap.size with h'|h'
   ·exact h'
   ·simp[Jk h']at h
  simp only[storeCells,Sem.run_bind,BS,aF,Result.andThen_ok];rw[Qaoa h];rw[HM vs (i+1) _ b k (cs.setIfInBounds (k+i) v) T (DY dD) (by simp;omega) (fun x hx=>hv x (by simp[hx]))];rw[Qafw];rfl
theorem Qbox (hs:Sat H g w){l b:Nat}(hb:g.own b=some (l,[])){w':World}(be:w'.heap.size=w.heap.size)(bI:∀b',b'≠b→w'.heap[b']? = w.heap[b']?)
  (ej:∀T n,w.shape? b=some (T,n)→w'.shape? b=some (T,n)) (ht:w'.tape=w.tape) (n3:w'.os=w.os) (nz:w'.output=w.output):Le g w g w':=by
 refine⟨fun b' aR=>⟨aR,bI b' fun h=>?_⟩,fun _ _ h=>h,by omega,fun b' T n hn=>?_,ht,n3,nz⟩
 ·subst h;rw[hs.excl _ _ hb]at aR;simp at aR
 ·by_cases h:b'=b
  ·subst h;exact ej T n hn
  ·rw[PK (bI b' h)];exact hn
theorem Qa92 {l b:Nat}(hb:g.own b=some (l,[])){w':World}(bI:∀b',b'≠b→w'.heap[b']? = w.heap[b']?){m:Nat}(hm:m≠l):AR g w g w' m:=by
 intro b' q hq;refine⟨hq,bI b' fun h=>?_⟩;subst h;rw[hb]at hq;simp at hq;exact hm hq.1.symm
theorem Im {l b:Nat}(hb:g.own b=some (l,[])){w':World}(a9:Le g w g w')(bI:∀b',b'≠b→w'.heap[b']? = w.heap[b']?){q:List Nat}(hq:q≠[]){c:C}{v:Value}
  (h:RepO w g l q c v):RepO w' g l q c v:=by
 refine h.move a9 fun r b' aR=>⟨aR,bI b' fun h=>?_⟩;subst h;rw[hb]at aR;simp only[Jb,Ji,true_and]at aR;have:=congrArg List.length aR;simp at this;exact hq (Jy.1 (by omega))
theorem Ri (hs:Sat H g w){l b:Nat}(hb:g.own b=some (l,[])){w':World}(be:w'.heap.size=w.heap.size)(bI:∀b',b'≠b→w'.heap[b']? = w.heap[b']?)
  (ej:∀T n,w.shape? b=some (T,n)→w'.shape? b=some (T,n)) (ht:w'.tape=w.tape) (n3:w'.os=w.os) (nz:w'.output=w.output) (ob:Obj) (fw:H l≠.none)
  (aZ:Le g w g w'→SatObj (H.set l ob) g w' l ob) (kA:∀v es,ob=.map v es→∃v0 es0,H l=.map v0 es0∧v0<v):Stp H g w (H.set l ob) g w':=by
 have a9:=Qbox hs hb be bI ej ht n3 nz;have hk:=fun (m:Nat) (hm:m≠l)=>Qa92 (g:=g) (w:=w) hb bI hm;refine⟨a9,fun m hm hn=>?_,⟨fun b' aR=>hs.fresh b' (by omega),hs.names,hs.excl,hs.named,fun m=>?_⟩⟩
 ·have:m≠l:=fun h=>fw (h▸hn);rw[Heap.af _ _ this];exact⟨hn,fun b' q hq=>hk m this b' q hq⟩
 ·by_cases hm:m=l
  ·subst hm;rw[Heap.ay];exact aZ a9
  ·have cu:=Heap.af H ob hm;rw[cu,←cu];refine SatObj.keep hs a9 (hk m hm) cu fun m' v left cur hc v' es hv=>?_;by_cases dz:m'=l
   ·subst dz;rw[Heap.ay]at hv;obtain⟨v0,es0,q1,q2⟩:=kA v' es hv;exact .inr ⟨v0,es0,q1,q2⟩
   ·rw[Heap.af _ _ dz]at hv;exact .inl ⟨hv,hk m' dz⟩
theorem Fq {w:World}{b:Nat}{x:Go.Obj}(h:w.heap[b]? = some x):b<w.heap.size:=by
 rcases Jf b w.heap.size with h'|h'
 ·exact h'
 ·simp[Jk h']at h
theorem P2 (hs:Sat H g w){l b:Nat}(hb:g.own b=some (l,[])){cs cs':Array Value}{T:TypeId}(hw:w.heap[b]? = some (.cells cs T (0,0)))(be:cs'.size=cs.size)(ob:Obj)(fw:H l≠.none)
  (aZ:Le g w g (World.au w b cs' T)→(World.au w b cs' T).heap[b]? = some (.cells cs' T (0,0))→SatObj (H.set l ob) g (World.au w b cs' T) l ob)
  (kA:∀v es,ob≠.map v es):Stp H g w (H.set l ob) g (World.au w b cs' T):=by
 have aa:=Fq hw;refine Ri hs hb (by simp[World.au]) (fun b' h=>DL h) (fun T' n hn=>?_) rfl rfl rfl ob fw (fun a9=>aZ a9 (DY aa)) (fun v es h=>absurd h (kA v es));simp only[World.shape?,hw,Jb,Ji]at hn;simp only[World.shape?,DY aa,Jb,Ji];rw[be];exact hn
theorem O0 {row vs:List C}{k j:Nat}(hb:k+vs.length≤row.length):(DN row k vs)[j]? = if k≤j∧j<k+vs.length then vs[j-k]? else row[j]?:=by
 unfold DN;by_cases hj:k≤j∧j<k+vs.length
 ·rw[if_pos hj,J0,Jl (by simp;omega),Jj (by simp;omega)];congr 1;simp;omega
 ·rw[if_neg hj];by_cases hl:j<k
  ·rw[J0,Jj (by simp;omega),Jp,if_pos hl]
  ·rw[Jl (by simp;omega),Jr];congr 1;simp;omega
theorem Oz {row vs:List C}{k:Nat}(hb:k+vs.length≤row.length):(DN row k vs).length=row.length:=by
 simp[DN];omega
theorem Qb2p {n:Nat}{x y:Opd}{x' y':Operand}{t:TypeId}{i:TypeInfo}{K:V→Heap→Prop}(hm:o.op=.store t x' y')(hi:P.info? t=some i)(be:i.size=n)(hx:mO x x'=true)(hy:mO y y'=true)
  (hs:Sat H g w) (he:EnvOk w g e a) (hp:p=true) (ho:(EOp.sto n x y).eff P p e H K):EOk P H g w a o K:=by
 simp only[EOp.eff]at ho;obtain⟨h1,h2,h3,h4,h5,h6⟩:=ho;have hr:=Al he hx hp h1;have gJ:=Al he hy hp h2;have bP:=HD gJ (fun hn=>by rw[hn]at h4;simp at h4;omega);rw[Bc h3]at hr;have cP:=hr.aA;generalize hq:a.eval x'=xv at cP;generalize dW:(x.v e).c1=cc at cP h6;have gM:∀v∈(a.eval y').cells.toList,v.oneCell'=true:=by
  intro v hv;obtain⟨j,hj⟩:=J4 hv;have dA:(a.eval y').cells[j]? = some v:=by simpa using hj
  have aa:j<(y.v e).cells.length:=by
   rw[←bP.1];rcases Jf j (a.eval y').cells.size with h|h
   ·exact h
   ·rw[Jk h]at dA;simp at dA
  exact (bP.2 j _ v (Jc aa) dA).one
 have run:∀(b k:Nat) (cs:Array Value) (T:TypeId),xv=.pointer (some ⟨b,k,none⟩)→w.heap[b]? = some (.cells cs T (0,0))→k+n≤cs.size→
   ∃cs':Array Value,(execOp a.eval o).run P w=.ok .skip (World.au w b cs' T)∧cs'.size=cs.size∧
    ∀j,cs'[j]? = if k≤j∧j<k+n then (a.eval y').cells[j-k]? else cs[j]?:=by
  intro b k cs T hv hw hb;have ai:(a.eval y').cells.toList.length=n:=by simp[bP.1,h4]
  have hf:=fun j=>Fp k (a.eval y').cells.toList 0 cs j (by rw[ai];omega);refine⟨_,?_,(hf 0).1,fun j=>?_⟩
  ·have hzz:(a.eval y').cells.size=n:=by rw[bP.1,h4]
   simp only[execOp,hm,hq,hv,Instr.storeAt,Instr.sureAddr,Sem.run_bind,Sem.run_pure,Result.andThen_ok,storeVar,Bb hi,be];rw[if_neg (by simp[hzz])];rw[HM _ 0 w b k cs T hw (by rw[ai];omega) gM];rfl
  ·rw[(hf j).2];simp only[J1,ai,Jt]
 cases cP with
 |ptr l k b sz base bd=>
  simp only[C0]at h6;split at h6
  ·rename_i cells hH
   obtain⟨h7,h8⟩:=h6;have aZ:=hs.objs l;rw[hH]at aZ;obtain⟨b',sz',T,cs,q1,q2,q3,q4,q5⟩:=aZ;rw[bd]at q1;simp only[Jb,Ji]at q1;obtain⟨rfl,rfl,rfl⟩:=q1;obtain⟨cs',r1,r2,r3⟩:=run b (0+k) cs T rfl q3 (by omega);refine EOk.skip (g':=g) r1 h8 ?_;refine P2 hs q2 q3 r2 _ (by rw[hH];simp) (fun a9 fC=>?_) (by simp);refine⟨b,sz,T,cs',bd,q2,fC,by rw[r2,q4,Oz h7],fun j c v e1 e2=>?_⟩;rw[O0 h7]at e1;rw[r3]at e2;by_cases hj:k≤j∧j<k+(y.v e).cells.length
   ·rw[if_pos hj]at e1;rw[if_pos (by omega)]at e2;exact .plain _ _ _ _ ((bP.2 _ _ _ e1 (by rw[←e2];congr 1;omega)).mono a9)
   ·rw[if_neg hj]at e1;rw[if_neg (by omega)]at e2;exact Im q2 a9 (fun b' h=>DL h) (by simp) (q5 j c v e1 e2)
  ·exact h6.elim
 |ep s z i k b off m cap gG hz cI=>
  simp only[C0]at h6;split at h6
  ·simp_all
  ·rename_i l sz st nn z' i' k' fj
   simp only[C.ep.injEq]at fj;obtain⟨rfl,rfl,rfl,rfl⟩:=fj;split at h6
   ·rename_i y' rows hH
    obtain⟨rfl,rfl,h7,h8,h9,ie⟩:=h6;have aZ:=hs.objs l;rw[hH]at aZ
    cases gG with
    |bf=>omega
    |aG _ _ _ _ _ _ base T mm bd hn ej gX=>
     obtain⟨b',base',T',cs,val,q1,q2,q3,q4,q5,q6,q7,q8⟩:=SatVec.of aZ bd;rw[bd]at q1;simp only[Jb,Ji,true_and]at q1;obtain⟨rfl,rfl⟩:=q1;have av:rows[st+i]? = some (rows.getD (st+i) []):=by
      rw[Jx,Jc (by omega)];rfl
     generalize dx:rows.getD (st+i) []=row at av ie;have bZ:=q6 _ _ av;have ba:(st+i) * z+z≤rows.length * z:=by
      have:(st+i+1) * z≤rows.length * z:=Jn _ (by omega);rw[Jm,Jag]at this;exact this
     obtain⟨cs',r1,r2,r3⟩:=run b (base+st * z+i * z+k) cs T' rfl q3 (by
      have:st * z+i * z=(st+i) * z:=(by rw[Jm]);omega)
     refine EOk.skip (g':=g) r1 ie ?_;refine P2 hs q2 q3 r2 _ (by rw[hH];simp) (fun a9 fC=>?_) (by simp);have iA:k+(y.v e).cells.length≤row.length:=(by omega);have bG:∀(i2:Nat) (row2:List C) (j:Nat) (c:C),(rows.set (st+i) (DN row k (y.v e).cells))[i2]? = some row2→row2[j]? = some c→
       ∃v,cs'[base+i2 * z+j]? = some v∧RepO (World.au w b cs' T') g l [i2,j] c v:=by
      intro i2 row2 j c e1 e2;have aF:st * z+i * z=(st+i) * z:=(by rw[Jm]);rw[Jap]at e1;split at e1
      ·rename_i sb
       subst sb;rw[if_pos (by omega)]at e1;simp only[Jb]at e1;subst e1;rw[O0 iA]at e2;by_cases hj:k≤j∧j<k+(y.v e).cells.length
       ·rw[if_pos hj]at e2;have eu:j-k<(a.eval y').cells.size:=(by rw[bP.1];omega);refine⟨(a.eval y').cells[j-k],?_,?_⟩
        ·rw[r3,if_pos (by omega)];rw[show base+(st+i) * z+j-(base+st * z+i * z+k)=j-k by omega];exact Jd eu
        ·exact .plain _ _ _ _ ((bP.2 _ _ _ e2 (Jd eu)).mono a9)
       ·rw[if_neg hj]at e2;refine⟨val (st+i) j,?_,Im q2 a9 (fun b' h=>DL h) (by simp) (q8 _ _ _ _ av e2)⟩;rw[r3,if_neg (by omega)];exact q7 _ _ _ _ av e2
      ·rename_i sb
       have lB:=q6 _ _ e1;have eM:j<z:=by
        rw[←lB];rcases Jf j row2.length with h|h
        ·exact h
        ·rw[Je h]at e2;simp at e2
       refine⟨val i2 j,?_,Im q2 a9 (fun b' h=>DL h) (by simp) (q8 _ _ _ _ e1 e2)⟩;rw[r3,if_neg ?_]
       ·exact q7 _ _ _ _ e1 e2
       ·intro eN;rcases Jf i2 (st+i)with h|h
        ·have:(i2+1) * z≤(st+i) * z:=Jn _ (by omega);rw[Jm,Jag]at this;omega
        ·have:(st+i+1) * z≤i2 * z:=Jn _ (by omega);rw[Jm,Jag]at this;omega
     refine .inr ⟨b,base,T',cs',fun i2 j=>cs'.getD (base+i2 * z+j) undef,bd,q2,fC,by rw[r2];simpa using q4,by simpa using q5,fun i2 row2 e1=>?_,fun i2 row2 j c e1 e2=>?_,fun i2 row2 j c e1 e2=>?_⟩
     ·rw[Jap]at e1;split at e1
      ·rw[if_pos (by omega)]at e1;simp only[Jb]at e1;subst e1;rw[Oz iA];exact bZ
      ·exact q6 _ _ e1
     ·obtain⟨v,f1,f2⟩:=bG i2 row2 j c e1 e2;show _=some (cs'.getD (base+i2 * z+j) undef);rw[Jh,f1];rfl
     ·obtain⟨v,f1,f2⟩:=bG i2 row2 j c e1 e2;show RepO _ _ _ _ _ (cs'.getD (base+i2 * z+j) undef);rw[Jh,f1];exact f2
   ·exact h6.elim
  ·exact h6.elim
 |_=>simp[C0]at h6
theorem DS {i j n sz:Nat}(hi:i<n)(hj:j<sz):i * sz+j<n * sz:=by
 have:(i+1) * sz≤n * sz:=Jn _ (by omega);rw[Jm,Jag]at this;omega
theorem OD {q n sz:Nat}(h:q<n * sz):q / sz<n∧q % sz<sz∧q / sz * sz+q % sz=q:=by
 have hz:0<sz:=by
  rcases Jae sz with h0|h0
  ·subst h0;simp at h
  ·exact h0
 exact⟨Nat.div_lt_of_lt_mul (by rw[Jaz];exact h),Jbb _ hz,by rw[Jaz];exact Nat.div_add_mod q sz⟩
theorem Ff (hs:Sat H g w){s:C}{v:Value}(h:RepC w g s v)(ho:bt H s){sz:Nat}(hz:s.aQ=sz)(hn:∀r∈rowsOf H s,ar r=true) :
  ∃f:Nat→Value,(Builtin.firstCells sz (ax s) v).run P w=.ok ((List.range (ax s * sz)).map f).toArray w∧
   (∀q,q<ax s * sz→(f q).oneCell'=true)∧
   ∀(i:Nat) (row:List C) (j:Nat) (c:C),(rowsOf H s)[i]? = some row→row[j]? = some c→RepC w g c (f (i * sz+j)):=by
 obtain⟨ad,cap,rfl,h1,h2,h3,h4⟩:=Fm hs h ho;by_cases h0:ax s=0
 ·refine⟨fun _=>undef,?_,fun q hq=>by rw[h0]at hq;simp at hq,fun i row j c e1 _=>?_⟩
  ·rw[h0]
   cases ad with
   |none=>simp[Builtin.firstCells]
   |some x=>simp[Builtin.firstCells,loadCells,loadCellsFrom]
  ·have:(rowsOf H s)[i]? = none:=Je (by omega);rw[this]at e1;simp at e1
 ·obtain⟨b,off,rfl,h5⟩:=h4 h0;rw[hz]at h3 h5;have known:∀(i:Nat) (row:List C) (j:Nat) (c:C),(rowsOf H s)[i]? = some row→row[j]? = some c→w.cell? ⟨b,off+(i * sz+j),none⟩=some (getV w b off (i * sz+j))∧RepC w g c (getV w b off (i * sz+j)):=by
   intro i row j c e1 e2;obtain⟨u,k1,k2⟩:=h5 i row j c e1 e2 (Kb (hn row (Jg e1)) e2);rw[Jas]at k1;simp only[getV,k1,Jv];exact⟨trivial,k2⟩
  have flat:∀q,q<ax s * sz→w.cell? ⟨b,off+q,none⟩=some (getV w b off q)∧(getV w b off q).oneCell'=true:=by
   intro q hq;obtain⟨a1,a2,a3⟩:=OD hq;have e1:(rowsOf H s)[q / sz]? = some ((rowsOf H s)[q / sz]'(by omega)):=Jc (by omega);have hl:=h3 _ _ e1;have e2:((rowsOf H s)[q / sz]'(by omega))[q % sz]? = some (((rowsOf H s)[q / sz]'(by omega))[q % sz]'(by omega)):=Jc (by omega);have:=known _ _ _ _ e1 e2;rw[a3]at this;exact⟨this.1,this.2.one⟩
  refine⟨getV w b off,?_,fun q hq=>(flat q hq).2,fun i row j c e1 e2=>(known i row j c e1 e2).2⟩;simp only[Builtin.firstCells];exact run_loadCells w _ _ _ fun j hj=>by rw[BS];exact (flat j hj).1
theorem LE (n:Nat):∀(r c:Nat),Builtin.growBy n r c≤max c (n+(n+768) / 4)
 |0,c=>by simp[Builtin.growBy];omega
 |r+1,c=>by
  simp only[Builtin.growBy];split
  ·omega
  ·have:=LE n r (c+(c+768) / 4);omega
theorem OQ {need cap:Nat}(h:cap<need):Builtin.nextslicecap need cap≤2 * need+512:=by
 unfold Builtin.nextslicecap;split
 ·omega
 ·split
  ·omega
  ·have:=LE need 4 cap;omega
theorem G9 {ats:Array TypeId}{ty t t2 el el2:TypeId}{i:TypeInfo}{sz:Nat}(h0:ats[0]? = some t)(h1:ats[1]? = some t2)(hu:P.underlying t=some (.slice el))(bU:P.underlying t2=some (.slice el2))
  (hi:P.info? el=some i) (hz:i.size=sz) {base:Option Addr} {n cap m cap2:Nat} {a2:Option Addr} {f:Nat→Value} (bN:n+m≤cap)
  (hf:(Builtin.firstCells sz m (.slice a2 m cap2)).run P w=.ok ((List.range (m * sz)).map f).toArray w)
  {w':World} (aF:∀x,base=some x→(storeCells (x.add (n * sz)) ((List.range (m * sz)).map f)).run P w=.ok () w') (eQ:base=none→w'=w) :
  (Builtin.append_ ats ty #[.slice base n cap,.slice a2 m cap2]).run P w=.ok (.slice base (n+m) cap) w':=by
 simp only[Builtin.append_,h0,h1];simp[Qz hu,Qz bU,Bb hi,hz,Builtin.lenOf,bN,hf]
 cases base with
 |none=>simp[eQ rfl]
 |some x=>simp[aF x rfl]
theorem Oo {ats:Array TypeId}{ty t t2 el el2:TypeId}{i:TypeInfo}{sz:Nat}{z:Value}(h0:ats[0]? = some t)(h1:ats[1]? = some t2)(hu:P.underlying t=some (.slice el))(bU:P.underlying t2=some (.slice el2))
  (hi:P.info? el=some i) (hz:i.size=sz) (aY:i.zero=some z) (dl:z.cells.size=sz) (eB:i.bytes≤128) (fm:i.bytes≠0) {base:Option Addr} {n cap m cap2:Nat} {a2:Option Addr} {f f1:Nat→Value} (bN:¬n+m≤cap) (d9:n+m≤LIM)
  (cN:(Builtin.firstCells sz m (.slice a2 m cap2)).run P w.drew=.ok ((List.range (m * sz)).map f).toArray w.drew)
  (dr:(Builtin.firstCells sz n (.slice base n cap)).run P w.drew=.ok ((List.range (n * sz)).map f1).toArray w.drew) :
  ∃(newCap:Nat) (rest:Array Value),n+m≤newCap∧rest.size=(newCap-(n+m)) * sz∧
   (Builtin.append_ ats ty #[.slice base n cap,.slice a2 m cap2]).run P w=.ok (.slice (some ⟨w.heap.size,0,none⟩) (n+m) newCap)
    (w.drew.alloc (.cells (((List.range (n * sz)).map f1).toArray++((List.range (m * sz)).map f).toArray++rest) el)):=by
 rw[Bu]at d9;have qb:=OQ (Nat.lt_of_not_le bN);have ir:Builtin.nextslicecap (n+m) cap * i.bytes≤(2 * (n+m)+512) * 128:=Nat.mul_le_mul qb eB;have h48:(2:Nat) ^ 48=281474976710656:=by decide
 generalize bG:(Question.appendCap (n+m) cap el).cut (w.tape w.drawn (.appendCap (n+m) cap el))=newCap;refine⟨newCap,Builtin.zeroCells z.cells (newCap-(n+m)),?_,?_,?_⟩
 ·rw[←bG];simp[Question.cut]
 ·simp[Builtin.zeroCells,dl]
 ·simp only[Builtin.append_,h0,h1];simp[Qz hu,Qz bU,Bb hi,hz,Builtin.lenOf,bN,Fx hi,fm];rw[if_neg (by omega)];simp[Question.forced,bG,dr,cN,BM hi aY,newRow];rw[←Jal];simp
def G.handOver (g:G)(l l' st n nb sz base:Nat):G:=
 { g with
  own:=fun b=>if b=nb then some (l',[])else match g.own b with
   |none=>none
   |some (m,[])=>if m=l then none else some (m,[])
   |some (m,i::r)=>if m=l then (if st≤i∧i<st+n then some (l',(i-st)::r)else none)else some (m,i::r)
  io:=fun x=>if x=l' then some (nb,sz,base)else g.io x }
theorem Qawi {l l' st n nb sz base b m:Nat}{q:List Nat}(hb:g.own b=some (m,q))(hm:m≠l)(jD:b≠nb):(g.handOver l l' st n nb sz base).own b=some (m,q):=by
 simp only[G.handOver,if_neg jD,hb]
 cases q with
 |nil=>simp[hm]
 |cons i r=>simp[hm]
theorem PD {l l' st n nb sz base b i:Nat}{r:List Nat}(hb:g.own b=some (l,(st+i)::r))(hi:i<n)(jD:b≠nb):(g.handOver l l' st n nb sz base).own b=some (l',i::r):=by
 simp only[G.handOver,if_neg jD,hb];simp[hi]
theorem P9 (hs:Sat H g w){l l':Nat}(cB:g.io l'=none)(hl:H l≠.none){st n nb sz base:Nat}{w':World}{rows:List (List C)}
  (jD:(nb<w.heap.size∧g.own nb=some (l,[]))∨nb=w.heap.size) (be:w.heap.size≤w'.heap.size) (hnw:nb<w'.heap.size) (fH:w'.heap.size≤max w.heap.size (nb+1)) (bI:∀b,b≠nb→b<w.heap.size→w'.heap[b]? = w.heap[b]?)
  (ej:nb<w.heap.size→∀T k,w.shape? nb=some (T,k)→w'.shape? nb=some (T,k)) (ht:w'.tape=w.tape) (n3:w'.os=w.os) (nz:w'.output=w.output)
  (aZ:Le g w (g.handOver l l' st n nb sz base) w'→SatVec (g.handOver l l' st n nb sz base) w' l' sz rows) (eY:∀v es,H l≠.map v es) :
  Stp H g w ((H.set l .none).set l' (.vec sz rows)) (g.handOver l l' st n nb sz base) w':=by
 have dq:l≠l':=fun h=>by subst h;exact hl (hs.none_of_io cB)
 have bV:g.per nb=false:=by
  rcases jD with ⟨_,h⟩|h
  ·exact hs.excl _ _ h
  ·exact (hs.fresh nb (by omega)).1
 have a9:Le g w (g.handOver l l' st n nb sz base) w':=by
  refine⟨fun b hb=>⟨hb,bI b (fun h=>by subst h;rw[bV]at hb;simp at hb) (FI hs hb)⟩,fun m x hm=>?_,be,fun b T k hn=>?_,ht,n3,nz⟩
  ·simp only[G.handOver];have:m≠l':=fun h=>by subst h;rw[cB]at hm;simp at hm
   rw[if_neg this];exact hm
  ·have aa:=Hj hn;by_cases h:b=nb
   ·subst h;exact ej aa T k hn
   ·rw[PK (bI b h aa)];exact hn
 have bm:∀(m b:Nat) (q:List Nat),g.own b=some (m,q)→m≠l→b≠nb:=by
  intro m b q hb hm h;subst h;rcases jD with ⟨_,h⟩|h
  ·rw[hb]at h;simp at h;exact hm h.1
  ·have:=C1 hs hb;omega
 have hk:∀m,m≠l→AR g w (g.handOver l l' st n nb sz base) w' m:=by
  intro m hm b q hb;have h1:=bm m b q hb hm;exact⟨Qawi hb hm h1,bI b h1 (C1 hs hb)⟩
 refine⟨a9,fun m hm hn=>?_,⟨fun b hb=>?_,?_,fun b y hb=>?_,fun b m q hb=>?_,fun m=>?_⟩⟩
 ·have h1:m≠l':=fun h=>by subst h;exact hm cB
  have h2:m≠l:=fun h=>by subst h;exact hl hn
  rw[Heap.af _ _ h1,Heap.af _ _ h2];exact⟨hn,fun b q hb=>hk m h2 b q hb⟩
 ·have h1:w.heap.size≤b:=by omega
  have h2:b≠nb:=by omega
  refine⟨(hs.fresh b h1).1,?_⟩;simp only[G.handOver,if_neg h2,(hs.fresh b h1).2]
 ·obtain⟨N,hN⟩:=hs.names;refine⟨max N (l'+1),fun m hm=>?_⟩;simp only[G.handOver];rw[if_neg (by omega)];exact hN m (by omega)
 ·by_cases h:b=nb
  ·subst h;exact bV
  ·have:∃z,g.own b=some z:=by
    simp only[G.handOver,if_neg h]at hb
    cases ho:g.own b with
    |none=>rw[ho]at hb;simp at hb
    |some z=>exact⟨z,rfl⟩
   obtain⟨z,hz⟩:=this;exact hs.excl b z hz
 ·simp only[G.handOver]at hb⊢;split
  ·simp
  ·rename_i iX
   split at hb
   ·simp at hb;exact absurd hb.1.symm iX
   ·split at hb
    ·simp at hb
    ·rename_i m0 ho
     split at hb
     ·simp at hb
     ·simp at hb;obtain⟨rfl,rfl⟩:=hb;exact hs.named _ _ _ ho
    ·rename_i m0 i r ho
     split at hb
     ·split at hb
      ·simp at hb;exact absurd hb.1.symm iX
      ·simp at hb
     ·simp at hb;obtain⟨rfl,rfl⟩:=hb;exact hs.named _ _ _ ho
 ·by_cases dz:m=l'
  ·subst dz;rw[Heap.ay];exact .inr (aZ a9)
  ·rw[Heap.af _ _ dz];by_cases hm:m=l
   ·subst hm;rw[Heap.ay];trivial
   ·have cu:((H.set l .none).set l' (.vec sz rows)) m=H m:=(by rw[Heap.af _ _ dz,Heap.af _ _ hm]);rw[Heap.af _ _ hm,←cu];refine SatObj.keep hs a9 (hk m hm) cu fun k v left cur hc v' es hv=>?_;by_cases h1:k=l'
    ·subst h1;rw[Heap.ay]at hv;simp at hv
    ·rw[Heap.af _ _ h1]at hv;by_cases h2:k=l
     ·subst h2;rw[Heap.ay]at hv;simp at hv
     ·rw[Heap.af _ _ h2]at hv;exact .inl ⟨hv,hk k h2⟩
theorem EU {g':G}{w':World}{l' sz nb base n m:Nat}{T:TypeId}{arr:Array Value}{R1 R2:List (List C)}(bd:g'.io l'=some (nb,sz,base))(j8:g'.own nb=some (l',[]))
  (hw:w'.heap[nb]? = some (.cells arr T (0,0))) (ba:base+(n+m) * sz≤arr.size) (d9:n+m≤LIM) (rb:R1.length=n) (sw:R2.length=m)
  (nL:∀(i:Nat) (row:List C),R1[i]? = some row→row.length=sz) (lA:∀(i:Nat) (row:List C),R2[i]? = some row→row.length=sz)
  (h1:∀(i:Nat) (row:List C) (j:Nat) (c:C),R1[i]? = some row→row[j]? = some c→∃v,arr[base+i * sz+j]? = some v∧RepO w' g' l' [i,j] c v)
  (h2:∀(i:Nat) (row:List C) (j:Nat) (c:C),R2[i]? = some row→row[j]? = some c→∃v,arr[base+(n+i) * sz+j]? = some v∧RepC w' g' c v) :
  SatVec g' w' l' sz (R1++R2):=by
 have aD:∀(i:Nat) (row:List C) (j:Nat) (c:C),(R1++R2)[i]? = some row→row[j]? = some c→∃v,arr[base+i * sz+j]? = some v∧RepO w' g' l' [i,j] c v:=by
  intro i row j c e1 e2;by_cases hi:i<n
  ·rw[Jj (by omega)]at e1;exact h1 i row j c e1 e2
  ·rw[Jl (by omega)]at e1;obtain⟨v,k1,k2⟩:=h2 (i-R1.length) row j c e1 e2;rw[rb,show n+(i-n)=i by omega]at k1;exact⟨v,k1,.plain _ _ _ _ k2⟩
 refine⟨nb,base,T,arr,fun i j=>arr.getD (base+i * sz+j) undef,bd,j8,hw,by rw[Jad,rb,sw];exact ba,by rw[Jad,rb,sw];exact d9,fun i row e1=>?_,fun i row j c e1 e2=>?_,fun i row j c e1 e2=>?_⟩
 ·by_cases hi:i<n
  ·rw[Jj (by omega)]at e1;exact nL i row e1
  ·rw[Jl (by omega)]at e1;exact lA _ row e1
 ·obtain⟨v,k1,k2⟩:=aD i row j c e1 e2;show _=some (arr.getD (base+i * sz+j) undef);rw[Jh,k1];rfl
 ·obtain⟨v,k1,k2⟩:=aD i row j c e1 e2;show RepO _ _ _ _ _ (arr.getD (base+i * sz+j) undef);rw[Jh,k1];exact k2
theorem E8 {n m sz:Nat}{f1 f:Nat→Value}{rest:Array Value} :
  (∀i j,i<n→j<sz→(((List.range (n * sz)).map f1).toArray++((List.range (m * sz)).map f).toArray++rest)[0+i * sz+j]? = some (f1 (i * sz+j)))∧
  (∀i j,i<m→j<sz→(((List.range (n * sz)).map f1).toArray++((List.range (m * sz)).map f).toArray++rest)[0+(n+i) * sz+j]? = some (f (i * sz+j))):=by
 constructor
 ·intro i j hi hj;have:=DS hi hj;rw[Jal,Jak (by simp;omega)];simp only[Jaw,Jo,J3];rw[Jab this];rfl
 ·intro i j hi hj;have:=DS hi hj;have e0:0+(n+i) * sz+j=n * sz+(i * sz+j):=by rw[Jm];omega
  rw[e0,Jal,Array.getElem?_append_right (by simp)];rw[Jak (by simp;omega)];simp only[Jaw,Jo,List.size_toArray,List.length_map,Jba,Nat.add_sub_cancel_left];rw[Jab this];rfl
def G.newVirt (g:G)(l sz:Nat):G:={ g with io:=fun x=>if x=l then some (0,sz+1,0)else g.io x }
theorem Pl (hs:Sat H g w){l:Nat}(hl:g.io l=none)(sz:Nat):Stp H g w (H.set l (.vec sz [])) (g.newVirt l sz) w:=by
 have a9:Le g w (g.newVirt l sz) w:=by
  refine⟨fun b hb=>⟨hb,rfl⟩,fun m x hm=>?_,Ju _,fun _ _ _ h=>h,rfl,rfl,rfl⟩;simp only[G.newVirt];have:m≠l:=fun h=>by subst h;rw[hl]at hm;simp at hm
  rw[if_neg this];exact hm
 have hk:∀m,AR g w (g.newVirt l sz) w m:=fun m b q hb=>⟨hb,rfl⟩;refine⟨a9,fun m hm hn=>?_,⟨hs.fresh,?_,hs.excl,fun b m q hb=>?_,fun m=>?_⟩⟩
 ·have:m≠l:=fun h=>by subst h;exact hm hl
  rw[Heap.af _ _ this];exact⟨hn,fun b q hb=>hk m b q hb⟩
 ·obtain⟨N,hN⟩:=hs.names;refine⟨max N (l+1),fun m hm=>?_⟩;simp only[G.newVirt];rw[if_neg (by omega)];exact hN m (by omega)
 ·simp only[G.newVirt];split
  ·simp
  ·exact hs.named b m q hb
 ·by_cases hm:m=l
  ·subst hm;rw[Heap.ay];exact .inl ⟨rfl,_,by simp[G.newVirt];rfl,by simp⟩
  ·have cu:=Heap.af H (.vec sz []) hm;rw[cu,←cu];refine SatObj.keep hs a9 (hk m) cu fun m' v left cur hc v' es hv=>?_;by_cases dz:m'=l
   ·subst dz;rw[Heap.ay]at hv;simp at hv
   ·rw[Heap.af _ _ dz]at hv;exact .inl ⟨hv,hk m'⟩
theorem KD (hs:Sat H g w)(l:Nat)(hm:∀v es,H l≠.map v es):Stp H g w (H.set l .none) g w:=by
 refine⟨.refl _ _,fun m hm hn=>?_,⟨hs.fresh,hs.names,hs.excl,hs.named,fun m=>?_⟩⟩
 ·by_cases h:m=l
  ·subst h;rw[Heap.ay];exact⟨rfl,fun b q hb=>⟨hb,rfl⟩⟩
  ·rw[Heap.af _ _ h];exact⟨hn,fun b q hb=>⟨hb,rfl⟩⟩
 ·by_cases h:m=l
  ·subst h;rw[Heap.ay];trivial
  ·have cu:=Heap.af H .none h;rw[cu,←cu];refine SatObj.keep hs (.refl _ _) (fun b q hb=>⟨hb,rfl⟩) cu fun m' v left cur hc v' es hv=>?_;by_cases dz:m'=l
   ·subst dz;rw[Heap.ay]at hv;simp at hv
   ·rw[Heap.af _ _ dz]at hv;exact .inl ⟨hv,fun b q hb=>⟨hb,rfl⟩⟩
theorem Qb2g {sz:Nat}{x y:Opd}{x' y':Operand}{ats:Array TypeId}{t t2 el el2:TypeId}{i:TypeInfo}{z:Value}{K:V→Heap→Prop}
  (hm:o.op=.call { callee:=.builtin .append,args:=#[x',y'],argTypes:=ats }) (h0:ats[0]? = some t) (h1:ats[1]? = some t2) (hu:P.underlying t=some (.slice el)) (bU:P.underlying t2=some (.slice el2))
  (hi:P.info? el=some i) (hz:i.size=sz) (aY:i.zero=some z) (dl:z.cells.size=sz) (eB:i.bytes≤128) (fm:i.bytes≠0) (hx:mO x x'=true) (hy:mO y y'=true)
  (hs:Sat H g w) (he:EnvOk w g e a) (hp:p=true) (ho:(EOp.app sz x y).eff P p e H K):EOk P H g w a o K:=by
 simp only[EOp.eff]at ho;obtain⟨q1,q2,q3,q4,q5⟩:=ho;have em:=Al he hx hp q1;have gJ:=Al he hy hp q2;rw[Bc q3]at em;rw[Bc q4]at gJ;have dt:=em.aA;have hX:=gJ.aA;generalize j6:a.eval x'=xv at dt;generalize nw:a.eval y'=yv at hX;generalize (x.v e).c1=A at dt q5;generalize (y.v e).c1=B at hX q5;have bp:(execOp a.eval o).run P w=((Builtin.append_ ats o.type #[xv,yv]).run P w).andThen fun v w'=>.ok (.value v) w':=by
  simp[execOp,hm,resolve,invoke,builtin,j6,nw]
 unfold appT at q5;obtain⟨b1,b2,q5⟩:=q5;obtain⟨ady,capy,jl,by1,by2,by3,by4⟩:=Fm hs hX b1;rw[b2]at by3;have da:=Hh hs;split at q5
 ·
  rename_i z' rows
  obtain⟨rfl,c2,c3,c4,c5⟩:=q5;have lr:∀r∈rowsOf H B,ar r=true:=fun r hr=>c3 r (List.mem_append_right _ hr);have dO:∃ad,xv=.slice ad rows.length rows.length:=by
   cases dt with
   |bk _ _ ad=>exact⟨ad,rfl⟩
   |sl _ _ _ b off cap val hl hf ci bV dx jc ip=>rw[hf rfl];exact⟨_,rfl⟩
  obtain⟨ad,rfl⟩:=dO;by_cases dg:ax B=0
  ·have eq:rows=[]:=by
    rcases c2 with h|h
    ·exact h
    ·exact absurd (Jy.1 (by omega)) h
   subst eq;obtain⟨l,hl,mf⟩:=hs.newName;obtain⟨f,f1,f2,f3⟩:=Ff hs hX b1 b2 lr;rw[jl]at f1;have bx:=G9 (P:=P) (w:=w) (ty:=o.type) (base:=ad) (n:=0) (cap:=0) (m:=ax B) h0 h1 hu bU hi hz (by omega) f1 (w':=w)
    (fun x _=>by rw[dg];simp[storeCells]) (fun _=>rfl)
   refine EOk.value (v:=.slice ad (0+ax B) 0) (by rw[bp,jl];simp only[Jax];rw[bx];rfl) (c5 l mf) ?_ ?_ (g':=g.newVirt l z')
   ·have kR:rowsOf H B=[]:=Jy.1 (by omega);rw[kR];exact Pl hs hl z'
   ·simp only[Jax,dg,J1];exact .c _ _ (.bf _ _ _ _)
  ·obtain⟨l,hl,mf⟩:=da.sat.newName;have lN:=dt.mono da.le;have lM:=hX.mono da.le;have hA:∀r∈rowsOf H (C.sl true z' rows),ar r=true:=fun r hr=>c3 r (List.mem_append_left _ hr);obtain⟨f,f1,f2,f3⟩:=Ff da.sat lM b1 b2 lr;obtain⟨f',f1',f2',f3'⟩:=Ff da.sat lN (s:=.sl true z' rows) trivial (sz:=z') rfl hA;rw[jl]at f1;simp only[ax]at f1';obtain⟨newCap,rest,k1,k2,k3⟩:=Oo (P:=P) (w:=w) (ty:=o.type) h0 h1 hu bU hi hz aY dl eB fm (base:=ad) (n:=rows.length) (cap:=rows.length) (m:=ax B) (by omega) c4 f1 f1';have bn:=E8 (n:=rows.length) (m:=ax B) (sz:=z') (f1:=f') (f:=f) (rest:=rest);generalize cp:(((List.range (rows.length * z')).map f').toArray++((List.range (ax B * z')).map f).toArray++rest)=arr at k3 bn;have ez:arr.size=newCap * z':=by
    rw[←cp];simp[k2];rw[←Jm,←Jm];congr 1;omega
   have aF:=Dl da.sat hl z' 0 (.cells arr el) (.vec z' (rows++rowsOf H B)) (fun g' hg=>by
    subst hg;have a9:=ET da.sat hl z' 0 (.cells arr el);refine .inr (EU (nb:=w.drew.heap.size) (base:=0) (T:=el) (arr:=arr) (n:=rows.length) (m:=ax B) (by simp[G.newObj]) (by simp[G.newObj]) (BQ _ _)
     (by rw[ez,J3];exact Jn _ k1) c4 rfl (by omega) ?_ by3 ?_ ?_)
    ·cases dt with
     |bk=>simp
     |sl _ _ _ b off cap val hl hf ci bV dx jc ip=>exact dx
    ·intro i row j c e1 e2;have ql:row.length=z':=by
      cases dt with
      |bk=>simp at e1
      |sl _ _ _ b off cap val hl hf ci bV dx jc ip=>exact dx _ _ e1
     refine⟨f' (i * z'+j),bn.1 i j ?_ ?_,.plain _ _ _ _ ((f3' i row j c e1 e2).mono a9)⟩
     ·rcases Jf i rows.length with h|h
      ·exact h
      ·rw[Je h]at e1;simp at e1
     ·rw[←ql];rcases Jf j row.length with h|h
      ·exact h
      ·rw[Je h]at e2;simp at e2
    ·intro i row j c e1 e2;refine⟨f (i * z'+j),bn.2 i j ?_ ?_,(f3 i row j c e1 e2).mono a9⟩
     ·rcases Jf i (rowsOf H B).length with h|h
      ·omega
      ·rw[Je h]at e1;simp at e1
     ·rw[←by3 i row e1];rcases Jf j row.length with h|h
      ·exact h
      ·rw[Je h]at e2;simp at e2)
   refine EOk.value (v:=.slice (some ⟨w.heap.size,0,none⟩) (rows.length+ax B) newCap) (by rw[bp,jl,k3];rfl) (c5 l mf) (da.trans aF) ?_;have:=RepC.aG (w:=w.drew.alloc (.cells arr el)) (g:=g.newObj l w.drew.heap.size z' 0) l z' 0 (rows.length+ax B) newCap w.heap.size 0 el arr.size (by simp[G.newObj]) k1
    (by simp only[World.shape?];rw[show w.heap.size=w.drew.heap.size from rfl,BQ]) (by rw[ez];simp)
   simpa using RepV.c _ _ this
 ·
  rename_i l z' st n
  split at q5
  ·rename_i y0 rows hH
   obtain⟨kf,kj,c2,lr,c4,c5⟩:=q5;subst kj;subst kf;have aZ:=hs.objs l;rw[hH]at aZ;have fc:H l≠.none:=by rw[hH];simp
   have dd:∀v es,H l≠.map v es:=by rw[hH];simp
   have ey:(∃ad,xv=.slice ad 0 0∧n=0)∨∃b base cap T mm,xv=.slice (some ⟨b,base+st * z',none⟩) n cap∧g.io l=some (b,z',base)∧n≤cap∧w.shape? b=some (T,mm)∧base+(st+cap) * z'≤mm:=by
    cases dt with
    |bf _ _ _ ad=>exact .inl ⟨ad,rfl,rfl⟩
    |aG _ _ _ _ cap b base T mm bd hn ej gX=>exact .inr ⟨b,base,cap,T,mm,rfl,bd,hn,ej,gX⟩
   have aO:((rows.drop st).take n).length=n:=by simp;omega
   have cG:∀(i:Nat) (row:List C),((rows.drop st).take n)[i]? = some row→i<n∧rows[st+i]? = some row:=by
    intro i row h;simp only[Jp,Jr]at h;split at h
    ·exact⟨by assumption,h⟩
    ·simp at h
   have jlt:∀{row:List C} {j:Nat} {c:C} {k:Nat},row.length=k→row[j]? = some c→j<k:=by
    intro row j c k hk hj;rw[←hk];rcases Jf j row.length with h|h
    ·exact h
    ·rw[Je h]at hj;simp at hj
   have grow:∀(ad:Option Addr) (cap:Nat),xv=.slice ad n cap→¬n+ax B≤cap→EOk P H g w a o K:=by
    intro ad cap dO mt;have lM:=hX.mono da.le;obtain⟨f,f1,f2,f3⟩:=Ff da.sat lM b1 b2 lr;rw[jl]at f1;have dR:∃f':Nat→Value,(Builtin.firstCells z' n (.slice ad n cap)).run P w.drew=.ok ((List.range (n * z')).map f').toArray w.drew∧
      ∀(i:Nat) (row:List C) (j:Nat) (c:C),((rows.drop st).take n)[i]? = some row→row[j]? = some c→RepO w g l [st+i,j] c (f' (i * z'+j)):=by
     rcases ey with ⟨ad',h1,h2⟩|⟨b,base,cap',T,mm,h1,h2,h3,h4,h5⟩
     ·rw[dO]at h1;simp only[Value.slice.injEq]at h1;subst h2;refine⟨fun _=>undef,?_,fun i row j c e1 _=>by simp at e1⟩
      cases ad with
      |none=>simp[Builtin.firstCells]
      |some q=>simp[Builtin.firstCells,loadCells,loadCellsFrom]
     ·rw[dO]at h1;simp only[Value.slice.injEq]at h1;obtain⟨rfl,_,rfl⟩:=h1;obtain⟨b',base',T',cs,val,r1,r2,r3,r4,r5,r6,r7,r8⟩:=SatVec.of aZ h2;rw[h2]at r1;simp only[Jb,Ji,true_and]at r1;obtain⟨rfl,rfl⟩:=r1;have ba:(st+n) * z'≤rows.length * z':=Jn _ c2;rw[Jm]at ba;refine⟨fun q=>cs.getD (base+st * z'+q) undef,?_,fun i row j c e1 e2=>?_⟩
      ·simp only[Builtin.firstCells];refine run_loadCells _ _ _ _ fun j hj=>?_;rw[BS];rw[show w.drew.cell? ⟨b,base+st * z'+j,none⟩=w.cell? ⟨b,base+st * z'+j,none⟩ from rfl,EW r3];rw[Jh,Jd (by omega)];rfl
      ·obtain⟨hi,e1'⟩:=cG i row e1;have:=r7 _ _ _ _ e1' e2;rw[Jm]at this;have e3:base+st * z'+(i * z'+j)=base+(st * z'+i * z')+j:=(by omega);show RepO _ _ _ _ _ (cs.getD (base+st * z'+(i * z'+j)) undef);rw[e3,Jh,this];exact r8 _ _ _ _ e1' e2
    obtain⟨f',f1',f3'⟩:=dR;obtain⟨newCap,rest,k1,k2,k3⟩:=Oo (P:=P) (w:=w) (ty:=o.type) h0 h1 hu bU hi hz aY dl eB fm (base:=ad) (n:=n) (cap:=cap) (m:=ax B) mt c4 f1 f1';have bn:=E8 (n:=n) (m:=ax B) (sz:=z') (f1:=f') (f:=f) (rest:=rest);generalize cp:(((List.range (n * z')).map f').toArray++((List.range (ax B * z')).map f).toArray++rest)=arr at k3 bn;have ez:arr.size=newCap * z':=by
     rw[←cp];simp[k2];rw[←Jm,←Jm];congr 1;omega
    obtain⟨l',cB,cW⟩:=da.sat.newName;have dq:l'≠l:=fun h=>(by subst h;exact fc (hs.none_of_io cB));have aF:=P9 da.sat (l:=l) (l':=l') cB fc (st:=st) (n:=n) (nb:=w.drew.heap.size) (sz:=z') (base:=0) (w':=w.drew.alloc (.cells arr el)) (rows:=(rows.drop st).take n++rowsOf H B)
     (.inr rfl) (by simp) (by simp) (by simp) (fun b hb aa=>Dj _ _ aa) (fun h=>absurd h (Nat.lt_irrefl _)) rfl rfl rfl (fun a9=>by
      refine EU (nb:=w.drew.heap.size) (base:=0) (T:=el) (arr:=arr) (n:=n) (m:=ax B) (by simp[G.handOver]) (by simp[G.handOver]) (BQ _ _)
       (by rw[ez,J3];exact Jn _ k1) c4 aO (by omega) (fun i row h=>?_) by3 (fun i row j c e1 e2=>?_) (fun i row j c e1 e2=>?_)
      ·obtain⟨hi,h'⟩:=cG i row h;rcases aZ with ⟨r1,_⟩|⟨b',base',T',cs,val,r1,r2,r3,r4,r5,r6,r7,r8⟩
       ·rw[r1]at h';simp at h'
       ·exact r6 _ _ h'
      ·obtain⟨hi,h'⟩:=cG i row e1;have bZ:row.length=z':=by
        rcases aZ with ⟨r1,_⟩|⟨b',base',T',cs,val,r1,r2,r3,r4,r5,r6,r7,r8⟩
        ·rw[r1]at h';simp at h'
        ·exact r6 _ _ h'
       refine⟨f' (i * z'+j),bn.1 i j hi (jlt bZ e2),?_⟩;refine (f3' i row j c e1 e2).move (da.le.trans a9) fun q b hb=>?_;have i3:=C1 hs hb;have gn:b≠w.drew.heap.size:=(by simp only[World.size_drew];omega);exact⟨PD hb hi gn,Dj _ _ i3⟩
      ·refine⟨f (i * z'+j),bn.2 i j ?_ (jlt (by3 i row e1) e2),(f3 i row j c e1 e2).mono a9⟩;rcases Jf i (rowsOf H B).length with h|h
       ·omega
       ·rw[Je h]at e1;simp at e1) dd
    refine EOk.value (v:=.slice (some ⟨w.heap.size,0,none⟩) (n+ax B) newCap) (by rw[bp,dO,jl,k3];rfl) (c5 l' (by rw[Heap.af _ _ dq];exact cW)) (da.trans aF) ?_;have:=RepC.aG (w:=w.drew.alloc (.cells arr el)) (g:=g.handOver l l' st n w.drew.heap.size z' 0) l' z' 0 (n+ax B) newCap w.heap.size 0 el arr.size (by simp[G.handOver]) k1
     (by simp only[World.shape?];rw[show w.heap.size=w.drew.heap.size from rfl,BQ]) (by rw[ez];simp)
    simpa using RepV.c _ _ this
   rcases ey with ⟨ad,dO,rfl⟩|⟨b,base,cap,T,mm,dO,bd,nB,ej,gX⟩
   ·by_cases dg:ax B=0
    ·
     obtain⟨f,f1,f2,f3⟩:=Ff hs hX b1 b2 lr;rw[jl]at f1;have bx:=G9 (P:=P) (w:=w) (ty:=o.type) (base:=ad) (n:=0) (cap:=0) (m:=ax B) h0 h1 hu bU hi hz (by omega) f1 (w':=w)
      (fun x _=>by rw[dg];simp[storeCells]) (fun _=>rfl)
     have hd:=KD hs l dd;obtain⟨l',cB,cW⟩:=hd.sat.newName;refine EOk.value (v:=.slice ad (0+ax B) 0) (by rw[bp,dO,jl,bx];rfl) (c5 l' cW) ?_ ?_ (g':=g.newVirt l' z')
     ·have kR:rowsOf H B=[]:=Jy.1 (by omega);rw[kR];simp only[List.take_zero,Jav];exact hd.trans (Pl hd.sat cB z')
     ·simp only[dg,J1];exact .c _ _ (.bf _ _ _ _)
    ·exact grow ad 0 dO (by omega)
   ·by_cases bN:n+ax B≤cap
    ·
     obtain⟨b',base',T',cs,val,r1,r2,r3,r4,r5,r6,r7,r8⟩:=SatVec.of aZ bd;rw[bd]at r1;simp only[Jb,Ji,true_and]at r1;obtain⟨rfl,rfl⟩:=r1;have lu:mm=cs.size∧T=T':=by
      simp only[World.shape?,r3,Jb,Ji]at ej;exact⟨ej.2.symm,ej.1.symm⟩
     obtain⟨rfl,rfl⟩:=lu;obtain⟨f,f1,f2,f3⟩:=Ff hs hX b1 b2 lr;rw[jl]at f1;have fS:(st+(n+ax B)) * z'≤(st+cap) * z':=Jn _ (by omega);rw[Jm,Jm]at fS;have ba:base+st * z'+n * z'+ax B * z'≤cs.size:=by
      rw[Jm]at gX fS;omega
     have di:=fun k=>Fp (base+st * z'+n * z') ((List.range (ax B * z')).map f) 0 cs k (by simp;omega);generalize gR:(((List.range (ax B * z')).map f).zipIdx 0).foldl (fun (cs:Array Value) (x:Value×Nat)=>cs.setIfInBounds (base+st * z'+n * z'+x.2) x.1) cs=cs' at di;have eg:=HM (P:=P) ((List.range (ax B * z')).map f) 0 w b (base+st * z'+n * z') cs T r3 (by simp;omega) (by
      intro v hv;simp only[Jbi,Jbh]at hv;obtain⟨q,hq,rfl⟩:=hv;exact f2 q hq)
     rw[gR]at eg;have bx:=G9 (P:=P) (w:=w) (ty:=o.type) (base:=some ⟨b,base+st * z',none⟩) (n:=n) (cap:=cap) (m:=ax B) h0 h1 hu bU hi hz bN f1 (w':=World.au w b cs' T)
      (fun x hx=>by simp only[Jb]at hx;subst hx;rw[BS];exact eg) (fun h=>by simp at h)
     have dD:=Fq r3;obtain⟨l',cB,cW⟩:=hs.newName;have dq:l'≠l:=fun h=>(by subst h;exact fc (hs.none_of_io cB));have fH:cs'.size=cs.size:=(di 0).1;have aF:=P9 hs (l:=l) (l':=l') cB fc (st:=st) (n:=n) (nb:=b) (sz:=z') (base:=base+st * z') (w':=World.au w b cs' T) (rows:=(rows.drop st).take n++rowsOf H B)
      (.inl ⟨dD,r2⟩) (by simp[World.au]) (by simp[World.au];exact dD) (by simp[World.au];omega) (fun b' aR _=>DL aR)
      (fun _ T0 k hk=>by
       simp only[World.shape?,r3,Jb,Ji]at hk;simp only[World.shape?,DY dD,fH,Jb,Ji];exact hk) rfl rfl rfl (fun a9=>by
       refine EU (nb:=b) (base:=base+st * z') (T:=T) (arr:=cs') (n:=n) (m:=ax B) (by simp[G.handOver]) (by simp[G.handOver]) (DY dD)
        (by rw[fH,Jm];omega) c4 aO (by omega) (fun i row h=>r6 _ _ (cG i row h).2) by3 (fun i row j c e1 e2=>?_) (fun i row j c e1 e2=>?_)
       ·obtain⟨hi,h'⟩:=cG i row e1;have hj:=jlt (r6 _ _ h') e2;have aa:=DS hi hj;refine⟨val (st+i) j,?_,?_⟩
        ·rw[(di _).2,if_neg (by omega),←r7 _ _ _ _ h' e2];congr 1;rw[Jm];omega
        ·refine (r8 _ _ _ _ h' e2).move a9 fun q b2 br=>?_;have gn:b2≠b:=fun h=>(by subst h;rw[r2]at br;simp at br);exact⟨PD br hi gn,DL gn⟩
       ·have hj:=jlt (by3 i row e1) e2;have hi:i<ax B:=by
         rcases Jf i (rowsOf H B).length with h|h
         ·omega
         ·rw[Je h]at e1;simp at e1
        have aa:=DS hi hj;refine⟨f (i * z'+j),?_,(f3 i row j c e1 e2).mono a9⟩;have ir:(n+i) * z'=n * z'+i * z':=(by rw[Jm]);rw[(di _).2,if_pos (by simp;omega)];rw[show base+st * z'+(n+i) * z'+j-(base+st * z'+n * z'+0)=i * z'+j by omega];simp only[Jo];rw[Jab aa];rfl) dd
     refine EOk.value (v:=.slice (some ⟨b,base+st * z',none⟩) (n+ax B) cap) (by rw[bp,dO,jl,bx];rfl) (c5 l' (by rw[Heap.af _ _ dq];exact cW)) aF ?_;have:=RepC.aG (w:=World.au w b cs' T) (g:=g.handOver l l' st n b z' (base+st * z')) l' z' 0 (n+ax B) cap b (base+st * z') T cs.size (by simp[G.handOver]) bN
      (by simp only[World.shape?,DY dD,fH]) (by rw[J3];rw[Jm]at gX;omega)
     simpa using RepV.c _ _ this
    ·exact grow _ cap dO bN
  ·exact q5.elim
 ·exact q5.elim
end Go.AE
namespace Go.AE
open Go.MapKept (IsKey findNow_spec run_checkKey run_findKey run_keyThatStays)
variable {P:Program}{H:Heap}{g:G}{w:World}{e:Env}{a:Act}{o:Oper}{p:Bool}
theorem Qb2m {sz:Nat}{zero:List C}{x:Opd}{x' y':Operand}{t el:TypeId}{i:TypeInfo}{z:Value}{K:V→Heap→Prop}(hm:o.op=.makeSlice t x' y')(hu:P.underlying t=some (.slice el))
  (hi:P.info? el=some i) (hz:i.size=sz) (rt:sz≠0) (aY:i.zero=some z) (mh:B1 zero z=true) (dl:zero.length=sz) (eB:i.bytes≤128) (hx:mO x x'=true) (hy:mO x y'=true)
  (hs:Sat H g w) (he:EnvOk w g e a) (hp:p=true) (ho:(EOp.mks sz zero x).eff P p e H K):EOk P H g w a o K:=by
 simp only[EOp.eff]at ho;obtain⟨q1,q2,q3,q4,q5⟩:=ho;have e1:=C9 he hx hp q1 q2;have e2:=C9 he hy hp q1 q2;generalize hk:Q2 (x.v e)=k at *;have hr:=Ft (w:=w) (g:=g) mh;rw[Bu]at q4;have rz:IntKind.i64.wrap k=k:=CL (by unfold inR;simp[IntKind.min,IntKind.max,IntKind.signed,IntKind.bits];omega);have m9:(i.bytes:Int) * k≤128 * 549755813888:=by
  have h1:(i.bytes:Int) * k≤128 * k:=Int.mul_le_mul_of_nonneg_right (by omega) q3;omega
 have h48:(2:Int) ^ 48=281474976710656:=by decide
 obtain⟨l,hl,hH⟩:=hs.newName;have bR:z.cells.size=sz:=by rw[hr.1,dl]
 have mw:k.toNat * sz=0∨k.toNat * sz≠0:=by omega
 have bx:∃arr:Array Value,(execOp a.eval o).run P w=.ok (.value (.slice (some ⟨w.heap.size,0,none⟩) k.toNat k.toNat)) (w.alloc (.cells arr el))∧arr.size=k.toNat * sz∧
   ∀q,q<k.toNat * sz→arr[q]? = z.cells[q % sz]?:=by
  by_cases hn:k.toNat * sz=0
  ·refine⟨(Array.range 0).map (fun _=>default),?_,by simp[hn],fun q hq=>by omega⟩;simp only[execOp,hm,e1,e2,Instr.makeSlice,Sem.run_bind,Qz hu,Result.andThen_ok,asInt,asIntOf,Sem.run_pure,Fx hi,rz];rw[if_neg (by simp;omega)];simp[Bb hi,hz,hn,newRow]
  ·refine⟨(Array.range (k.toNat * sz)).map (z.cells[· % z.cells.size]!),?_,by simp,fun q hq=>?_⟩
   ·simp only[execOp,hm,e1,e2,Instr.makeSlice,Sem.run_bind,Qz hu,Result.andThen_ok,asInt,asIntOf,Sem.run_pure,Fx hi,rz];rw[if_neg (by simp;omega)];simp only[Sem.run_bind,run_askRoom,Result.andThen_ok,Bb hi,hz,if_neg hn,BM hi aY,Sem.run_pure];simp[newRow]
   ·have aa:q % sz<z.cells.size:=(by rw[bR];exact Jbb _ (by omega));simp only[Jam,bR];rw[Jaj,if_pos hq];simp[aa]
 obtain⟨arr,h1,h2,h3⟩:=bx;have a9:=ET hs hl sz 0 (.cells arr el);have aF:=Dl hs hl sz 0 (.cells arr el) (.vec sz (List.replicate k.toNat zero)) (fun g' hg=>by
  subst hg;have dc:∀(i:Nat) (row:List C),(List.replicate k.toNat zero)[i]? = some row→i<k.toNat∧row=zero:=by
   intro i row h;rw[Jar]at h;split at h
   ·exact⟨by assumption,by simpa using h.symm⟩
   ·simp at h
  have:=EU (g':=g.newObj l w.heap.size sz 0) (w':=w.alloc (.cells arr el)) (l':=l) (sz:=sz) (nb:=w.heap.size) (base:=0) (n:=k.toNat) (m:=0) (T:=el) (arr:=arr) (R1:=List.replicate k.toNat zero) (R2:=[])
   (by simp[G.newObj]) (by simp[G.newObj]) (BQ _ _) (by rw[h2];simp) (by rw[Bu];omega) (by simp) rfl (fun i row h=>by rw[(dc i row h).2,dl]) (by simp)
   (fun i row j c h h'=>by
    obtain⟨dI,rfl⟩:=dc i row h;have hj:j<sz:=by
     rw[←dl];rcases Jf j row.length with h0|h0
     ·exact h0
     ·rw[Je h0]at h';simp at h'
    have iA:=DS dI hj;have lt:(i * sz+j) % sz=j:=(by rw[Jaz,Jbf];exact Jbd hj);have nO:j<z.cells.size:=(by rw[bR];exact hj);refine⟨z.cells[j],?_,.plain _ _ _ _ ((hr.2 j c _ h' (Jd nO)).mono a9)⟩;rw[J3,h3 _ iA,lt];exact Jd nO) (by simp)
  rw[Jav]at this;exact .inr this)
 refine EOk.value h1 (q5 l hH) aF ?_;have:=RepC.aG (w:=w.alloc (.cells arr el)) (g:=g.newObj l w.heap.size sz 0) l sz 0 k.toNat k.toNat w.heap.size 0 el arr.size (by simp[G.newObj]) (Ju _)
  (by simp only[World.shape?,BQ]) (by rw[h2];simp)
 simpa using RepV.c _ _ this
theorem Qb0m {K:V→Heap→Prop}{sz:Nat}{parts:List Opd}{t el:TypeId}{n:Nat}{parts':Array (Nat×Operand)}{i:TypeInfo}{z:Value}
  (hm:o.op=.buildSlice t n parts') (hu:P.underlying t=some (.slice el)) (hi:P.info? el=some i) (hz:i.zero=some z) (be:i.size=sz) (kE:sz≠0)
  (hn:n=parts'.size) (lU:n * sz≤2 ^ 24) (fw:parts.length=parts'.size)
  (hx:∀(j:Nat) (x:Opd) (y:Nat×Operand),parts[j]? = some x→parts'[j]? = some y→y.1=j∧mO x y.2=true)
  (hs:Sat H g w) (he:EnvOk w g e a) (hp:p=true) (hK:(EOp.bslm sz parts).eff P p e H K):EOk P H g w a o K:=by
 simp only[EOp.eff]at hK;obtain⟨ho,hK⟩:=hK;have mr:(parts'.map fun (x:Nat×Operand)=>(x.1,a.eval x.2)).toList=parts'.toList.map fun (x:Nat×Operand)=>(x.1,a.eval x.2):=by simp
 have bn:∀(j:Nat) (y:Nat×Value),(parts'.toList.map fun (x:Nat×Operand)=>(x.1,a.eval x.2))[j]? = some y→
   ∃x y',parts[j]? = some x∧parts'[j]? = some y'∧y=(y'.1,a.eval y'.2):=by
  intro j y hj;simp only[Jo]at hj
  cases dA:parts'.toList[j]? with
  |none=>rw[dA]at hj;simp at hj
  |some y'=>
   rw[dA]at hj;simp at hj;have aa:j<parts.length:=by
    rw[fw];rcases Jf j parts'.size with h|h
    ·exact h
    ·simp[Jk h]at dA
   exact⟨_,y',Jc aa,by simpa using dA,hj.symm⟩
 have av:∀x∈parts,x.fine p e∧(x.v e).cells.length=sz∧(x.v e).cells≠[]:=fun x hx=>by
  obtain⟨q1,q2⟩:=ho x hx;exact⟨q1,q2,fun hn=>kE (by rw[←q2,hn];rfl)⟩
 have fP:(parts'.toList.map fun (x:Nat×Operand)=>(x.1,a.eval x.2)).length=n:=by simp[hn]
 obtain⟨out,f1,f2,f3,f4⟩:=Gw sz (parts'.toList.map fun (x:Nat×Operand)=>(x.1,a.eval x.2)) 0
  ((Array.range (n * sz)).map ((if n * sz=0 then #[]else z.cells)[· % (if n * sz=0 then #[]else z.cells).size]!)) (fun j y hj=>by
   obtain⟨x,y',e1,e2,rfl⟩:=bn j y hj;obtain⟨q1,q2⟩:=hx j x y' e1 e2;obtain⟨q3,q4,q5⟩:=av x (Jg e1);refine⟨by simp[q1],?_⟩;rw[(HD (Al he q2 hp q3) q5).1,q4]) (by rw[fP];simp)
 obtain⟨l,hl,hH⟩:=hs.newName;have bx:(execOp a.eval o).run P w=.ok (.value (.slice (some ⟨w.heap.size,0,none⟩) n n)) (w.alloc (.cells out el)):=by
  simp only[execOp,hm,Instr.buildSlice,Sem.run_bind,Qz hu,Result.andThen_ok,Bb hi,be,mr];rw[if_neg (by omega)];by_cases h0:n * sz=0
  ·simp only[if_pos h0]at f1⊢;simp only[Sem.run_bind,Sem.run_pure,Result.andThen_ok];rw[f1];simp[newRow]
  ·simp only[if_neg h0]at f1⊢;simp only[Sem.run_bind,Sem.run_pure,Result.andThen_ok,BM hi hz];rw[f1];simp[newRow]
 have eS:(parts.map fun x=>(x.v e).cells).length=n:=by simp[fw,hn]
 have ju:∀(k:Nat) (row:List C),(parts.map fun x=>(x.v e).cells)[k]? = some row→∃x y,parts[k]? = some x∧parts'[k]? = some y∧row=(x.v e).cells:=by
  intro k row hk;simp only[Jo]at hk
  cases hj:parts[k]? with
  |none=>rw[hj]at hk;simp at hk
  |some x=>
   rw[hj]at hk;simp at hk;have aa:k<parts'.size:=by
    rw[←fw];rcases Jf k parts.length with h|h
    ·exact h
    ·rw[Je h]at hj;simp at hj
   exact⟨x,parts'[k],rfl,Jd aa,hk.symm⟩
 have bW:∀(k:Nat) (row:List C) (j:Nat) (c:C),(parts.map fun x=>(x.v e).cells)[k]? = some row→row[j]? = some c→∃u,out[0+k * sz+j]? = some u∧RepC w g c u:=by
  intro k row j c hk hj;obtain⟨x,y,e1,e2,rfl⟩:=ju k row hk;obtain⟨q1,q2⟩:=hx k x y e1 e2;obtain⟨q3,q4,q5⟩:=av x (Jg e1);have hr:=HD (Al he q2 hp q3) q5;have eM:j<sz:=by
   rw[←q4];rcases Jf j (x.v e).cells.length with h|h
   ·exact h
   ·rw[Je h]at hj;simp at hj
  have lB:j<(a.eval y.2).cells.size:=by rw[hr.1,q4];exact eM
  have:=f4 k (y.1,a.eval y.2) j (by simp only[Jo,Jt,e2,Js]) eM;simp only[J3]at this⊢;rw[this];exact⟨_,Jd lB,hr.2 j c _ hj (Jd lB)⟩
 have cH:out.size=n * sz:=by
  rw[f2];simp
 have hn24:n≤16777216:=by
  have cA:n * 1≤n * sz:=Ja3 _ (by omega);have rl:(2:Nat) ^ 24=16777216:=by decide
  rw[rl]at lU;omega
 have a9:=ET hs hl sz 0 (.cells out el);have aF:=Dl hs hl sz 0 (.cells out el) (.vec sz (parts.map fun x=>(x.v e).cells)) (fun g' hg=>by
  subst hg;have:=EU (g':=g.newObj l w.heap.size sz 0) (w':=w.alloc (.cells out el)) (l':=l) (sz:=sz) (nb:=w.heap.size) (base:=0) (n:=n) (m:=0) (T:=el) (arr:=out) (R1:=parts.map fun x=>(x.v e).cells) (R2:=[])
   (by simp[G.newObj]) (by simp[G.newObj]) (BQ _ _) (by rw[cH];simp) (by rw[Bu];omega) eS rfl
   (fun k row hk=>by obtain⟨x,y,e1,e2,rfl⟩:=ju k row hk;exact (av x (Jg e1)).2.1) (by simp)
   (fun k row j c hk hj=>by
    obtain⟨u,e1,e2⟩:=bW k row j c hk hj;exact⟨u,e1,.plain _ _ _ _ (e2.mono a9)⟩) (by simp)
  rw[Jav]at this;exact .inr this)
 have ga:parts.length=n:=by rw[fw,hn]
 refine EOk.value bx (hK l hH) aF ?_;rw[ga];have:=RepC.aG (w:=w.alloc (.cells out el)) (g:=g.newObj l w.heap.size sz 0) l sz 0 n n w.heap.size 0 el out.size (by simp[G.newObj]) (Ju _)
  (by simp only[World.shape?,BQ]) (by rw[cH];simp)
 simpa using RepV.c _ _ this
theorem Qb2l {t:TypeId}{K:V→Heap→Prop}(hm:o.op=.makeMap t none)(hs:Sat H g w)(ho:EOp.mkm.eff P p e H K):EOk P H g w a o K:=by
 simp only[EOp.eff]at ho;obtain⟨l,hl,hH⟩:=hs.newName;have aF:=Dl hs hl 0 0 (.map #[] 0) (.map 0 []) (fun g' hg=>by
  subst hg;exact⟨w.heap.size,#[],0,by simp[G.newObj],by simp[G.newObj],BQ _ _,rfl,by simp[Bu],by simp,by simp,by simp⟩)
 refine EOk.value (v:=.map (some w.heap.size)) (w':=w.alloc (.map #[] 0)) (by simp[execOp,hm,Instr.makeMap]) (ho l hH) aF (.c _ _ (.mp l w.heap.size (by simp[G.newObj])))
def World.putObj' (w:World)(b:Nat)(x:Go.Obj):World:={ w with heap:=w.heap.setIfInBounds b x }
theorem Q9x {w:World}{b:Nat}{x:Go.Obj}(h:b<w.heap.size):(World.putObj' w b x).heap[b]? = some x:=by simp[World.putObj',h]
theorem P1 {w:World}{b b':Nat}{x:Go.Obj}(h:b'≠b):(World.putObj' w b x).heap[b']? = w.heap[b']?:=by
 simp only[World.putObj'];rw[Jw (Ne.symm h)]
theorem Fo {b:Nat}{x y:Go.Obj}(h:w.heap[b]? = some x)(hx:∀c T f,x≠.cells c T f):(setObj b y).run P w=.ok () (World.putObj' w b y):=by
 simp only[setObj,Sem.run,h];cases x <;> first|rfl|exact absurd rfl (hx _ _ _)
theorem Ic (hs:Sat H g w){l b:Nat}(hb:g.own b=some (l,[])){ms ms':Array MapEntry}{clock clock':Nat}(hw:w.heap[b]? = some (.map ms clock)){n:Nat}{es es':List (C×V)}(hH:H l=.map n es)
  (aZ:Le g w g (World.putObj' w b (.map ms' clock'))→(World.putObj' w b (.map ms' clock')).heap[b]? = some (.map ms' clock')→SatObj (H.set l (.map (n+1) es')) g (World.putObj' w b (.map ms' clock')) l (.map (n+1) es')) :
  Stp H g w (H.set l (.map (n+1) es')) g (World.putObj' w b (.map ms' clock')):=by
 have aa:=Fq hw;refine Ri hs hb (by simp[World.putObj']) (fun b' h=>P1 h) (fun T' k hk=>?_) rfl rfl rfl _ (by rw[hH];simp) (fun a9=>aZ a9 (Q9x aa)) (fun v x h=>?_)
 ·simp[World.shape?,hw]at hk
 ·simp at h;exact⟨n,es,hH,by omega⟩
theorem Ov:∀(es:List (C×V)) (k:C) (v:V) (j:Nat) (x:C×V),es[j]? = some x→AM k x.1=true→(∀i y,i<j→es[i]? = some y→AM k y.1=false)→AG k v es=es.set j (k,v)
 |[],_,_,_,_,h,_,_=>by simp at h
 |y::es,k,v,0,x,h,hk,_=>by simp at h;subst h;simp[AG,hk]
 |y::es,k,v,j+1,x,h,hk,hh=>by
  have h0:=hh 0 y (by omega) rfl;simp only[AG,h0,Jq,if_false,List.set_cons_succ];rw[Ov es k v j x (by simpa using h) hk fun i z hi hz=>hh (i+1) z (by omega) (by simpa using hz)]
theorem KW:∀(es:List (C×V)) (k:C) (v:V),(∀x∈es,AM k x.1=false)→AG k v es=es++[(k,v)]
 |[],_,_,_=>rfl
 |y::es,k,v,h=>by
  simp only[AG,h y (by simp),Jq,if_false,List.cons_append];rw[KW es k v fun x hx=>h x (by simp[hx])]
theorem OL:∀(es:List (C×V)) (k:C) (j:Nat) (x:C×V),es[j]? = some x→AM k x.1=true→(∀i y,i<j→es[i]? = some y→AM k y.1=false)→delE k es=es.eraseIdx j
 |[],_,_,_,h,_,_=>by simp at h
 |y::es,k,0,x,h,hk,_=>by simp at h;subst h;simp[delE,hk]
 |y::es,k,j+1,x,h,hk,hh=>by
  have h0:=hh 0 y (by omega) rfl;simp only[delE,h0,Jq,if_false,Jaq];rw[OL es k j x (by simpa using h) hk fun i z hi hz=>hh (i+1) z (by omega) (by simpa using hz)]
theorem NV:∀(es:List (C×V)) (k:C),(∀x∈es,AM k x.1=false)→delE k es=es
 |[],_,_=>rfl
 |y::es,k,h=>by
  simp only[delE,h y (by simp),Jq,if_false];rw[NV es k fun x hx=>h x (by simp[hx])]
theorem Em {c:C}{v:Value}{l:Nat}(h:RepC w g (.mp l) v):∃b,v=.map (some b)∧g.io l=some (b,0,0):=by
 cases h with
 |mp _ b bd=>exact⟨b,rfl,bd⟩
theorem LV {tag:Nat}{x k y:Opd}{x' k' y':Operand}{t kt et:TypeId}{K:V→Heap→Prop}(hm:o.op=.mapUpdate t x' k' y'∨o.op=.insert t x' k' y')(hu:P.underlying t=some (.map kt et))
  (js:P.underlying kt=some (tagD tag)) (hx:mO x x'=true) (hk:mO k k'=true) (hy:mO y y'=true)
  (hs:Sat H g w) (he:EnvOk w g e a) (hp:p=true) (ho:(EOp.upd tag x k y).eff P p e H K):EOk P H g w a o K:=by
 simp only[EOp.eff]at ho;obtain⟨q1,q2,q3,q4,q5,_,q6⟩:=ho;have em:=Al he hx hp q1;have iR:=Al he hk hp q2;have gJ:=Al he hy hp q3;rw[Bc q4]at em;rw[Bc q5]at iR;have dt:=em.aA;have cO:=iR.aA;generalize j6:a.eval x'=xv at dt;generalize pI:a.eval k'=kv at cO;generalize nw:a.eval y'=yv at gJ;generalize (x.v e).c1=A at dt q6;generalize (k.v e).c1=kc at cO q6;generalize y.v e=yc at gJ q6;have bp:(execOp a.eval o).run P w=((Instr.mapUpdate t xv kv yv).run P w).andThen fun _ w'=>.ok .skip w':=by
  rcases hm with hm|hm <;> simp[execOp,hm,j6,pI,nw]
 unfold updT at q6;split at q6
 ·rename_i l
  split at q6
  ·rename_i n es hH
   obtain⟨c1,c2,c3⟩:=q6;obtain⟨b,rfl,bd⟩:=Em (c:=.unk) dt;have aZ:=hs.objs l;rw[hH]at aZ;obtain⟨b',ms,clock,r1,r2,r3,r4,r5,r6,r7,r8⟩:=aZ;rw[bd]at r1;simp only[Jb,Ji,and_true]at r1;subst r1;have ce:=CN c1 cO;have de:(getObj b).run P w=.ok (.map ms clock) w:=by simp[getObj,Sem.run,r3]
   rcases HY c1 cO r4 r6 r8 with ⟨f1,f2,f3⟩|⟨j,m,ent,f1,f2,f3,f4,f5,f6,f7⟩
   ·
    rw[KW es kc yc f3]at c3;refine EOk.skip (g':=g) (w':=World.putObj' w b (.map (ms.push { key:=kv,val:=yv,born:=clock }) (clock+1))) ?_ c3 ?_
    ·rw[bp];simp only[Instr.mapUpdate,Sem.run_bind,Qz hu,Result.andThen_ok,de,run_checkKey js ce _ 9999,run_findKey js f1,Fo r3 (by simp)]
    ·refine Ic hs r2 r3 hH fun a9 fC=>?_;refine⟨b,_,_,a9.io _ _ bd,r2,fC,by simp[r4],by simp;omega,fun i' x' m' e1 e2=>?_,fun i' m' e1=>?_,fun i' j' m1 m2 e1 e2 kX=>?_⟩
     ·rw[J6]at e2;split at e2
      ·rename_i dI;simp at e2;subst e2
       rw[Jl (by omega)]at e1;rw[dI,r4]at e1;simp at e1;subst e1;exact⟨cO.mono a9,gJ.mono a9⟩
      ·rename_i dI
       have:i'<es.length:=by
        rw[←r4];rcases Jf i' ms.size with h|h
        ·exact h
        ·rw[Jk h]at e2;simp at e2
       rw[Jj this]at e1;exact (r6 i' x' m' e1 e2).mono a9
     ·rw[J6]at e1;split at e1
      ·simp at e1;subst e1;simp
      ·have:=r7 i' m' e1;omega
     ·have old:∀(i':Nat) (m1:MapEntry),ms[i']? = some m1→m1.born<clock∧m1.key≠kv:=by
       intro i' m1 h1;refine⟨r7 _ _ h1,fun bD=>?_⟩;have aa:i'<es.length:=by
        rw[←r4];rcases Jf i' ms.size with h|h
        ·exact h
        ·rw[Jk h]at h1;simp at h1
       have qO:=Jc aa;have:=(En c1 (Jg qO) cO (r6 _ _ _ qO h1).1).2 bD;rw[f3 _ (Jg qO)]at this;simp at this
      rw[J6]at e1 e2;split at e1 <;> split at e2
      ·omega
      ·simp at e1;subst e1;have:=old _ _ e2;rcases kX with h|h
       ·simp at h;omega
       ·simp at h;exact absurd h.symm this.2
      ·simp at e2;subst e2;have:=old _ _ e1;rcases kX with h|h
       ·simp at h;omega
       ·simp at h;exact absurd h this.2
      ·exact r8 _ _ _ _ e1 e2 kX
   ·
    rw[Ov es kc yc j ent f4 f6 f7]at c3;have eM:j<ms.size:=by
     rcases Jf j ms.size with h|h
     ·exact h
     ·rw[Jk h]at f2;simp at f2
    refine EOk.skip (g':=g) (w':=World.putObj' w b (.map (ms.modify j fun e=>{ e with key:=kv,val:=yv }) clock)) ?_ c3 ?_
    ·rw[bp];simp only[Instr.mapUpdate,Sem.run_bind,Qz hu,Result.andThen_ok,de,run_checkKey js ce _ 9999,run_findKey js f1,f2,Js,Jv,f3,run_keyThatStays ce];rw[Fo r3 (by simp)];rfl
    ·refine Ic hs r2 r3 hH fun a9 fC=>?_;refine⟨b,_,_,a9.io _ _ bd,r2,fC,by simp[r4],by simpa using r5,fun i' x' m' e1 e2=>?_,fun i' m' e1=>?_,fun i' j' m1 m2 e1 e2 kX=>?_⟩
     ·rw[J7]at e2;rw[Jap]at e1;split at e2
      ·rename_i hj
       subst hj;rw[if_pos rfl,if_pos (by omega)]at e1;simp at e1;subst e1;rw[f2]at e2;simp at e2;subst e2;exact⟨cO.mono a9,gJ.mono a9⟩
      ·rename_i hj
       rw[if_neg hj]at e1;exact (r6 i' x' m' e1 e2).mono a9
     ·rw[J7]at e1;split at e1
      ·rename_i hj;subst hj;rw[f2]at e1;simp at e1;subst e1;exact r7 j m f2
      ·exact r7 _ _ e1
     ·have old:∀(i':Nat) (m1:MapEntry),(ms.modify j fun e=>{ e with key:=kv,val:=yv })[i']? = some m1→∃m0,ms[i']? = some m0∧m0.born=m1.born∧m0.key=m1.key:=by
       intro i' m1 h1;rw[J7]at h1;split at h1
       ·rename_i hj;subst hj;rw[f2]at h1;simp at h1;subst h1;exact⟨m,f2,rfl,f3⟩
       ·exact⟨m1,h1,rfl,rfl⟩
      obtain⟨n1,k1,k2,k3⟩:=old _ _ e1;obtain⟨n2,k4,k5,k6⟩:=old _ _ e2;refine r8 _ _ _ _ k1 k4 ?_;rcases kX with h|h
      ·exact .inl (by rw[k2,k5,h])
      ·exact .inr (by rw[k3,k6,h])
  ·exact q6.elim
 ·exact q6.elim
theorem Qb2j {tag:Nat}{x k:Opd}{x' k':Operand}{ats:Array TypeId}{t kt et:TypeId}{K:V→Heap→Prop}(hm:o.op=.call { callee:=.builtin .delete,args:=#[x',k'],argTypes:=ats })(az:ats[0]? = some t)(hd:o.dst=none)(hu:P.underlying t=some (.map kt et))
  (js:P.underlying kt=some (tagD tag)) (hx:mO x x'=true) (hk:mO k k'=true)
  (hs:Sat H g w) (he:EnvOk w g e a) (hp:p=true) (ho:(EOp.del tag x k).eff P p e H K):EOk P H g w a o K:=by
 simp only[EOp.eff]at ho;obtain⟨q1,q2,q4,q5,q6⟩:=ho;have em:=Al he hx hp q1;have iR:=Al he hk hp q2;rw[Bc q4]at em;rw[Bc q5]at iR;have dt:=em.aA;have cO:=iR.aA;generalize j6:a.eval x'=xv at dt;generalize pI:a.eval k'=kv at cO;generalize (x.v e).c1=A at dt q6;generalize (k.v e).c1=kc at cO q6;have bp:(execOp a.eval o).run P w=((Builtin.delete_ ats o.type #[xv,kv]).run P w).andThen fun v w'=>.ok (.value v) w':=by
  simp[execOp,hm,resolve,invoke,builtin,j6,pI]
 unfold delT at q6;split at q6
 ·rename_i l
  split at q6
  ·rename_i n es hH
   obtain⟨c1,c3⟩:=q6;obtain⟨b,rfl,bd⟩:=Em (c:=.unk) dt;have aZ:=hs.objs l;rw[hH]at aZ;obtain⟨b',ms,clock,r1,r2,r3,r4,r5,r6,r7,r8⟩:=aZ;rw[bd]at r1;simp only[Jb,Ji,and_true]at r1;subst r1;have ce:=CN c1 cO;have de:(getObj b).run P w=.ok (.map ms clock) w:=by simp[getObj,Sem.run,r3]
   rcases HY c1 cO r4 r6 r8 with ⟨f1,f2,f3⟩|⟨j,m,ent,f1,f2,f3,f4,f5,f6,f7⟩
   ·rw[NV es kc f3]at c3;refine EOk.value (g':=g) (v:=.tuple #[]) (w':=World.putObj' w b (.map ms clock)) ?_ c3 ?_ (.unk _)
    ·rw[bp];simp only[Builtin.delete_,az];simp[Qz hu,de,run_checkKey js ce _ 9999,run_findKey js f1,Fo r3]
    ·refine Ic hs r2 r3 hH fun a9 fC=>?_;exact⟨b,_,_,a9.io _ _ bd,r2,fC,r4,r5,fun i' x' m' e1 e2=>(r6 i' x' m' e1 e2).mono a9,r7,r8⟩
   ·rw[OL es kc j ent f4 f6 f7]at c3;have eM:j<ms.size:=by
     rcases Jf j ms.size with h|h
     ·exact h
     ·rw[Jk h]at f2;simp at f2
    have qN:∀q,(ms.eraseIdxIfInBounds j)[q]? = if q<j then ms[q]? else ms[q+1]?:=by
     intro q;unfold Array.eraseIdxIfInBounds;rw[dif_pos eM,Array.getElem?_eraseIdx]
    refine EOk.value (g':=g) (v:=.tuple #[]) (w':=World.putObj' w b (.map (ms.eraseIdxIfInBounds j) clock)) ?_ c3 ?_ (.unk _)
    ·rw[bp];simp only[Builtin.delete_,az];simp[Qz hu,de,run_checkKey js ce _ 9999,run_findKey js f1,Fo r3]
    ·refine Ic hs r2 r3 hH fun a9 fC=>?_;have dB:es.length-1=(es.eraseIdx j).length:=(by rw[Ja0];simp;omega);refine⟨b,_,_,a9.io _ _ bd,r2,fC,?_,by omega,fun i' x' m' e1 e2=>?_,fun i' m' e1=>?_,fun i' j' m1 m2 e1 e2 kX=>?_⟩
     ·unfold Array.eraseIdxIfInBounds;rw[dif_pos eM];simp;omega
     ·rw[qN]at e2;rw[List.getElem?_eraseIdx]at e1;split at e1
      ·rename_i h;rw[if_pos h]at e2;exact (r6 _ _ _ e1 e2).mono a9
      ·rename_i h;rw[if_neg h]at e2;exact (r6 _ _ _ e1 e2).mono a9
     ·rw[qN]at e1;split at e1
      ·exact r7 _ _ e1
      ·exact r7 _ _ e1
     ·rw[qN]at e1 e2;split at e1 <;> split at e2 <;> have:=r8 _ _ _ _ e1 e2 kX <;> omega
  ·exact q6.elim
 ·obtain⟨c1,c2⟩:=q6;have hv:xv=.map none:=by cases dt;rfl
  subst hv;have ce:=CN c1 cO;refine EOk.value (g':=g) (v:=.tuple #[]) (w':=w) ?_ c2 (.refl hs) (.unk _);rw[bp];simp only[Builtin.delete_,az];simp[Qz hu,run_checkKey js ce _ 9999]
 ·exact q6.elim
theorem Qb0o {x:Opd}{x':Operand}{ats:Array TypeId}{t kt et:TypeId}{K:V→Heap→Prop}(hm:o.op=.call { callee:=.builtin .clear,args:=#[x'],argTypes:=ats })(az:ats[0]? = some t)(hu:P.underlying t=some (.map kt et))(hx:mO x x'=true)
  (hs:Sat H g w) (he:EnvOk w g e a) (hp:p=true) (ho:(EOp.clrm x).eff P p e H K):EOk P H g w a o K:=by
 simp only[EOp.eff]at ho;obtain⟨q1,q2⟩:=ho;have em:=Al he hx hp q1;split at q2
 ·rename_i l hv
  split at q2
  ·rename_i n es hH
   rw[hv]at em;obtain⟨b,hq,bd⟩:=Em (c:=.unk) em.aA;have aZ:=hs.objs l;rw[hH]at aZ;obtain⟨b',ms,clock,r1,r2,r3,r4,r5,r6,r7,r8⟩:=aZ;rw[bd]at r1;simp only[Jb,Ji,and_true]at r1;subst r1;have de:(getObj b).run P w=.ok (.map ms clock) w:=by simp[getObj,Sem.run,r3]
   refine EOk.value (g':=g) (v:=.tuple #[]) (w':=World.putObj' w b (.map #[] clock)) ?_ q2 ?_ (.unk _)
   ·simp[execOp,hm,resolve,invoke,builtin,hq,Builtin.clear_,az,Qz hu,de,Fo r3]
   ·refine Ic hs r2 r3 hH fun a9 fC=>?_;exact⟨b,_,_,a9.io _ _ bd,r2,fC,rfl,by simp[Bu],by simp,by simp,by simp⟩
  ·exact q2.elim
 ·exact q2.elim
end Go.AE
namespace Go.AE
variable {P:Program}{H:Heap}{g:G}{w:World}{e:Env}{a:Act}{o:Oper}{p:Bool}
theorem Ny {f:FuncId}(h:fnOk P f=true)(args:Array Value)(w:World):(callFunc f args).run P w=.ok (.enter f args) w:=by
 unfold fnOk at h;split at h
 ·rename_i fn hf
  simp only[Ja,bne_iff_ne,ne_eq]at h;obtain⟨h1,h2⟩:=h;have hn:fn.body≠none:=by intro hb;rw[hb]at h1;simp at h1
  simp[callFunc,hf,h2,hn]
 ·simp at h
theorem OY {f:FuncId}{args:List V}{K:V→Heap→Prop}(hc:Qi P f args H K)(hs:Sat H g w){vs:List Value}(hl:vs.length=args.length)
  (hv:∀(j:Nat) (x:V) (u:Value),args[j]? = some x→vs[j]? = some u→RepV w g x u) (hr:(execOp a.eval o).run P w=.ok (.enter f vs.toArray) w):EOk P H g w a o K:=by
 intro Q next hn gK;unfold Oper.wp;rw[hr,Oper.upon_enter];refine (hc.2 g w vs hs hl hv).mono fun en w' h=>?_;rcases h with ⟨v,x,H',g',rfl,hk,aF,dc⟩|⟨v,H',g',rfl,hk,aF⟩
 ·exact hn x v w' H' g' hk aF dc
 ·exact gK v w' H' g' hk aF
theorem KM (he:EnvOk w g e a)(hp:p=true){xs:List Opd}{ys:List Operand}(hm:mOs xs ys=true)(hf:∀x∈xs,x.fine p e) :
  (ys.map a.eval).length=(xs.map fun x=>x.v e).length∧∀(j:Nat) (x:V) (u:Value),(xs.map fun x=>x.v e)[j]? = some x→(ys.map a.eval)[j]? = some u→RepV w g x u:=by
 obtain⟨h1,h2⟩:=Hk xs ys hm;refine⟨by simp[h1],fun j x u e1 e2=>?_⟩;simp only[Jo]at e1 e2
 cases hj:xs[j]? with
 |none=>rw[hj]at e1;simp at e1
 |some x0=>
  cases dA:ys[j]? with
  |none=>rw[dA]at e2;simp at e2
  |some y0=>
   rw[hj]at e1;rw[dA]at e2;simp at e1 e2;subst e1;subst e2;exact Al he (h2 j x0 y0 hj dA) hp (hf x0 (Jg hj))
theorem Qb0n {f:Nat}{xs:List Opd}{aS:Array Operand}{ats:Array TypeId}{K:V→Heap→Prop}(hm:o.op=.call { callee:=.value (.func f),args:=aS,argTypes:=ats })(hx:mOs xs aS.toList=true)
  (hs:Sat H g w) (he:EnvOk w g e a) (hp:p=true) (hf:∀x∈xs,x.fine p e) (hc:Qi P f (xs.map fun x=>x.v e) H K):EOk P H g w a o K:=by
 obtain⟨h1,h2⟩:=KM he hp hx hf;refine OY hc hs h1 h2 ?_;have cp:aS.map a.eval=(aS.toList.map a.eval).toArray:=by apply Jac;simp
 simp only[execOp,hm,resolve,Deferred.ofValue,Act.eval,Sem.run_bind,Sem.run_pure,Result.andThen_ok,invoke];have:(#[]++aS.map a.eval++#[]:Array Value)=(aS.toList.map a.eval).toArray:=by rw[cp];simp
 rw[this];exact Ny hc.1 _ w
theorem VC {x:Opd}{y:Operand}{xs:List Opd}{aS:Array Operand}{ats:Array TypeId}{K:V→Heap→Prop}(hm:o.op=.call { callee:=.value y,args:=aS,argTypes:=ats })(hy:mO x y=true)(hx:mOs xs aS.toList=true)
  (hs:Sat H g w) (he:EnvOk w g e a) (hp:p=true) (ho:(EOp.bv x xs).eff P p e H K):EOk P H g w a o K:=by
 simp only[EOp.eff]at ho;obtain⟨q1,hf,q2⟩:=ho;have hr:=Al he hy hp q1;split at q2
 ·rename_i n caps hv
  rw[hv]at hr;obtain⟨cv,hq,bP,iC⟩:=hr.aA.fn_inv;obtain⟨h1,h2⟩:=KM he hp hx hf;refine OY (vs:=aS.toList.map a.eval++cv) q2 hs (by rw[Jad,Jad,h1];simp[bP]) (fun j z u e1 e2=>?_) ?_
  ·by_cases hj:j<(xs.map fun x=>x.v e).length
   ·rw[Jj hj]at e1;rw[Jj (by rw[h1];exact hj)]at e2;exact h2 j z u e1 e2
   ·rw[Jl (by omega)]at e1 e2;rw[h1]at e2;simp only[Jo]at e1
    cases hc:caps[j-(xs.map fun x=>x.v e).length]? with
    |none=>rw[hc]at e1;simp at e1
    |some c=>
     rw[hc]at e1;simp at e1;subst e1;exact .c _ _ (iC _ c u hc e2)
  ·have cp:aS.map a.eval=(aS.toList.map a.eval).toArray:=by apply Jac;simp
   simp only[execOp,hm,resolve,hq,Deferred.ofValue,Sem.run_bind,Sem.run_pure,Result.andThen_ok,invoke];have:(#[]++aS.map a.eval++cv.toArray:Array Value)=(aS.toList.map a.eval++cv).toArray:=by rw[cp];simp
   rw[this];exact Ny q2.1 _ w
 ·exact q2.elim
theorem Qa4h {t el:TypeId}(h:P.underlying t=some (.slice el))(d:Nat)(b:Option Addr)(n c:Nat)(w:World):(Op.equalIn (d+1) t (.slice b n c) (.slice none 0 0)).run P w=.ok b.isNone w:=by
 cases b <;> simp[Op.equalIn,Qz h]
theorem OK {α:Type}:∀(l:List α) (i:Nat) (h:i<l.length),(l[i]::l.eraseIdx i).Perm l
 |x::l,0,_=>by simp
 |x::l,i+1,h=>by
  simp only[List.getElem_cons_succ,Jaq];exact (List.Perm.swap x _ _).trans ((OK l i (by simpa using h)).cons x)
theorem Qb0q {x:Opd}{x' y':Operand}{t t' el:TypeId}{K:V→Heap→Prop}(hm:o.op=.binOp .eql t x' y' t')(hu:P.underlying t=some (.slice el))(hx:mO x x'=true)(hy:a.eval y'=.slice none 0 0)
  (hs:Sat H g w) (he:EnvOk w g e a) (hp:p=true) (ho:(EOp.nilq x).eff P p e H K):EOk P H g w a o K:=by
 simp only[EOp.eff]at ho;obtain⟨q1,q2⟩:=ho;have hr:=Al he hx hp q1;split at q2
 ·rename_i fl sz rows hv
  rw[hv]at hr;have iC:=hr.aA;generalize hq:a.eval x'=xv at iC;have oN:(execOp a.eval o).run P w=((binOp .eql t xv (.slice none 0 0)).run P w).andThen fun v w'=>.ok (.value v) w':=by
   simp only[execOp,hm,hq,hy,Sem.run_bind];rw[Bk]
   ·simp
   ·intro cs ds h;simp at h
   ·intro h;simp at h
  have fj:∀b:Option Addr,∀n c,(Op.equal t (.slice b n c) (.slice none 0 0)).run P w=.ok b.isNone w:=by
   intro b n c;exact Qa4h hu 9999 b n c w
  cases iC with
  |bk _ _ ad=>
   refine EOk.value (g':=g) (v:=.bool ad.isNone) (w':=w) ?_ (q2 ad.isNone (fun _=>rfl)) (.refl hs) (.c _ _ (.bool _));rw[oN];simp only[binOp,Sem.run_bind,fj,Result.andThen_ok,Sem.run_pure]
  |sl=>
   refine EOk.value (g':=g) (v:=.bool false) (w':=w) ?_ (q2 false (by simp)) (.refl hs) (.c _ _ (.bool _));rw[oN];simp only[binOp,Sem.run_bind,fj,Result.andThen_ok,Sem.run_pure];rfl
 ·exact q2.elim
theorem Qb2o {x:Opd}{x':Operand}{t kt et:TypeId}{K:V→Heap→Prop}(hm:o.op=.range t x')(hu:P.underlying t=some (.map kt et))(hx:mO x x'=true)
  (hs:Sat H g w) (he:EnvOk w g e a) (hp:p=true) (ho:(EOp.rng x).eff P p e H K):EOk P H g w a o K:=by
 simp only[EOp.eff]at ho;obtain⟨q1,q2⟩:=ho;have hr:=Al he hx hp q1;obtain⟨l',cB,cW⟩:=hs.newName;split at q2
 ·rename_i l hv
  rw[hv]at hr;split at q2
  ·rename_i n es hH
   obtain⟨c1,c2⟩:=q2;obtain⟨b,hq,bd⟩:=Em (c:=.unk) hr.aA;have aZ:=hs.objs l;rw[hH]at aZ;obtain⟨b',ms,clock,r1,r2,r3,r4,r5,r6,r7,r8⟩:=aZ;rw[bd]at r1;simp only[Jb,Ji,and_true]at r1;subst r1;have de:(getObj b).run P w=.ok (.map ms clock) w:=by simp[getObj,Sem.run,r3]
   have dq:l≠l':=fun h=>by subst h;rw[cB]at bd;simp at bd
   have aF:=Dl hs cB 0 0 (.mapIter (some b) clock #[] clock) (.iter (some (l,n)) es none) (fun g' hg=>by
    subst hg;refine⟨w.heap.size,b,clock,#[],by simp[G.newObj],by simp[G.newObj],BQ _ _,by simp[G.newObj,dq,bd],fun v es' fE=>?_⟩;rw[Heap.af _ _ dq,hH]at fE;simp only[Obj.map.injEq]at fE;obtain⟨rfl,rfl⟩:=fE;refine⟨Ju _,fun _=>⟨ms,(Dj _ _ (Fq r3)).trans r3,r4,c1,c1,fun x=>⟨fun hx=>?_,fun hx=>?_⟩,by simp⟩⟩
    ·obtain⟨i,hi⟩:=J4 hx;have aa:i<ms.size:=by
      rw[r4];rcases Jf i es.length with h|h
      ·exact h
      ·rw[Je h]at hi;simp at hi
     exact⟨i,ms[i],hi,Jd aa,by simp⟩
    ·obtain⟨i,m,h1,_⟩:=hx;exact Jg h1)
   refine EOk.value (v:=.pointer (some ⟨w.heap.size,0,none⟩)) (w':=w.alloc (.mapIter (some b) clock #[] clock)) ?_ (c2 l' cW) aF (.c _ _ (.itr l' w.heap.size (by simp[G.newObj])));simp[execOp,hm,hq,Instr.range,Qz hu,de]
  ·exact q2.elim
 ·rename_i hv
  rw[hv]at hr;have hq:a.eval x'=.map none:=by
   have:=hr.aA;generalize a.eval x'=xv at this;cases this;rfl
  have aF:=Dl hs cB 0 0 (.mapIter none 0 #[] 0) (.iter none [] none) (fun g' hg=>by
   subst hg;exact⟨w.heap.size,0,#[],0,by simp[G.newObj],by simp[G.newObj],BQ _ _,rfl⟩)
  refine EOk.value (v:=.pointer (some ⟨w.heap.size,0,none⟩)) (w':=w.alloc (.mapIter none 0 #[] 0)) ?_ (q2 l' cW) aF (.c _ _ (.itr l' w.heap.size (by simp[G.newObj])));simp[execOp,hm,hq,Instr.range,Qz hu]
 ·exact q2.elim
theorem FO {v:Value}{l:Nat}(h:RepC w g (.itr l) v):∃b,v=.pointer (some ⟨b,0,none⟩)∧g.io l=some (b,0,0):=by
 cases h with
 |itr _ b bd=>exact⟨b,rfl,bd⟩
theorem Qbmn {r mb since:Nat}{seen:Array Nat}{ms:Array MapEntry}{t:TypeId}(hr:w.heap[r]? = some (.mapIter (some mb) since seen since))(hmb:w.heap[mb]? = some (.map ms since))
  (aa:∀(i:Nat) (m:MapEntry),ms[i]? = some m→m.born<since) :
  ((∀(i:Nat) (m:MapEntry),ms[i]? = some m→m.born∈seen)∧(Instr.next (.pointer (some ⟨r,0,none⟩)) false t).run P w=.ok (.tuple #[.bool false]) w)∨
  ∃(w1:World) (i:Nat) (m:MapEntry),ms[i]? = some m∧m.born∉seen∧(w1=w∨w1=w.drew)∧
   (Instr.next (.pointer (some ⟨r,0,none⟩)) false t).run P w=.ok (.tuple #[.bool true,m.key,m.val]) (World.putObj' w1 r (.mapIter (some mb) since (seen.push m.born) since)):=by
 have g1:(getObj r).run P w=.ok (.mapIter (some mb) since seen since) w:=by simp[getObj,Sem.run,hr]
 have g2:(getObj mb).run P w=.ok (.map ms since) w:=by simp[getObj,Sem.run,hmb]
 have dR:∀m∈ms,m.born<since:=by
  intro m hm;obtain⟨i,hi⟩:=Jah hm;exact aa i m hi
 have qT:(!seen.isEmpty&&!ms.isEmpty&&ms.all (fun m=>decide (m.born≥since)))=false:=by
  by_cases h:ms=#[]
  ·subst h;simp
  ·have bm:0<ms.size:=by
    rcases Jae ms.size with h0|h0
    ·exact absurd (Jat.1 h0) h
    ·exact h0
   have:ms.all (fun m=>decide (m.born≥since))=false:=by
    rw[Bool.eq_false_iff];intro aD;rw[Array.all_eq_true]at aD;have:=aD 0 bm;simp at this;have:=dR ms[0] (Ja7 bm);omega
   rw[this];simp
 generalize jW:ms.filter (fun m=>!seen.contains m.born)=left;have eL:∀m,m∈left↔m∈ms∧m.born∉seen:=by
  intro m;rw[←jW];simp[Array.mem_filter]
 have n4:left.filter (fun m=>decide (m.born<since))=left:=by
  rw[Array.filter_eq_self];intro m hm;simpa using dR m ((eL m).1 hm).1
 have nA:left.filter (fun m=>decide (m.born≥since))=#[]:=by
  rw[Array.filter_eq_empty_iff];intro m hm;have:=dR m ((eL m).1 hm).1;simp;omega
 have bF:(Instr.next (.pointer (some ⟨r,0,none⟩)) false t).run P w =
   ((choose (.mapNext ((if left.isEmpty then #[none]else #[])++left.map some).size)).run P w).andThen fun k w'=>
    (match ((if left.isEmpty then #[none]else #[])++left.map some)[k]? with
     |some (some e)=>(do setObj r (.mapIter (some mb) since (seen.push e.born) since);pure (.tuple #[.bool true,e.key,e.val]):Sem Value)
     |some none=>pure (.tuple #[.bool false])
     | none => stuck "Next: no such candidate").run P w' := by
  simp only[Instr.next,Sem.run_bind,g1,Result.andThen_ok,g2];simp only[qT,Jq,if_false,jW,n4,nA,Array.append_empty];simp only[Sem.run_bind]
  first|rfl|(congr 1;funext k w';split <;> simp)
 by_cases oO:left=#[]
 ·left;refine⟨fun i m hm=>?_,?_⟩
  ·by_cases hc:m.born∈seen
   ·exact hc
   ·have:m∈left:=(eL m).2 ⟨Jau hm,hc⟩;rw[oO]at this;simp at this
  ·rw[bF,oO];simp[Question.forced]
 ·right;have iS:0<left.size:=by
   rcases Jae left.size with h0|h0
   ·exact absurd (Jat.1 h0) oO
   ·exact h0
  have q9:left.isEmpty=false:=by simpa using oO
  have hk:∃(k:Nat) (w1:World),k<left.size∧(w1=w∨w1=w.drew)∧(choose (.mapNext left.size)).run P w=.ok k w1:=by
   by_cases h1:left.size≤1
   ·exact⟨0,w,iS,.inl rfl,by simp[Question.forced,h1]⟩
   ·refine⟨w.tape w.drawn (.mapNext left.size) % left.size,w.drew,Jbb _ iS,.inr rfl,?_⟩;simp[Question.forced,h1,Question.cut]
  obtain⟨k,w1,k1,k2,k3⟩:=hk;have hkm:left[k]? = some left[k]:=Jd k1;obtain⟨m1,m2⟩:=(eL left[k]).1 (Ja7 k1);obtain⟨i,hi⟩:=Jah m1;refine⟨w1,i,left[k],hi,m2,k2,?_⟩;rw[bF];simp only[q9,Jq,if_false,Array.empty_append,Array.size_map,k3,Result.andThen_ok,Jam,hkm,Js,Sem.run_bind];have gV:w1.heap[r]? = some (.mapIter (some mb) since seen since):=by rcases k2 with rfl|rfl <;> exact hr
  rw[Fo gV (by simp)];rfl
theorem Qb2n {x:Opd}{x':Operand}{K:V→Heap→Prop}(hm:o.op=.next x' false)(hx:mO x x'=true)
  (hs:Sat H g w) (he:EnvOk w g e a) (hp:p=true) (ho:(EOp.nxt x).eff P p e H K):EOk P H g w a o K:=by
 simp only[EOp.eff]at ho;obtain⟨q1,q2⟩:=ho;have hr:=Al he hx hp q1;split at q2
 ·rename_i i hv
  rw[hv]at hr;obtain⟨b,hq,bd⟩:=FO hr.aA;have aZ:=hs.objs i;split at q2
  ·rename_i left cur hH
   rw[hH]at aZ;obtain⟨b',si,se,la,r1,r2,r3,r4⟩:=aZ;rw[bd]at r1;simp only[Jb,Ji,and_true]at r1;subst r1;have de:(getObj b).run P w=.ok (.mapIter none si se la) w:=by simp[getObj,Sem.run,r3]
   refine EOk.value (g':=g) (v:=.tuple #[.bool false]) (w':=w) (by simp[execOp,hm,hq,Instr.next,de]) q2 (.refl hs) (.tup _ [.bool false] rfl fun j x u e1 e2=>?_)
   cases j with
   |zero=>simp at e1 e2;subst e1;subst e2;exact .c _ _ (.bool _)
   |succ j=>simp at e1
  ·rename_i l n left cur hH
   obtain⟨⟨es,lH⟩,c1,c2⟩:=q2;rw[hH]at aZ;obtain⟨b',mb,si,se,r1,r2,r3,r4,r5⟩:=aZ;rw[bd]at r1;simp only[Jb,Ji,and_true]at r1;subst r1;obtain⟨_,h5⟩:=r5 n es lH;obtain⟨ms,f1,f2,f3,f4,f5,f6⟩:=h5 rfl;have eZ:=hs.objs l;rw[lH]at eZ;obtain⟨mb',ms',clock,d1,d2,d3,d4,d5,d6,d7,d8⟩:=eZ;rw[r4]at d1;simp only[Jb,Ji,and_true]at d1;subst d1;rw[f1]at d3;simp only[Jb,Go.Obj.map.injEq]at d3;obtain⟨rfl,rfl⟩:=d3;have bp:(execOp a.eval o).run P w=((Instr.next (.pointer (some ⟨b,0,none⟩)) false o.type).run P w).andThen fun v w'=>.ok (.value v) w':=by
    simp[execOp,hm,hq]
   rcases Qbmn (P:=P) (t:=o.type) r3 f1 d7 with ⟨k1,k2⟩|⟨w1,ix,m,k1,k2,k3,k4⟩
   ·have fw:left=[]:=by
     cases left with
     |nil=>rfl
     |cons y r=>
      obtain⟨iy,my,a1,a2,a3⟩:=(f5 y).1 (by simp);exact absurd (k1 iy my a2) a3
    refine EOk.value (g':=g) (v:=.tuple #[.bool false]) (w':=w) (by rw[bp,k2];rfl) (c1 fw) (.refl hs) (.tup _ [.bool false] rfl fun j x u e1 e2=>?_)
    cases j with
    |zero=>simp at e1 e2;subst e1;subst e2;exact .c _ _ (.bool _)
    |succ j=>simp at e1
   ·have oL:ix<es.length:=by
     rw[←f2];rcases Jf ix ms.size with h|h
     ·exact h
     ·rw[Jk h]at k1;simp at k1
    have mP:=Jc oL;generalize hxx:es[ix]=xx at mP;have oX:xx∈left:=(f5 xx).2 ⟨ix,m,mP,k1,k2⟩;obtain⟨q,kT,j6⟩:=List.getElem_of_mem oX;have iT:=OK left q kT;rw[j6]at iT;have cf:(xx::left.eraseIdx q).Nodup:=iT.nodup_iff.2 f4;have jU:∀y,y∈left.eraseIdx q↔y∈left∧y≠xx:=by
     intro y;rw[←iT.mem_iff];rw[Jay]at cf;constructor
     ·intro hy;exact⟨by simp[hy],fun h=>cf.1 (h▸hy)⟩
     ·rintro⟨hy,bm⟩;simp at hy;exact hy.resolve_left bm
    have hk:=c2 xx (left.eraseIdx q) oX jU (Jay.1 cf).2 (by rw[Ja0,if_pos kT];omega);have eH:Stp H g w H g w1:=by
     rcases k3 with rfl|rfl
     ·exact .refl hs
     ·exact Hh hs
    have cZ:∀bb:Nat,w1.heap[bb]? = w.heap[bb]?:=(by intro bb;rcases k3 with rfl|rfl <;> rfl);have hli:l≠i:=fun h=>(by subst h;rw[lH]at hH;simp at hH);have qj:mb≠b:=fun h=>(by subst h;rw[f1]at r3;simp at r3);have aF:Stp H g w1 (H.set i (.iter (some (l,n)) (left.eraseIdx q) (some xx))) g (World.putObj' w1 b (.mapIter (some mb) si (se.push m.born) si)):=by
     have aa:b<w1.heap.size:=Fq ((cZ b).trans r3);refine Ri eH.sat r2 (by simp[World.putObj']) (fun b' h=>P1 h) (fun T' k hk=>?_) rfl rfl rfl _ (by rw[hH];simp) (fun a9=>?_) (by simp)
     ·simp[World.shape?,cZ,r3]at hk
     ·refine⟨b,mb,si,se.push m.born,bd,r2,Q9x aa,r4,fun v es' fE=>?_⟩;rw[Heap.af _ _ hli,lH]at fE;simp only[Obj.map.injEq]at fE;obtain⟨rfl,rfl⟩:=fE;refine⟨Ju _,fun _=>⟨ms,?_,f2,f3,(Jay.1 cf).2,fun y=>?_,fun y hy=>?_⟩⟩
      ·rw[P1 qj,cZ];exact f1
      ·rw[jU y,f5 y];constructor
       ·rintro⟨⟨iy,my,a1,a2,a3⟩,bm⟩;refine⟨iy,my,a1,a2,fun cI=>?_⟩;rw[Jbg]at cI;rcases cI with cI|cI
        ·exact a3 cI
        ·have:=d8 iy ix my m a2 k1 (.inl cI);subst this;rw[mP]at a1;simp at a1;exact bm a1.symm
       ·rintro⟨iy,my,a1,a2,a3⟩;rw[Jbg,not_or]at a3;refine⟨⟨iy,my,a1,a2,a3.1⟩,fun h=>?_⟩;subst h;have sa:iy<es.length:=by
         rcases Jf iy es.length with h|h
         ·exact h
         ·rw[Je h]at a1;simp at a1
        have:iy=ix:=(List.getElem_inj (h₀:=sa) (h₁:=oL) f3).1 (by
         rw[Jc sa]at a1;simp at a1;rw[a1,hxx])
        subst this;rw[k1]at a2;simp at a2;subst a2;exact a3.2 rfl
      ·simp at hy;subst hy;exact⟨ix,m,mP,k1,by simp⟩
    have oy:=d6 ix xx m mP k1;refine EOk.value (v:=.tuple #[.bool true,m.key,m.val]) (by rw[bp,k4];rfl) hk (eH.trans aF) (.tup _ [.bool true,m.key,m.val] rfl fun j y u e1 e2=>?_);have lz:=(eH.trans aF).le
    match j with
    |0=>simp at e1 e2;subst e1;subst e2;exact .c _ _ (.bool _)
    |1=>simp at e1 e2;subst e1;subst e2;exact .c _ _ (oy.1.mono lz)
    |2=>simp at e1 e2;subst e1;subst e2;exact oy.2.mono lz
    |j+3=>simp at e1
  ·exact q2.elim
 ·exact q2.elim
theorem Qb0s {x:Opd}{x':Operand}{t:TypeId}{K:V→Heap→Prop}(hm:o.op=.range t x')(hu:P.underlying t=some .string)(hx:mO x x'=true)
  (hs:Sat H g w) (he:EnvOk w g e a) (hp:p=true) (ho:(EOp.rngs x).eff P p e H K):EOk P H g w a o K:=by
 simp only[EOp.eff]at ho;obtain⟨q1,q2⟩:=ho;have hr:=Al he hx hp q1;obtain⟨l',cB,cW⟩:=hs.newName;split at q2
 ·rename_i s hv
  rw[hv]at hr;obtain⟨hq,hl⟩:=hr.aA.str_inv;have aF:=Dl hs cB 0 0 (.stringIter ⟨s.toArray⟩ 0) (.sit s 0) (fun g' hg=>by
   subst hg;exact⟨w.heap.size,by simp[G.newObj],by simp[G.newObj],BQ _ _,hl⟩)
  refine EOk.value (v:=.pointer (some ⟨w.heap.size,0,none⟩)) (w':=w.alloc (.stringIter ⟨s.toArray⟩ 0)) ?_ (q2 l' cW) aF (.c _ _ (.itr l' w.heap.size (by simp[G.newObj])));simp[execOp,hm,hq,Instr.range,Qz hu]
 ·exact q2.elim
theorem Qb0r {x:Opd}{x':Operand}{K:V→Heap→Prop}(hm:o.op=.next x' true)(hx:mO x x'=true)
  (hs:Sat H g w) (he:EnvOk w g e a) (hp:p=true) (ho:(EOp.nxts x).eff P p e H K):EOk P H g w a o K:=by
 simp only[EOp.eff]at ho;obtain⟨q1,q2⟩:=ho;have hr:=Al he hx hp q1;split at q2
 ·rename_i i hv
  rw[hv]at hr;obtain⟨b,hq,bd⟩:=FO hr.aA;have aZ:=hs.objs i;split at q2
  ·rename_i s q hH
   obtain⟨c1,c2⟩:=q2;rw[hH]at aZ;obtain⟨b',r1,r2,r3,r4⟩:=aZ;rw[bd]at r1;simp only[Jb,Ji,and_true]at r1;subst r1;have be:(⟨s.toArray⟩:ByteArray).size=s.length:=by simp[ByteArray.size]
   have bp:(execOp a.eval o).run P w=((Instr.next (.pointer (some ⟨b,0,none⟩)) true o.type).run P w).andThen fun v w'=>.ok (.value v) w':=by
    simp[execOp,hm,hq]
   by_cases aa:q<s.length
   ·have cQ:q<(⟨s.toArray⟩:ByteArray).size:=(by rw[be];exact aa);have de:(getObj b).run P w=.ok (.stringIter ⟨s.toArray⟩ q) w:=(by simp[getObj,Sem.run,r3]);have bx:(Instr.next (.pointer (some ⟨b,0,none⟩)) true o.type).run P w=.ok (.tuple #[.bool true,.int .i64 q,.int .i32 (Utf8.decode ⟨s.toArray⟩ q).1]) (World.putObj' w b (.stringIter ⟨s.toArray⟩ (q+(Utf8.decode ⟨s.toArray⟩ q).2))):=by
     simp only[Instr.next,Sem.run_bind,de,Result.andThen_ok,cQ,if_true,Fo r3 (by simp)];simp[goInt]
    have eB:((⟨s.toArray⟩:ByteArray)[q]'cQ)=s.getD q 0:=by
     have:((⟨s.toArray⟩:ByteArray)[q]'cQ)=s[q]'aa:=rfl;rw[this,Jx,Jc aa];rfl
    have aF:Stp H g w (H.set i (.sit s (q+(Utf8.decode ⟨s.toArray⟩ q).2))) g (World.putObj' w b (.stringIter ⟨s.toArray⟩ (q+(Utf8.decode ⟨s.toArray⟩ q).2))):=by
     have hb:b<w.heap.size:=Fq r3;refine Ri hs r2 (by simp[World.putObj']) (fun b' h=>P1 h) (fun T' k hk=>?_) rfl rfl rfl _ (by rw[hH];simp) (fun a9=>⟨b,bd,r2,Q9x hb,r4⟩) (by simp);simp[World.shape?,r3]at hk
    refine EOk.value (g':=g) (v:=.tuple #[.bool true,.int .i64 q,.int .i32 (Utf8.decode ⟨s.toArray⟩ q).1]) (by rw[bp,bx];rfl) (c2 ((Utf8.decode ⟨s.toArray⟩ q).1:Nat) (Utf8.decode ⟨s.toArray⟩ q).2 aa ?_ ?_ ?_) aF (.tup _ [.bool true,.int .i64 q,.int .i32 (Utf8.decode ⟨s.toArray⟩ q).1] rfl fun j y u e1 e2=>?_)
    ·by_cases ha:(s.getD q 0).toNat<128
     ·rw[decode_ascii ⟨s.toArray⟩ q cQ (by rw[eB];exact ha)];exact Ju _
     ·exact (decode_high ⟨s.toArray⟩ q cQ (by rw[eB];omega)).2
    ·intro ha;rw[decode_ascii ⟨s.toArray⟩ q cQ (by rw[eB];exact ha)];exact⟨by simp only[eB],rfl⟩
    ·intro ha;have:=(decode_high ⟨s.toArray⟩ q cQ (by rw[eB];exact ha)).1;omega
    ·match j with
     |0=>simp at e1 e2;subst e1;subst e2;exact .c _ _ (.bool _)
     |1=>simp at e1 e2;subst e1;subst e2;exact .c _ _ (.int _ _)
     |2=>simp at e1 e2;subst e1;subst e2;exact .c _ _ (.int _ _)
     |j+3=>simp at e1
   ·have jC:¬q<(⟨s.toArray⟩:ByteArray).size:=(by rw[be];exact aa);refine EOk.value (g':=g) (v:=.tuple #[.bool false]) (w':=w) (by simp[bp,Instr.next,getObj,Sem.run,r3,jC]) (c1 (by omega)) (.refl hs) (.tup _ [.bool false] rfl fun j x u e1 e2=>?_)
    cases j with
    |zero=>simp at e1 e2;subst e1;subst e2;exact .c _ _ (.bool _)
    |succ j=>simp at e1
  ·exact q2.elim
 ·exact q2.elim
theorem Qb2k {x:Opd}{x':Operand}{K:V→Heap→Prop}(hm:o.op=.entry x')(hx:mO x x'=true)
  (hs:Sat H g w) (he:EnvOk w g e a) (hp:p=true) (ho:(EOp.ent x).eff P p e H K):EOk P H g w a o K:=by
 simp only[EOp.eff]at ho;obtain⟨q1,q2⟩:=ho;have hr:=Al he hx hp q1;split at q2
 ·rename_i i hv
  rw[hv]at hr;obtain⟨b,hq,bd⟩:=FO hr.aA;have aZ:=hs.objs i;split at q2
  ·rename_i l n left xx hH
   obtain⟨⟨es,lH⟩,c1⟩:=q2;rw[hH]at aZ;obtain⟨b',mb,si,se,r1,r2,r3,r4,r5⟩:=aZ;rw[bd]at r1;simp only[Jb,Ji,and_true]at r1;subst r1;obtain⟨_,h5⟩:=r5 n es lH;obtain⟨ms,f1,f2,f3,f4,f5,f6⟩:=h5 rfl;obtain⟨ix,m,k1,k2,k3⟩:=f6 xx rfl;have eZ:=hs.objs l;rw[lH]at eZ;obtain⟨mb',ms',clock,d1,d2,d3,d4,d5,d6,d7,d8⟩:=eZ;rw[r4]at d1;simp only[Jb,Ji,and_true]at d1;subst d1;rw[f1]at d3;simp only[Jb,Go.Obj.map.injEq]at d3;obtain⟨rfl,rfl⟩:=d3;have g1:(getObj b).run P w=.ok (.mapIter (some mb) si se si) w:=by simp[getObj,Sem.run,r3]
   have g2:(getObj mb).run P w=.ok (.map ms si) w:=by simp[getObj,Sem.run,f1]
   have nW:ms.find? (fun x=>x.born == m.born)=some m:=by
    cases hf:ms.find? (fun x=>x.born == m.born)with
    |none=>
     rw[Array.find?_eq_none]at hf;have:=hf m (Jau k2);simp at this
    |some m'=>
     have h1:=Array.find?_some hf;obtain⟨i',dI⟩:=Jah (Array.mem_of_find?_eq_some hf);have:i'=ix:=d8 i' ix m' m dI k2 (.inl (by simpa using h1));subst this;rw[k2]at dI;exact dI.symm
   refine EOk.value (g':=g) (v:=.tuple #[m.key,m.val]) (w':=w) ?_ c1 (.refl hs) (.tup _ [m.key,m.val] rfl fun j y u e1 e2=>?_)
   ·simp[execOp,hm,hq,Instr.entry,g1,k3,g2,nW]
   ·have oy:=d6 ix xx m k1 k2
    match j with
    |0=>simp at e1 e2;subst e1;subst e2;exact .c _ _ oy.1
    |1=>simp at e1 e2;subst e1;subst e2;exact oy.2
    |j+2=>simp at e1
  ·exact q2.elim
 ·exact q2.elim
theorem Qb0p {sz:Nat}{zero:List C}{x:Opd}{x':Operand}{ats:Array TypeId}{t el:TypeId}{i:TypeInfo}{z:Value}{K:V→Heap→Prop}
  (hm:o.op=.call { callee:=.builtin .clear,args:=#[x'],argTypes:=ats }) (az:ats[0]? = some t) (hu:P.underlying t=some (.slice el))
  (hi:P.info? el=some i) (hz:i.zero=some z) (mh:B1 zero z=true) (dl:zero.length=sz) (hx:mO x x'=true)
  (hs:Sat H g w) (he:EnvOk w g e a) (hp:p=true) (ho:(EOp.clrs sz zero x).eff P p e H K):EOk P H g w a o K:=by
 simp only[EOp.eff]at ho;obtain⟨q1,q2⟩:=ho;have em:=Al he hx hp q1;split at q2
 ·rename_i l z' st n hv
  obtain⟨rfl,q2⟩:=q2;split at q2
  ·rename_i y rows hH
   obtain⟨rfl,q3,q4⟩:=q2;rw[hv]at em;have cP:=em.aA;generalize hq:a.eval x'=xv at cP;have hr:=Ft (w:=w) (g:=g) mh;have bR:z.cells.size=y:=hr.1.trans dl;by_cases hn:n=0
   ·subst hn;have e0:rows.take st++List.replicate 0 zero++rows.drop (st+0)=rows:=(by simp);rw[e0,Heap.set_self _ _ _ hH]at q4;refine EOk.value (g':=g) (v:=.tuple #[]) (w':=w) ?_ q4 (.refl hs) (.unk _)
    cases cP with
    |bf _ _ _ ad=>cases ad <;> simp[execOp,hm,resolve,invoke,builtin,hq,Builtin.clear_,az,Qz hu]
    |aG=>simp[execOp,hm,resolve,invoke,builtin,hq,Builtin.clear_,az,Qz hu]
   ·cases cP with
    |bf=>exact absurd rfl hn
    |aG _ _ _ _ cap b base T mm bd qe ej gX=>
     have aZ:=hs.objs l;rw[hH]at aZ;obtain⟨b',base',T',cs,val,r1,r2,r3,r4,r5,r6,r7,r8⟩:=SatVec.of aZ bd;rw[bd]at r1;simp only[Jb,Ji,true_and]at r1;obtain⟨rfl,rfl⟩:=r1;have bn:∀(q:Nat) (v:Value),(Builtin.zeroCells z.cells n)[q]? = some v→q<n * y∧z.cells[q % y]? = some v:=by
      intro q v h;simp only[Builtin.zeroCells,bR,Jam]at h;by_cases mq:q<n * y
      ·rw[Jaj,if_pos mq]at h;have hy0:0<y:=by
        rcases Jae y with h0|h0
        ·subst h0;simp at mq
        ·exact h0
       have aa:q % y<z.cells.size:=(by rw[bR];exact Jbb _ hy0);refine⟨mq,?_⟩;rw[Jd aa];simp only[Js,Jb]at h;rw[←h];simp[aa]
      ·rw[Jaj,if_neg mq]at h;simp at h
     have ai:(Builtin.zeroCells z.cells n).toList.length=n * y:=(by simp[Builtin.zeroCells,bR]);have gM:∀v∈(Builtin.zeroCells z.cells n).toList,v.oneCell'=true:=by
      intro v hv;obtain⟨j,hj⟩:=J4 hv;obtain⟨h1,h2⟩:=bn j v (by simpa using hj);have aa:j % y<zero.length:=by
       rcases Jf (j % y) z.cells.size with h|h
       ·rw[hr.1]at h;exact h
       ·rw[Jk h]at h2;simp at h2
      exact (hr.2 _ _ v (Jc aa) h2).one
     have ba:(st+n) * y≤rows.length * y:=Jn _ q3;rw[Jm]at ba;have hf:=fun j=>Fp (base+st * y) (Builtin.zeroCells z.cells n).toList 0 cs j (by rw[ai];omega);have bx:=HM (P:=P) (Builtin.zeroCells z.cells n).toList 0 w b (base+st * y) cs T' r3 (by rw[ai];omega) gM;generalize gR:((Builtin.zeroCells z.cells n).toList.zipIdx 0).foldl (fun (cs:Array Value) (x:Value×Nat)=>cs.setIfInBounds (base+st * y+x.2) x.1) cs=cs' at hf bx;refine EOk.value (g':=g) (v:=.tuple #[]) (w':=World.au w b cs' T') ?_ q4 ?_ (.unk _)
     ·obtain⟨n',rfl⟩:∃n',n=n'+1:=⟨n-1,by omega⟩;simp[execOp,hm,resolve,invoke,builtin,hq,Builtin.clear_,az,Qz hu,BM hi hz,bx]
     ·refine P2 hs r2 r3 (hf 0).1 _ (by rw[hH];simp) (fun a9 fC=>?_) (by simp);have av:∀(i2:Nat) (row:List C),(rows.take st++List.replicate n zero++rows.drop (st+n))[i2]? = some row→
        (st≤i2∧i2<st+n∧row=zero)∨((i2<st∨st+n≤i2)∧rows[i2]? = some row):=by
       intro i2 row h;by_cases h1:i2<st
       ·rw[J0,Jj (by simp;omega),Jp,if_pos h1]at h;exact .inr ⟨.inl h1,h⟩
       ·by_cases h2:i2<st+n
        ·rw[Jj (by simp;omega),Jl (by simp;omega),Jar]at h;split at h
         ·exact .inl ⟨by omega,h2,by simpa using h.symm⟩
         ·simp at h
        ·rw[Jl (by simp;omega),Jr]at h;refine .inr ⟨.inr (by omega),?_⟩;rw[←h];congr 1;simp;omega
      have bY:∀(i2:Nat) (row:List C) (j:Nat) (c:C),(rows.take st++List.replicate n zero++rows.drop (st+n))[i2]? = some row→row[j]? = some c→
        ∃v,cs'[base+i2 * y+j]? = some v∧RepO (World.au w b cs' T') g l [i2,j] c v:=by
       intro i2 row j c e1 e2;have eu:j<row.length:=(J9.1 e2).1;rcases av i2 row e1 with ⟨a1,a2,rfl⟩|⟨a1,a2⟩
       ·rw[dl]at eu;have pL:(i2-st) * y+j<n * y:=DS (by omega) eu;have nO:j<z.cells.size:=(by rw[bR];exact eu);refine⟨z.cells[j],?_,.plain _ _ _ _ ((hr.2 j c _ e2 (Jd nO)).mono a9)⟩;have jt:i2 * y=st * y+(i2-st) * y:=(by rw[←Jm];congr 1;omega);rw[(hf _).2,if_pos (by rw[ai];omega),jt];have:base+(st * y+(i2-st) * y)+j-(base+st * y+0)=(i2-st) * y+j:=(by omega);rw[this];have aW:(i2-st) * y+j<(Builtin.zeroCells z.cells n).toList.length:=(by rw[ai];exact pL);rw[Jc aW];have h3:=bn ((i2-st) * y+j) _ (by rw[←Jt];exact Jc aW);have lt:((i2-st) * y+j) % y=j:=(by rw[Jaz,Jbf];exact Jbd eu);rw[lt,Jd nO]at h3;exact h3.2.symm
       ·refine⟨val i2 j,?_,Im r2 a9 (fun b' h=>DL h) (by simp) (r8 _ _ _ _ a2 e2)⟩;have hjy:j<y:=(by rw[←r6 _ _ a2];exact eu);rw[(hf _).2,if_neg ?_]
        ·exact r7 _ _ _ _ a2 e2
        ·rw[ai];intro eN;rcases a1 with h|h
         ·have:(i2+1) * y≤st * y:=Jn _ (by omega);rw[Jm,Jag]at this;omega
         ·have:(st+n) * y≤i2 * y:=Jn _ h;rw[Jm]at this;omega
      refine .inr ⟨b,base,T',cs',fun i2 j=>cs'.getD (base+i2 * y+j) undef,bd,r2,fC,?_,?_,fun i2 row h=>?_,fun i2 row j c e1 e2=>?_,fun i2 row j c e1 e2=>?_⟩
      ·rw[(hf 0).1];have:(rows.take st++List.replicate n zero++rows.drop (st+n)).length=rows.length:=(by simp;omega);rw[this];exact r4
      ·have:(rows.take st++List.replicate n zero++rows.drop (st+n)).length=rows.length:=(by simp;omega);rw[this];exact r5
      ·rcases av i2 row h with ⟨_,_,rfl⟩|⟨_,a2⟩
       ·exact dl
       ·exact r6 _ _ a2
      ·obtain⟨v,h1,h2⟩:=bY i2 row j c e1 e2;rw[h1];simp[Jh,h1]
      ·obtain⟨v,h1,h2⟩:=bY i2 row j c e1 e2;have e0:cs'.getD (base+i2 * y+j) undef=v:=(by simp[Jh,h1]);show RepO _ _ _ _ _ (cs'.getD (base+i2 * y+j) undef);rw[e0];exact h2
  ·exact q2.elim
 ·exact q2.elim
theorem Qb2i {sz:Nat}{x y:Opd}{x' y':Operand}{ats:Array TypeId}{t el:TypeId}{i:TypeInfo}{K:V→Heap→Prop}
  (hm:o.op=.call { callee:=.builtin .copy,args:=#[x',y'],argTypes:=ats }) (az:ats[0]? = some t) (hu:P.underlying t=some (.slice el))
  (hi:P.info? el=some i) (hz:i.size=sz) (hx:mO x x'=true) (hy:mO y y'=true)
  (hs:Sat H g w) (he:EnvOk w g e a) (hp:p=true) (ho:(EOp.cpy sz x y).eff P p e H K):EOk P H g w a o K:=by
 simp only[EOp.eff]at ho;obtain⟨q1,q2,q3,q4,q5,q6,q7⟩:=ho;have em:=Al he hx hp q1;have gJ:=Al he hy hp q2;rw[Bc q4]at gJ;have pE:=gJ.aA;generalize (y.v e).c1=sx at *;rw[Bc q3]at em;have cP:=em.aA;generalize (x.v e).c1=cx at *;generalize pK:a.eval x'=xv at cP;generalize pJ:a.eval y'=yv at pE;split at q7
 ·rename_i l z' st n
  split at q7
  ·rename_i y2 rows hH
   obtain⟨rfl,rfl,k3,k4,k5,k6⟩:=q7;obtain⟨f,f1,f2,f3⟩:=Ff (P:=P) hs pE q5 q6 k5;obtain⟨ad,cap2,rfl,r1',r2',r3',_⟩:=Fm hs pE q5;rw[q6]at r3';have qi:Nat.min (ax sx) n=ax sx:=Nat.min_eq_left k4;generalize dg:ax sx=m at *;by_cases i8:m=0
   ·subst i8;have bM:rowsOf H sx=[]:=Jy.1 (by omega);have e0:rows.take st++rowsOf H sx++rows.drop (st+0)=rows:=(by rw[bM];simp);rw[e0,Heap.set_self _ _ _ hH]at k6;refine EOk.value (g':=g) (v:=.int .i64 0) (w':=w) ?_ k6 (.refl hs) (.c _ _ (.int _ _));simp at f1
    cases cP with
    |bf _ _ _ ad2=>cases ad2 <;> simp[execOp,hm,resolve,invoke,builtin,pK,pJ,Builtin.copy_,Builtin.lenOf,az,Qz hu,Bb hi,hz,f1,storeCells,goInt]
    |aG=>simp[execOp,hm,resolve,invoke,builtin,pK,pJ,Builtin.copy_,Builtin.lenOf,az,Qz hu,Bb hi,hz,f1,storeCells,goInt]
   ·cases cP with
    |bf=>exact absurd (Nat.le_zero.1 k4) i8
    |aG _ _ _ _ cap b base T mm bd qe ej gX=>
     have aZ:=hs.objs l;rw[hH]at aZ;obtain⟨b',base',T',cs,val,r1,r2,r3,r4,r5,r6,r7,r8⟩:=SatVec.of aZ bd;rw[bd]at r1;simp only[Jb,Ji,true_and]at r1;obtain⟨rfl,rfl⟩:=r1;have ai:((List.range (m * y2)).map f).length=m * y2:=(by simp);have gM:∀v∈(List.range (m * y2)).map f,v.oneCell'=true:=by
      intro v hv;obtain⟨q,hq,rfl⟩:=Jbi.1 hv;exact f2 q (Jbh.1 hq)
     have ba:(st+n) * y2≤rows.length * y2:=Jn _ k3;have sh:m * y2≤n * y2:=Jn _ k4;rw[Jm]at ba;have hf:=fun j=>Fp (base+st * y2) ((List.range (m * y2)).map f) 0 cs j (by rw[ai];omega);have bx:=HM (P:=P) ((List.range (m * y2)).map f) 0 w b (base+st * y2) cs T' r3 (by rw[ai];omega) gM;generalize gR:(((List.range (m * y2)).map f).zipIdx 0).foldl (fun (cs:Array Value) (x:Value×Nat)=>cs.setIfInBounds (base+st * y2+x.2) x.1) cs=cs' at hf bx;refine EOk.value (g':=g) (v:=.int .i64 m) (w':=World.au w b cs' T') ?_ k6 ?_ (.c _ _ (.int _ _))
     ·simp[execOp,hm,resolve,invoke,builtin,pK,pJ,Builtin.copy_,Builtin.lenOf,az,Qz hu,Bb hi,hz,qi,f1,bx,goInt]
     ·refine P2 hs r2 r3 (hf 0).1 _ (by rw[hH];simp) (fun a9 fC=>?_) (by simp);have av:∀(i2:Nat) (row:List C),(rows.take st++rowsOf H sx++rows.drop (st+m))[i2]? = some row→
        (st≤i2∧i2<st+m∧(rowsOf H sx)[i2-st]? = some row)∨((i2<st∨st+m≤i2)∧rows[i2]? = some row):=by
       intro i2 row h;by_cases h1:i2<st
       ·rw[J0,Jj (by simp;omega),Jp,if_pos h1]at h;exact .inr ⟨.inl h1,h⟩
       ·by_cases h2:i2<st+m
        ·rw[Jj (by simp;omega),Jl (by simp;omega)]at h;refine .inl ⟨by omega,h2,?_⟩;have e:i2-(rows.take st).length=i2-st:=(by simp;omega);rw[e]at h;exact h
        ·rw[Jl (by simp;omega),Jr]at h;refine .inr ⟨.inr (by omega),?_⟩;rw[←h];congr 1;simp;omega
      have bY:∀(i2:Nat) (row:List C) (j:Nat) (c:C),(rows.take st++rowsOf H sx++rows.drop (st+m))[i2]? = some row→row[j]? = some c→
        ∃v,cs'[base+i2 * y2+j]? = some v∧RepO (World.au w b cs' T') g l [i2,j] c v:=by
       intro i2 row j c e1 e2;have eu:j<row.length:=(J9.1 e2).1;rcases av i2 row e1 with ⟨a1,a2,a3⟩|⟨a1,a2⟩
       ·rw[r3' _ _ a3]at eu;have pL:(i2-st) * y2+j<m * y2:=DS (by omega) eu;refine⟨f ((i2-st) * y2+j),?_,.plain _ _ _ _ ((f3 _ _ _ _ a3 e2).mono a9)⟩;have jt:i2 * y2=st * y2+(i2-st) * y2:=(by rw[←Jm];congr 1;omega);rw[(hf _).2,if_pos (by rw[ai];omega),jt];have:base+(st * y2+(i2-st) * y2)+j-(base+st * y2+0)=(i2-st) * y2+j:=(by omega);rw[this,Jo,Jab pL];rfl
       ·refine⟨val i2 j,?_,Im r2 a9 (fun b' h=>DL h) (by simp) (r8 _ _ _ _ a2 e2)⟩;have hjy:j<y2:=(by rw[←r6 _ _ a2];exact eu);rw[(hf _).2,if_neg ?_]
        ·exact r7 _ _ _ _ a2 e2
        ·rw[ai];intro eN;rcases a1 with h|h
         ·have:(i2+1) * y2≤st * y2:=Jn _ (by omega);rw[Jm,Jag]at this;omega
         ·have:(st+m) * y2≤i2 * y2:=Jn _ h;rw[Jm]at this;omega
      have dq:(rows.take st++rowsOf H sx++rows.drop (st+m)).length=rows.length:=(by simp;omega);refine .inr ⟨b,base,T',cs',fun i2 j=>cs'.getD (base+i2 * y2+j) undef,bd,r2,fC,?_,?_,fun i2 row h=>?_,fun i2 row j c e1 e2=>?_,fun i2 row j c e1 e2=>?_⟩
      ·rw[(hf 0).1,dq];exact r4
      ·rw[dq];exact r5
      ·rcases av i2 row h with ⟨_,_,a3⟩|⟨_,a2⟩
       ·exact r3' _ _ a3
       ·exact r6 _ _ a2
      ·obtain⟨v,h1,h2⟩:=bY i2 row j c e1 e2;rw[h1];simp[Jh,h1]
      ·obtain⟨v,h1,h2⟩:=bY i2 row j c e1 e2;have e0:cs'.getD (base+i2 * y2+j) undef=v:=(by simp[Jh,h1]);show RepO _ _ _ _ _ (cs'.getD (base+i2 * y2+j) undef);rw[e0];exact h2
  ·exact q7.elim
 ·exact q7.elim
end Go.AE
