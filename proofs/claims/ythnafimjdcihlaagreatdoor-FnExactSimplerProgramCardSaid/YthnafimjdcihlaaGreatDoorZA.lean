/- Part 1 of the proof: the engine, codes, walks and plain laws, each named where it stands. -/
import Derived.Laws.BytesArg
import Derived.Laws.RangeAny
import Derived.MapKept
import Derived.WalkKit
open Nat (reduceEqDiff reduceAdd reduceLeDiff reduceLT)
set_option linter.unusedVariables false
set_option linter.unusedSimpArgs false
set_option maxRecDepth 4000
namespace Go.AE
def LIM:Nat:=549755813888
inductive C where
 |int (k:IntKind) (n:Int)
 |bool (b:Bool)
 |str (s:List UInt8)
 |sl (full:Bool) (sz:Nat) (rows:List (List C))
 |pp (cells:List C)
 |ep (s:C) (sz i k:Nat)
 |pnil
 |ptr (l k:Nat)
 |vsl (l sz st n:Nat)
 |mp (l:Nat)
 |mnil
 |slb (n:Nat)
 |stb (n:Nat)
 |cm (agg:Bool) (ks:List C) (rows:List (List C))
 |fn (f:Nat) (caps:List C)
 |fnil
 |itr (l:Nat)
 |ow (sz:Nat) (rows:List (List C))
 |unk
 deriving Inhabited
inductive V where
 |c (x:C)
 |ag (cs:List C)
 |tup (vs:List V)
 |gd (p:Bool) (v:V)
 |unk
 |pn (v:Value)
 |asl (l k n:Nat)
 deriving Inhabited
inductive Obj where
 |none
 |st (cells:List C)
 |vec (sz:Nat) (rows:List (List C))
 |map (ver:Nat) (es:List (C×V))
 |iter (m:Option (Nat×Nat)) (left:List (C×V)) (cur:Option (C×V))
 |gl (b:Nat) (cells:List C)
 |sit (s:List UInt8) (q:Nat)
abbrev Heap:=Nat→Obj
def Heap.set (H:Heap)(l:Nat)(o:Obj):Heap:=fun x=>if x=l then o else H x
theorem Heap.set_same (H:Heap)(l:Nat)(o:Obj):H.set l o l=o:=by simp[Heap.set]
theorem Heap.set_other (H:Heap){l x:Nat}(o:Obj)(h:x≠l):H.set l o x=H x:=by simp[Heap.set,h]
theorem Heap.set_self (H:Heap)(l:Nat)(o:Obj)(h:H l=o):H.set l o=H:=by
 funext x;simp only[Heap.set];split
 ·subst_vars;rfl
 ·rfl
structure G where
 per:Nat→Bool
 own:Nat→Option (Nat×List Nat)
 io:Nat→Option (Nat×Nat×Nat)
def C.elemSz:C→Nat
 |.sl _ sz _=>sz
 |.vsl _ sz _ _=>sz
 |_=>0
inductive RepC (w:World)(g:G):C→Value→Prop
 |int (k n):RepC w g (.int k n) (.int k n)
 |bool (b):RepC w g (.bool b) (.bool b)
 |str (s:List UInt8) (h:s.length≤LIM):RepC w g (.str s) (.string ⟨s.toArray⟩)
 |slnil (fl sz a):RepC w g (.sl fl sz []) (.slice a 0 0)
 |sl (fl:Bool) (sz:Nat) (rows:List (List C)) (b off cap:Nat) (val:Nat→Nat→Value) (hl:rows.length≤LIM) (hf:fl=true→cap=rows.length) (hcap:rows.length≤cap)
   (hp:g.per b=true) (hr:∀(i:Nat) (row:List C),rows[i]? = some row→row.length=sz)
   (hc:∀(i:Nat) (row:List C) (j:Nat) (c:C),rows[i]? = some row→row[j]? = some c→w.cell? ⟨b,off+i * sz+j,none⟩=some (val i j))
   (hv:∀(i:Nat) (row:List C) (j:Nat) (c:C),rows[i]? = some row→row[j]? = some c→RepC w g c (val i j)) :
   RepC w g (.sl fl sz rows) (.slice (some ⟨b,off,none⟩) rows.length cap)
 |pp (cells:List C) (b off:Nat) (val:Nat→Value) (hp:g.per b=true)
   (hc:∀(j:Nat) (c:C),cells[j]? = some c→w.cell? ⟨b,off+j,none⟩=some (val j))
   (hv:∀(j:Nat) (c:C),cells[j]? = some c→RepC w g c (val j)) :
   RepC w g (.pp cells) (.pointer (some ⟨b,off,none⟩))
 |ep (s sz i k b off n cap) (hs:RepC w g s (.slice (some ⟨b,off,none⟩) n cap)) (hz:s.elemSz=sz) (hi:i<n) :
   RepC w g (.ep s sz i k) (.pointer (some ⟨b,off+i * sz+k,none⟩))
 |pnil:RepC w g .pnil (.pointer none)
 |ptr (l k b sz base) (h:g.io l=some (b,sz,base)):RepC w g (.ptr l k) (.pointer (some ⟨b,base+k,none⟩))
 |vslnil (l sz st a):RepC w g (.vsl l sz st 0) (.slice a 0 0)
 |vsl (l sz st n cap b base T m) (h:g.io l=some (b,sz,base)) (hn:n≤cap) (hs:w.shape? b=some (T,m))
   (hm:base+(st+cap) * sz≤m) :
   RepC w g (.vsl l sz st n) (.slice (some ⟨b,base+st * sz,none⟩) n cap)
 |mp (l b) (h:g.io l=some (b,0,0)):RepC w g (.mp l) (.map (some b))
 |mnil:RepC w g .mnil (.map none)
 |slb (n a cap) (h:n<2 ^ 63):RepC w g (.slb n) (.slice a n cap)
 |stb (s:ByteArray) (h:s.size<2 ^ 63):RepC w g (.stb s.size) (.string s)
 |cm (agg:Bool) (ks:List C) (rows:List (List C)) (b:Nat) (ms:Array MapEntry) (clock:Nat) (val:Nat→Nat→Value) (hp:g.per b=true) (hb:w.heap[b]? = some (.map ms clock))
   (hsz:ms.size=ks.length) (hrl:rows.length=ks.length) (hl:ks.length≤LIM)
   (hd:∀(i j:Nat) (m m':MapEntry),ms[i]? = some m→ms[j]? = some m'→(m.born=m'.born∨m.key=m'.key)→i=j)
   (hm:∀(i:Nat) (row:List C) (m:MapEntry),rows[i]? = some row→ms[i]? = some m→m.val=(if agg then .agg ((List.range row.length).map (val i)).toArray else val i 0)∧(agg=false→row.length=1))
   (hk:∀(i:Nat) (k:C) (m:MapEntry),ks[i]? = some k→ms[i]? = some m→RepC w g k m.key)
   (hv:∀(i:Nat) (row:List C) (j:Nat) (c:C),rows[i]? = some row→row[j]? = some c→RepC w g c (val i j)) :
   RepC w g (.cm agg ks rows) (.map (some b))
 |fn (f:Nat) (caps:List C) (vs:List Value) (hl:vs.length=caps.length)
   (hv:∀(j:Nat) (c:C) (u:Value),caps[j]? = some c→vs[j]? = some u→RepC w g c u) :
   RepC w g (.fn f caps) (.func (.func f) #[] vs.toArray)
 |fnil:RepC w g .fnil .nilFunc
 |itr (l b) (h:g.io l=some (b,0,0)):RepC w g (.itr l) (.pointer (some ⟨b,0,none⟩))
 |unk (v) (h:v.oneCell'=true):RepC w g .unk v
inductive RepV (w:World)(g:G):V→Value→Prop
 |c (x v) (h:RepC w g x v):RepV w g (.c x) v
 |ag (cs:List C) (vs:List Value) (hl:vs.length=cs.length) (h:∀(j:Nat) (c:C) (u:Value),cs[j]? = some c→vs[j]? = some u→RepC w g c u) :
   RepV w g (.ag cs) (.agg vs.toArray)
 |tup (xs:List V) (vs:List Value) (hl:vs.length=xs.length) (h:∀(j:Nat) (x:V) (u:Value),xs[j]? = some x→vs[j]? = some u→RepV w g x u) :
   RepV w g (.tup xs) (.tuple vs.toArray)
 |gd (p:Bool) (x v) (h:p=true→RepV w g x v) (h':p=false→v=undef):RepV w g (.gd p x) v
 |unk (v):RepV w g .unk v
 |asl (l k n b sz) (h:g.io l=some (b,sz,0)):RepV w g (.asl l k n) (.slice (some ⟨b,k,none⟩) n n)
inductive RepO (w:World)(g:G):Nat→List Nat→C→Value→Prop
 |plain (l p c v) (h:RepC w g c v):RepO w g l p c v
 |ownil (l p sz a):RepO w g l p (.ow sz []) (.slice a 0 0)
 |ow (l:Nat) (p:List Nat) (sz:Nat) (rows:List (List C)) (b off cap:Nat) (T:TypeId) (cs:Array Value) (val:Nat→Nat→Value) (hl:rows.length≤LIM) (hcap:rows.length≤cap)
   (hown:g.own b=some (l,p)) (hb:w.heap[b]? = some (.cells cs T (0,0))) (hsz:off+cap * sz≤cs.size)
   (hr:∀(i:Nat) (row:List C),rows[i]? = some row→row.length=sz)
   (hc:∀(i:Nat) (row:List C) (j:Nat) (c:C),rows[i]? = some row→row[j]? = some c→cs[off+i * sz+j]? = some (val i j))
   (hv:∀(i:Nat) (row:List C) (j:Nat) (c:C),rows[i]? = some row→row[j]? = some c→RepO w g l (p++[i,j]) c (val i j)) :
   RepO w g l p (.ow sz rows) (.slice (some ⟨b,off,none⟩) rows.length cap)
structure Le (g:G)(w:World)(g':G)(w':World):Prop where
 per:∀b,g.per b=true→g'.per b=true∧w'.heap[b]? = w.heap[b]?
 io:∀l x,g.io l=some x→g'.io l=some x
 size:w.heap.size≤w'.heap.size
 shp:∀b T n,w.shape? b=some (T,n)→w'.shape? b=some (T,n)
 tape:w'.tape=w.tape
 os:w'.os=w.os
 output:w'.output=w.output
theorem Le.refl (g:G)(w:World):Le g w g w:=⟨fun _ h=>⟨h,rfl⟩,fun _ _ h=>h,Nat.le_refl _,fun _ _ _ h=>h,rfl,rfl,rfl⟩
theorem Le.trans {g g' g'':G}{w w' w'':World}(h:Le g w g' w')(k:Le g' w' g'' w''):Le g w g'' w'':=
 ⟨fun b hb=>⟨(k.per b (h.per b hb).1).1,((k.per b (h.per b hb).1).2).trans (h.per b hb).2⟩,fun l x hx=>k.io l x (h.io l x hx),
  Nat.le_trans h.size k.size,fun b T n hn=>k.shp b T n (h.shp b T n hn),k.tape.trans h.tape,k.os.trans h.os,k.output.trans h.output⟩
theorem Qir {w w':World}{a:Addr}(h:w'.heap[a.block]? = w.heap[a.block]?):w'.cell? a=w.cell? a:=by
 simp only[World.cell?,h]
theorem RepC.mono {g g':G}{w w':World}(hle:Le g w g' w'){c:C}{v:Value}(h:RepC w g c v):RepC w' g' c v:=by
 induction h with
 |int k n=>exact .int k n
 |bool b=>exact .bool b
 |str s h=>exact .str s h
 |slnil fl sz a=>exact .slnil fl sz a
 |sl fl sz rows b off cap val hl hf hcap hp hr hc hv ih=>
  refine .sl fl sz rows b off cap val hl hf hcap (hle.per b hp).1 hr (fun i row j c h1 h2=>?_) ih
  rw[Qir (w:=w) (hle.per b hp).2];exact hc i row j c h1 h2
 |pp cells b off val hp hc hv ih=>
  refine .pp cells b off val (hle.per b hp).1 (fun j c h1=>?_) ih
  rw[Qir (w:=w) (hle.per b hp).2];exact hc j c h1
 |ep s sz i k b off n cap hs hz hi ih=>exact .ep s sz i k b off n cap ih hz hi
 |pnil=>exact .pnil
 |ptr l k b sz base h=>exact .ptr l k b sz base (hle.io _ _ h)
 |vslnil l sz st a=>exact .vslnil l sz st a
 |vsl l sz st n cap b base T m h hn hs hm=>exact .vsl l sz st n cap b base T m (hle.io _ _ h) hn (hle.shp _ _ _ hs) hm
 |mp l b h=>exact .mp l b (hle.io _ _ h)
 |mnil=>exact .mnil
 |slb n a cap h=>exact .slb n a cap h
 |stb s h=>exact .stb s h
 |cm agg ks rows b ms clock val hp hb hsz hrl hl hd hm hk hv ihk ihv=>exact .cm agg ks rows b ms clock val (hle.per b hp).1 ((hle.per b hp).2.trans hb) hsz hrl hl hd hm ihk ihv
 |fn f caps vs hl hv ih=>exact .fn f caps vs hl ih
 |fnil=>exact .fnil
 |itr l b h=>exact .itr l b (hle.io _ _ h)
 |unk v h=>exact .unk v h
theorem RepV.mono {g g':G}{w w':World}(hle:Le g w g' w'){x:V}{v:Value}(h:RepV w g x v):RepV w' g' x v:=by
 induction h with
 |c x v h=>exact .c x v (h.mono hle)
 |ag cs vs hl h=>exact .ag cs vs hl fun j c u h1 h2=>(h j c u h1 h2).mono hle
 |tup xs vs hl h ih=>exact .tup xs vs hl ih
 |gd p x v h h' ih=>exact .gd p x v ih h'
 |asl l k n b sz h=>exact .asl l k n b sz (hle.io _ _ h)
 |unk v=>exact .unk v
theorem RepC.one {w:World}{g:G}{c:C}{v:Value}(h:RepC w g c v):v.oneCell'=true:=by
 cases h <;> first|rfl|assumption
theorem RepO.move {g g':G}{w w':World}(hle:Le g w g' w'){l:Nat}{p:List Nat}{c:C}{v:Value}(h:RepO w g l p c v) :
  ∀{l':Nat} {p':List Nat},(∀q b,g.own b=some (l,p++q)→g'.own b=some (l',p'++q)∧w'.heap[b]? = w.heap[b]?)→
  RepO w' g' l' p' c v:=by
 induction h with
 |plain p c v h=>exact fun _=>.plain _ _ c v (h.mono hle)
 |ownil p sz a=>exact fun _=>.ownil _ _ sz a
 |ow p sz rows b off cap T cs val hl hcap hown hb hsz hr hc hv ih=>
  intro l' p' hk
  have h0:=hk [] b (by simpa using hown)
  refine .ow l' p' sz rows b off cap T cs val hl hcap (by simpa using h0.1) (h0.2.trans hb) hsz hr hc fun i row j c h1 h2=>?_
  refine ih i row j c h1 h2 fun q b hq=>?_
  have:=hk ([i,j]++q) b (by rw[←List.append_assoc];exact hq)
  rw[List.append_assoc];exact this
theorem RepO.plain_of {w:World}{g:G}{l:Nat}{p:List Nat}{c:C}{v:Value}(h:RepO w g l p c v)(hn:∀sz rows,c≠.ow sz rows):RepC w g c v:=by
 cases h with
 |plain _ _ _ h=>exact h
 |ownil=>exact absurd rfl (hn _ _)
 |ow=>exact absurd rfl (hn _ _)
def RepE (w:World)(g:G)(e:C×V)(m:MapEntry):Prop:=RepC w g e.1 m.key∧RepV w g e.2 m.val
def SatVec (g:G)(w:World)(l sz:Nat)(rows:List (List C)):Prop:=
 ∃(b base:Nat) (T:TypeId) (cs:Array Value) (val:Nat→Nat→Value),g.io l=some (b,sz,base)∧g.own b=some (l,[])∧
   w.heap[b]? = some (.cells cs T (0,0))∧base+rows.length * sz≤cs.size∧rows.length≤LIM∧
   (∀(i:Nat) (row:List C),rows[i]? = some row→row.length=sz)∧
   (∀(i:Nat) (row:List C) (j:Nat) (c:C),rows[i]? = some row→row[j]? = some c→cs[base+i * sz+j]? = some (val i j))∧
   ∀(i:Nat) (row:List C) (j:Nat) (c:C),rows[i]? = some row→row[j]? = some c→RepO w g l [i,j] c (val i j)
theorem SatVec.of {g:G}{w:World}{l sz:Nat}{rows:List (List C)}{b base:Nat}(h:(rows=[]∧∃x,g.io l=some x∧x.2.1≠sz)∨SatVec g w l sz rows)(hio:g.io l=some (b,sz,base)):SatVec g w l sz rows:=by
 rcases h with ⟨_,x,h1,h2⟩|h
 ·rw[hio]at h1;simp at h1;subst h1;exact absurd rfl h2
 ·exact h
def SatObj (H:Heap)(g:G)(w:World)(l:Nat):Obj→Prop
 |.none=>True
 |.st cells=>∃(b sz:Nat) (T:TypeId) (cs:Array Value),g.io l=some (b,sz,0)∧g.own b=some (l,[])∧w.heap[b]? = some (.cells cs T (0,0))∧
   cs.size=cells.length∧∀(k:Nat) (c:C) (v:Value),cells[k]? = some c→cs[k]? = some v→RepO w g l [k] c v
 |.vec sz rows=>(rows=[]∧∃x,g.io l=some x∧x.2.1≠sz)∨SatVec g w l sz rows
 |.map _ es=>∃(b:Nat) (ms:Array MapEntry) (clock:Nat),g.io l=some (b,0,0)∧g.own b=some (l,[])∧w.heap[b]? = some (.map ms clock)∧
   ms.size=es.length∧es.length≤LIM∧(∀(i:Nat) (e:C×V) (m:MapEntry),es[i]? = some e→ms[i]? = some m→RepE w g e m)∧
   (∀(i:Nat) (m:MapEntry),ms[i]? = some m→m.born<clock)∧(∀(i j:Nat) (m m':MapEntry),ms[i]? = some m→ms[j]? = some m'→(m.born=m'.born∨m.key=m'.key)→i=j)
 |.iter none left cur=>∃(b since:Nat) (seen:Array Nat) (last:Nat),g.io l=some (b,0,0)∧g.own b=some (l,[])∧
   w.heap[b]? = some (.mapIter none since seen last)∧left=[]
 |.iter (some (m,ver)) left cur=>∃(b mb since:Nat) (seen:Array Nat),g.io l=some (b,0,0)∧g.own b=some (l,[])∧
   w.heap[b]? = some (.mapIter (some mb) since seen since)∧g.io m=some (mb,0,0)∧
   ∀v es,H m=.map v es→ver≤v∧(v=ver→∃(ms:Array MapEntry),w.heap[mb]? = some (.map ms since)∧ms.size=es.length∧
    es.Nodup∧left.Nodup∧(∀e,e∈left↔∃i:Nat,∃m:MapEntry,es[i]? = some e∧ms[i]? = some m∧m.born∉seen)∧
    (∀e,cur=some e→∃i:Nat,∃m:MapEntry,es[i]? = some e∧ms[i]? = some m∧seen.back? = some m.born))
 |.sit s q=>∃b:Nat,g.io l=some (b,0,0)∧g.own b=some (l,[])∧w.heap[b]? = some (.stringIter ⟨s.toArray⟩ q)∧s.length≤LIM
 |.gl b cells=>∃(sz:Nat) (val:Nat→Value),g.io l=some (b,sz,0)∧g.per b=true∧(∀(j:Nat) (c:C),cells[j]? = some c→w.cell? ⟨b,j,none⟩=some (val j))∧
   ∀(j:Nat) (c:C),cells[j]? = some c→RepC w g c (val j)
structure Sat (H:Heap)(g:G)(w:World):Prop where
 fresh:∀b,w.heap.size≤b→g.per b=false∧g.own b=none
 names:∃N,∀l,N≤l→g.io l=none
 excl:∀b x,g.own b=some x→g.per b=false
 named:∀b l p,g.own b=some (l,p)→g.io l≠none
 objs:∀l,SatObj H g w l (H l)
def Fr (H:Heap)(g:G)(w:World)(H':Heap)(g':G)(w':World):Prop:=
 ∀l,g.io l≠none→H l=.none→H' l=.none∧∀b p,g.own b=some (l,p)→g'.own b=some (l,p)∧w'.heap[b]? = w.heap[b]?
theorem Fr.refl (H:Heap)(g:G)(w:World):Fr H g w H g w:=fun _ _ h=>⟨h,fun _ _ h=>⟨h,rfl⟩⟩
theorem Fr.trans {H H' H'':Heap}{g g' g'':G}{w w' w'':World}(hle:Le g w g' w')(h:Fr H g w H' g' w')(k:Fr H' g' w' H'' g'' w''):Fr H g w H'' g'' w'':=by
 intro l hl hn
 obtain⟨h1,h2⟩:=h l hl hn
 have hl':g'.io l≠none:=by
  cases hx:g.io l with
  |none=>exact absurd hx hl
  |some x=>rw[hle.io l x hx];simp
 obtain⟨k1,k2⟩:=k l hl' h1
 refine⟨k1,fun b p hb=>?_⟩
 obtain⟨a1,a2⟩:=h2 b p hb
 obtain⟨b1,b2⟩:=k2 b p a1
 exact⟨b1,b2.trans a2⟩
structure Stp (H:Heap)(g:G)(w:World)(H':Heap)(g':G)(w':World):Prop where
 le:Le g w g' w'
 fr:Fr H g w H' g' w'
 sat:Sat H' g' w'
theorem Stp.refl {H:Heap}{g:G}{w:World}(h:Sat H g w):Stp H g w H g w:=⟨.refl _ _,.refl _ _ _,h⟩
theorem Stp.trans {H H' H'':Heap}{g g' g'':G}{w w' w'':World}(h:Stp H g w H' g' w')(k:Stp H' g' w' H'' g'' w''):Stp H g w H'' g'' w'':=
 ⟨h.le.trans k.le,h.fr.trans h.le k.fr,k.sat⟩
theorem Sat.io_some {H:Heap}{g:G}{w:World}(h:Sat H g w){l:Nat}(hl:H l≠.none):g.io l≠none:=by
 have:=h.objs l
 cases ho:H l with
 |none=>exact absurd ho hl
 |st cells=>rw[ho]at this;obtain⟨b,sz,T,cs,h1,_⟩:=this;rw[h1];simp
 |vec sz rows=>
  rw[ho]at this
  rcases this with ⟨_,x,h1,_⟩|⟨b,sz,T,cs,v,h1,_⟩
  ·rw[h1];simp
  ·rw[h1];simp
 |map v es=>rw[ho]at this;obtain⟨b,ms,clock,h1,_⟩:=this;rw[h1];simp
 |gl b cells=>rw[ho]at this;obtain⟨sz,val,h1,_⟩:=this;rw[h1];simp
 |sit s q=>rw[ho]at this;obtain⟨b,h1,_⟩:=this;rw[h1];simp
 |iter m left cur=>
  rw[ho]at this
  cases m with
  |none=>obtain⟨b,s,se,la,h1,_⟩:=this;rw[h1];simp
  |some m=>obtain⟨m,v⟩:=m;obtain⟨b,mb,s,se,h1,_⟩:=this;rw[h1];simp
theorem Sat.none_of_io {H:Heap}{g:G}{w:World}(h:Sat H g w){l:Nat}(hl:g.io l=none):H l=.none:=by
 cases ho:H l with
 |none=>rfl
 |_=>exact absurd hl (h.io_some (by rw[ho];simp))
end Go.AE

namespace Go.AE
abbrev Env:=List (Nat×V)
def lk (t:Nat):Env→V
 |[]=>.unk
 |(s,v)::e=>if t=s then v else lk t e
inductive Opd where
 |t (n:Nat)
 |k (v:V)
 deriving Inhabited
def V.bare:V→V
 |.gd _ v=>v
 |v=>v
def V.fine (p:Bool):V→Prop
 |.gd q _=>p=true→q=true
 |_=>True
def Opd.raw (e:Env):Opd→V
 |.t n=>lk n e
 |.k v=>v
def Opd.v (e:Env)(o:Opd):V:=(o.raw e).bare
def Opd.fine (p:Bool)(e:Env)(o:Opd):Prop:=(o.raw e).fine p
def C.isOw:C→Bool
 |.ow _ _=>true
 |_=>false
def Q9 (H:Heap):C→List (List C)
 |.sl _ _ rows=>rows
 |.vsl l _ st n=>match H l with
  |.vec _ rows=>(rows.drop st).take n
  |_=>[]
 |_=>[]
def Qy4 (H:Heap):C→Prop
 |.sl _ _ _=>True
 |.vsl l sz st n=>match H l with
  |.vec z rows=>z=sz∧st+n≤rows.length
  |_=>False
 |_=>False
def lenC:C→Nat
 |.sl _ _ rows=>rows.length
 |.vsl _ _ _ n=>n
 |_=>0
def lenX:C→Nat
 |.slb n=>n
 |c=>lenC c
def Qbh4:C→Prop
 |.slb _=>True
 |_=>False
def inR (k:IntKind)(n:Int):Prop:=k.min≤n∧n≤k.max
def Qbgx (op:BinOp)(k:IntKind)(a b:Int):Int:=
 match op with
 |.and=>k.wrap (BitVec.ofInt k.bits a&&& BitVec.ofInt k.bits b).toNat
 |.or=>k.wrap (BitVec.ofInt k.bits a ||| BitVec.ofInt k.bits b).toNat
 |_=>k.wrap (BitVec.ofInt k.bits a ^^^ BitVec.ofInt k.bits b).toNat
def C.isPtr:C→Bool
 |.pp _|.ep _ _ _ _|.ptr _ _=>true
 |_=>false
def binC:BinOp→C→C→C
 |.add,.int k a,.int _ b=>.int k (a+b)
 |.sub,.int k a,.int _ b=>.int k (a-b)
 |.mul,.int k a,.int _ b=>.int k (a * b)
 |.quo,.int k a,.int _ b=>.int k (a.tdiv b)
 |.rem,.int k a,.int _ b=>.int k (a.tmod b)
 |.and,.int k a,.int _ b=>.int k (Qbgx .and k a b)
 |.or,.int k a,.int _ b=>.int k (Qbgx .or k a b)
 |.xor,.int k a,.int _ b=>.int k (Qbgx .xor k a b)
 |.eql,.int _ a,.int _ b=>.bool (decide (a=b))
 |.neq,.int _ a,.int _ b=>.bool (!decide (a=b))
 |.lss,.int _ a,.int _ b=>.bool (decide (a<b))
 |.leq,.int _ a,.int _ b=>.bool (decide (a≤b))
 |.gtr,.int _ a,.int _ b=>.bool (decide (b<a))
 |.geq,.int _ a,.int _ b=>.bool (decide (b≤a))
 |.eql,.bool a,.bool b=>.bool (a == b)
 |.neq,.bool a,.bool b=>.bool (!(a == b))
 |.add,.str a,.str b=>.str (a++b)
 |.eql,.str a,.str b=>.bool (decide (a=b))
 |.neq,.str a,.str b=>.bool (!decide (a=b))
 |.eql,x,.pnil=>.bool (!x.isPtr)
 |.neq,x,.pnil=>.bool x.isPtr
 |_,_,_=>.unk
def binO (tag:Nat):BinOp→C→C→Prop
 |.add,.int k a,.int k' b=>k=k'∧inR k (a+b)
 |.sub,.int k a,.int k' b=>k=k'∧inR k (a-b)
 |.mul,.int k a,.int k' b=>k=k'∧inR k (a * b)
 |.quo,.int k a,.int k' b=>k=k'∧b≠0∧inR k (a.tdiv b)
 |.rem,.int k a,.int k' b=>k=k'∧b≠0
 |.and,.int k _,.int k' _=>k=k'
 |.or,.int k _,.int k' _=>k=k'
 |.xor,.int k _,.int k' _=>k=k'
 |.eql,.int k _,.int k' _=>k=k'
 |.neq,.int k _,.int k' _=>k=k'
 |.lss,.int k _,.int k' _=>k=k'
 |.leq,.int k _,.int k' _=>k=k'
 |.gtr,.int k _,.int k' _=>k=k'
 |.geq,.int k _,.int k' _=>k=k'
 |.eql,.bool _,.bool _=>tag=1
 |.neq,.bool _,.bool _=>tag=1
 |.add,.str a,.str b=>a.length+b.length≤LIM
 |.eql,.str _,.str _=>True
 |.neq,.str _,.str _=>True
 |.eql,x,.pnil=>tag=2∧(x.isPtr=true∨x=.pnil)
 |.neq,x,.pnil=>tag=2∧(x.isPtr=true∨x=.pnil)
 |_,_,_=>False
def Qnb (H:Heap):C→List C
 |.pp cells=>cells
 |.ptr l k=>match H l with
  |.st cells=>cells.drop k
  |_=>[]
 |.ep s _ i k=>((Q9 H s).getD i []).drop k
 |_=>[]
def Qa46 (H:Heap):C→Prop
 |.pp _=>True
 |.ptr l _=>match H l with
  |.st _=>True
  |_=>False
 |.ep s sz i _=>Qy4 H s∧i<lenC s∧s.elemSz=sz
 |_=>False
def noOw (cs:List C):Bool:=cs.all fun c=>!c.isOw
def Qbey (c:Bool):V→V→V
 |.c (.bool a),.c (.bool b)=>.c (.bool (bif c then a else b))
 |x,y=>if c then x else y
def V.cells:V→List C
 |.c x=>[x]
 |.ag cs=>cs
 |_=>[]
def Qgs:C→C→Bool
 |.int _ a,.int _ b=>decide (a=b)
 |.str a,.str b=>decide (a=b)
 |.bool a,.bool b=>a == b
 |_,_=>false
def Qoa (tag:Nat)(k:C)(es:List (C×V)):Prop:=
 match tag,k with
 |0,.int .i64 _=>∀e∈es,∃n,e.1=.int .i64 n
 |1,.str _=>∀e∈es,∃s,e.1=.str s
 |2,.bool _=>∀e∈es,∃b,e.1=.bool b
 |_,_=>False
def Qf5 (k:C):List (C×V)→Option V
 |[]=>none
 |e::es=>if Qgs k e.1 then some e.2 else Qf5 k es
def Qax8 (agg:Bool)(cs:List C):V:=if agg then .ag cs else .c (cs.headD .unk)
def Q7 (H:Heap):C→List (C×V)
 |.mp l=>match H l with
  |.map _ es=>es
  |_=>[]
 |.cm agg ks rows=>(ks.zip rows).map fun e=>(e.1,Qax8 agg e.2)
 |_=>[]
def Qxv (H:Heap):C→Prop
 |.mp l=>match H l with
  |.map _ _=>True
  |_=>False
 |.mnil=>True
 |.cm _ _ _=>True
 |_=>False
def Q3i (cells:List C):List (Nat×List C)→List C
 |[]=>cells
 |(o,p)::r=>Q3i (cells.take o++p++cells.drop (o+p.length)) r
inductive FOp where
 |mv (x:Opd)
 |pick (c a b:Opd)
 |bin (tag:Nat) (op:BinOp) (a b:Opd)
 |not (a:Opd)
 |fad (off:Nat) (a:Opd)
 |iad (sz:Nat) (a i:Opd)
 |ld (n:Nat) (agg:Bool) (a:Opd)
 |nck (a:Opd)
 |len (a:Opd)
 |lenx (a:Opd)
 |lens (a:Opd)
 |lensx (a:Opd)
 |lenm (a:Opd)
 |sli (sz:Nat) (a:Opd) (lo hi:Option Opd)
 |slis (a:Opd) (lo hi:Option Opd)
 |ext (a:Opd) (i:Nat)
 |fld (off n:Nat) (agg:Bool) (a:Opd)
 |idx (a i:Opd)
 |bld (zero:List C) (parts:List (Nat×Nat×Opd))
 |bsl (sz:Nat) (parts:List Opd)
 |box (a:Opd)
 |cvt (k:IntKind) (a:Opd)
 |mkf (f:Nat) (caps:List Opd)
 |lup (tag:Nat) (zero:V) (m k:Opd)
 |lup2 (tag:Nat) (zero:V) (m k:Opd)
 |iaa (sz n:Nat) (a i:Opd)
 |asl (n:Nat) (a:Opd)
 |aslp (n:Nat) (a:Opd) (hi:Option Opd)
 |slm (sz:Nat) (a hi:Opd)
 |b2s (a:Opd)
 |ldg (n b l:Nat)
 |ldo (b l:Nat)
 |aslg (n b l:Nat)
 |iax (sz n:Nat) (a i:Opd)
 |mx (a b:Opd)
 |mn (a b:Opd)
def Q0:V→Int
 |.c (.int _ n)=>n
 |_=>0
def Qsv:V→Prop
 |.c (.int k _)=>k=.i64
 |_=>False
def fadC (off:Nat):C→C
 |.pp cells=>.pp (cells.drop off)
 |.ptr l k=>.ptr l (k+off)
 |.ep s sz i k=>.ep s sz i (k+off)
 |_=>.unk
def V.c1:V→C
 |.c x=>x
 |_=>.unk
def V.isC:V→Prop
 |.c _=>True
 |_=>False
def V.isAg:V→Prop
 |.ag _=>True
 |_=>False
def sliC (lo hi:Option Int):C→C
 |.sl fl sz rows=>.sl (fl&&(hi.isNone || rows.isEmpty)) sz ((rows.take (hi.getD rows.length).toNat).drop (lo.getD 0).toNat)
 |.vsl l sz st n=>.vsl l sz (st+(lo.getD 0).toNat) ((hi.getD n).toNat-(lo.getD 0).toNat)
 |_=>.unk
def Qbcw:List C→Bool
 |[.int .u8 _]=>true
 |_=>false
def Qa7z:List C→UInt8
 |.int _ n::_=>UInt8.ofNat n.toNat
 |_=>0
def FOp.val (e:Env)(H:Heap):FOp→V
 |.mv x=>x.v e
 |.pick c a b=>match c.v e with
  |.c (.bool t)=>Qbey t (a.v e) (b.v e)
  |_=>.unk
 |.bin _ op a b=>.c (binC op (a.v e).c1 (b.v e).c1)
 |.not a=>match a.v e with
  |.c (.bool t)=>.c (.bool (!t))
  |_=>.unk
 |.fad off a=>.c (fadC off (a.v e).c1)
 |.iad sz a i=>.c (.ep (a.v e).c1 sz (Q0 (i.v e)).toNat 0)
 |.ld n agg a=>Qax8 agg ((Qnb H (a.v e).c1).take n)
 |.nck a=>a.v e
 |.len a=>.c (.int .i64 (lenC (a.v e).c1))
 |.lenx a=>.c (.int .i64 (lenX (a.v e).c1))
 |.lens a=>match a.v e with
  |.c (.str s)=>.c (.int .i64 s.length)
  |_=>.unk
 |.lensx a=>match a.v e with
  |.c (.str s)=>.c (.int .i64 s.length)
  |.c (.stb n)=>.c (.int .i64 n)
  |_=>.unk
 |.lenm a=>.c (.int .i64 (Q7 H (a.v e).c1).length)
 |.sli _ a lo hi=>.c (sliC (lo.map fun x=>Q0 (x.v e)) (hi.map fun x=>Q0 (x.v e)) (a.v e).c1)
 |.slis a lo hi=>match a.v e with
  |.c (.str s)=>.c (.str ((s.take ((hi.map fun x=>Q0 (x.v e)).getD s.length).toNat).drop ((lo.map fun x=>Q0 (x.v e)).getD 0).toNat))
  |_=>.unk
 |.ext a i=>match a.v e with
  |.tup vs=>vs.getD i .unk
  |_=>.unk
 |.fld off n agg a=>Qax8 agg (((a.v e).cells.drop off).take n)
 |.idx a i=>match a.v e with
  |.c (.str s)=>.c (.int .u8 ((s.getD (Q0 (i.v e)).toNat 0).toNat))
  |_=>.unk
 |.bld zero parts=>.ag (Q3i zero (parts.map fun p=>(p.1,(p.2.2.v e).cells)))
 |.bsl sz parts=>.c (.sl true sz (parts.map fun x=>(x.v e).cells))
 |.box a=>.c (.pp (a.v e).cells)
 |.cvt k a=>.c (.int k (Q0 (a.v e)))
 |.mkf f caps=>.c (.fn f (caps.map fun x=>(x.v e).c1))
 |.lup _ zero m k=>(Qf5 (k.v e).c1 (Q7 H (m.v e).c1)).getD zero
 |.lup2 _ zero m k=>.tup [(Qf5 (k.v e).c1 (Q7 H (m.v e).c1)).getD zero,.c (.bool (Qf5 (k.v e).c1 (Q7 H (m.v e).c1)).isSome)]
 |.iaa sz _ a i=>match a.v e with
  |.c (.ptr l k)=>.c (.ptr l (k+(Q0 (i.v e)).toNat * sz))
  |_=>.unk
 |.asl n a=>match a.v e with
  |.c (.ptr l k)=>.asl l k n
  |_=>.unk
 |.aslp n a hi=>match a.v e with
  |.c (.pp cells)=>.c (.sl hi.isNone 1 ((cells.take ((hi.map fun x=>Q0 (x.v e)).getD n).toNat).map fun c=>[c]))
  |_=>.unk
 |.slm _ a hi=>match a.v e with
  |.c (.sl _ sz rows)=>.c (.sl true sz (rows.take (Q0 (hi.v e)).toNat))
  |_=>.unk
 |.b2s a=>match a.v e with
  |.c (.sl _ _ rows)=>.c (.str (rows.map Qa7z))
  |_=>.unk
 |.ldg n _ l=>match H l with
  |.gl _ cells=>.ag (cells.take n)
  |_=>.unk
 |.ldo _ l=>match H l with
  |.gl _ cells=>.c (cells.headD .unk)
  |_=>.unk
 |.aslg n _ l=>match H l with
  |.gl _ cells=>.c (.sl true 1 ((cells.take n).map fun c=>[c]))
  |_=>.unk
 |.iax sz _ a i=>.ag (((a.v e).cells.drop ((Q0 (i.v e)).toNat * sz)).take sz)
 |.mx a b=>.c (.int .i64 (if Q0 (b.v e) > Q0 (a.v e)then Q0 (b.v e)else Q0 (a.v e)))
 |.mn a b=>.c (.int .i64 (if Q0 (b.v e)<Q0 (a.v e)then Q0 (b.v e)else Q0 (a.v e)))
def Qbdy:V→Prop
 |.c (.int _ _)=>True
 |_=>False
def optI (x:Option Opd)(e:Env):Prop:=
 match x with
 |none=>True
 |some o=>Qsv (o.v e)
def optF (p:Bool)(x:Option Opd)(e:Env):Prop:=
 match x with
 |none=>True
 |some o=>o.fine p e
def bnds (lo hi:Option Int)(n:Nat):Prop:=
 0≤lo.getD 0∧lo.getD 0≤hi.getD n∧hi.getD n≤n
def FOp.obl (p:Bool)(e:Env)(H:Heap):FOp→Prop
 |.mv x=>x.fine p e
 |.pick c a b=>c.fine p e∧match c.v e with
  |.c (.bool t)=>a.fine (p&&t) e∧b.fine (p&&!t) e
  |_=>False
 |.bin tag op a b=>a.fine p e∧b.fine p e∧(a.v e).isC∧(b.v e).isC∧binO tag op (a.v e).c1 (b.v e).c1
 |.not a=>a.fine p e∧match a.v e with
  |.c (.bool _)=>True
  |_=>False
 |.fad _ a=>a.fine p e∧match a.v e with
  |.c (.pp _)=>True
  |.c (.ptr _ _)=>True
  |.c (.ep _ _ _ _)=>True
  |_=>False
 |.iad sz a i=>a.fine p e∧i.fine p e∧(a.v e).isC∧Qy4 H (a.v e).c1∧(a.v e).c1.elemSz=sz∧Qsv (i.v e)∧
   0≤Q0 (i.v e)∧(Q0 (i.v e)).toNat<lenC (a.v e).c1
 |.ld n _ a=>a.fine p e∧(a.v e).isC∧Qa46 H (a.v e).c1∧n≤(Qnb H (a.v e).c1).length∧noOw ((Qnb H (a.v e).c1).take n)=true
 |.nck a=>a.fine p e∧match a.v e with
  |.c (.pp _)=>True
  |.c (.ptr _ _)=>True
  |.c (.ep _ _ _ _)=>True
  |.c (.fn _ _)=>True
  |_=>False
 |.len a=>a.fine p e∧(a.v e).isC∧Qy4 H (a.v e).c1
 |.lenx a=>a.fine p e∧(a.v e).isC∧(Qy4 H (a.v e).c1∨Qbh4 (a.v e).c1)
 |.lens a=>a.fine p e∧match a.v e with
  |.c (.str _)=>True
  |_=>False
 |.lensx a=>a.fine p e∧match a.v e with
  |.c (.str _)=>True
  |.c (.stb _)=>True
  |_=>False
 |.lenm a=>a.fine p e∧(a.v e).isC∧Qxv H (a.v e).c1
 |.sli sz a lo hi=>a.fine p e∧optF p lo e∧optF p hi e∧optI lo e∧optI hi e∧(a.v e).isC∧Qy4 H (a.v e).c1∧(a.v e).c1.elemSz=sz∧
   bnds (lo.map fun x=>Q0 (x.v e)) (hi.map fun x=>Q0 (x.v e)) (lenC (a.v e).c1)
 |.slis a lo hi=>a.fine p e∧optF p lo e∧optF p hi e∧optI lo e∧optI hi e∧match a.v e with
  |.c (.str s)=>bnds (lo.map fun x=>Q0 (x.v e)) (hi.map fun x=>Q0 (x.v e)) s.length
  |_=>False
 |.ext a i=>a.fine p e∧match a.v e with
  |.tup vs=>i<vs.length
  |_=>False
 |.fld off n agg a=>a.fine p e∧(a.v e).isAg∧off+n≤(a.v e).cells.length
 |.idx a i=>a.fine p e∧i.fine p e∧Qsv (i.v e)∧match a.v e with
  |.c (.str s)=>0≤Q0 (i.v e)∧(Q0 (i.v e)).toNat<s.length
  |_=>False
 |.bld zero parts=>∀x∈parts,x.2.2.fine p e∧(x.2.2.v e).cells.length=x.2.1
 |.bsl sz parts=>∀x∈parts,x.fine p e∧(x.v e).cells.length=sz
 |.box a=>a.fine p e∧(a.v e).cells≠[]
 |.cvt k a=>a.fine p e∧Qbdy (a.v e)∧inR k (Q0 (a.v e))
 |.mkf f caps=>∀x∈caps,x.fine p e∧(x.v e).isC
 |.lup tag zero m k=>m.fine p e∧k.fine p e∧(m.v e).isC∧(k.v e).isC∧Qxv H (m.v e).c1∧Qoa tag (k.v e).c1 (Q7 H (m.v e).c1)
 |.lup2 tag zero m k=>m.fine p e∧k.fine p e∧(m.v e).isC∧(k.v e).isC∧Qxv H (m.v e).c1∧Qoa tag (k.v e).c1 (Q7 H (m.v e).c1)
 |.iaa _ n a i=>a.fine p e∧i.fine p e∧Qsv (i.v e)∧0≤Q0 (i.v e)∧Q0 (i.v e)<n∧match a.v e with
  |.c (.ptr _ _)=>True
  |_=>False
 |.asl _ a=>a.fine p e∧match a.v e with
  |.c (.ptr l _)=>(match H l with
   |.st _=>True
   |_=>False)
  |_=>False
 |.aslp n a hi=>a.fine p e∧optF p hi e∧optI hi e∧bnds none (hi.map fun x=>Q0 (x.v e)) n∧n≤LIM∧match a.v e with
  |.c (.pp cells)=>n≤cells.length
  |_=>False
 |.slm sz a hi=>a.fine p e∧hi.fine p e∧Qsv (hi.v e)∧0≤Q0 (hi.v e)∧match a.v e with
  |.c (.sl _ z rows)=>z=sz∧Q0 (hi.v e)≤rows.length
  |_=>False
 |.b2s a=>a.fine p e∧match a.v e with
  |.c (.sl _ z rows)=>z=1∧rows.all Qbcw=true
  |_=>False
 |.ldg n b l=>match H l with
  |.gl b' cells=>b'=b∧n≤cells.length
  |_=>False
 |.ldo b l=>match H l with
  |.gl b' cells=>b'=b∧0<cells.length
  |_=>False
 |.aslg n b l=>match H l with
  |.gl b' cells=>b'=b∧n≤cells.length∧n≤LIM
  |_=>False
 |.iax sz n a i=>a.fine p e∧i.fine p e∧Qsv (i.v e)∧0≤Q0 (i.v e)∧Q0 (i.v e)<n∧(a.v e).isAg∧n * sz≤(a.v e).cells.length
 |.mx a b=>a.fine p e∧b.fine p e∧Qsv (a.v e)∧Qsv (b.v e)
 |.mn a b=>a.fine p e∧b.fine p e∧Qsv (a.v e)∧Qsv (b.v e)
def FOp.fct (e:Env)(H:Heap):FOp→Prop
 |.len a=>lenC (a.v e).c1≤LIM
 |.lenx a=>lenX (a.v e).c1<2 ^ 63
 |.lens a=>match a.v e with
  |.c (.str s)=>s.length≤LIM
  |_=>True
 |.lensx a=>match a.v e with
  |.c (.str s)=>s.length≤LIM
  |.c (.stb n)=>n<2 ^ 63
  |_=>True
 |.lenm a=>(Q7 H (a.v e).c1).length≤LIM
 |_=>True
def fnOk (P:Program)(f:FuncId):Bool:=
 match P.funcs[f]? with
 | some fn => fn.body.isSome && fn.name != "runtime.NumGoroutine"
 |none=>false
def Ql (P:Program)(f:FuncId)(args:List V)(H:Heap)(K:V→Heap→Prop):Prop:=
 fnOk P f=true∧∀(g:G) (w:World) (vs:List Value),Sat H g w→vs.length=args.length→
  (∀(j:Nat) (x:V) (u:Value),args[j]? = some x→vs[j]? = some u→RepV w g x u)→
  Calls P f vs.toArray w fun e w'=>(∃v x H' g',e=.returned v∧K x H'∧Stp H g w H' g' w'∧RepV w' g' x v)∨
   (∃v H' g',e=.panicked [{ v:=v,recovered:=false }]∧K (.pn v) H'∧Stp H g w H' g' w')
def Qbcr (P:Program)(f:FuncId)(args:List V)(r:V):Prop:=(∀v,r≠.pn v)∧∀H K,K r H→Ql P f args H K
inductive EOp where
 |alloc (cells:List C)
 |boxm (a:Opd)
 |sto (n:Nat) (a v:Opd)
 |app (sz:Nat) (a b:Opd)
 |apz (sz:Nat) (zr:List C) (a n:Opd)
 |mks (sz:Nat) (zero:List C) (n:Opd)
 |mkm
 |upd (tag:Nat) (m k v:Opd)
 |del (tag:Nat) (m k:Opd)
 |clrm (m:Opd)
 |clrs (sz:Nat) (zero:List C) (m:Opd)
 |call (f:Nat) (args:List Opd)
 |callv (f:Opd) (args:List Opd)
 |rng (m:Opd)
 |nxt (it:Opd)
 |ent (it:Opd)
 |nilq (a:Opd)
 |rngs (a:Opd)
 |nxts (it:Opd)
 |bslm (sz:Nat) (parts:List Opd)
 |cpy (sz:Nat) (a b:Opd)
def Qzx (row:List C)(k:Nat)(vs:List C):List C:=row.take k++vs++row.drop (k+vs.length)
def Qajg (H:Heap)(p:C)(vs:List C)(K:V→Heap→Prop):Prop:=
 match p with
 |.ptr l k=>match H l with
  |.st cells=>k+vs.length≤cells.length∧K .unk (H.set l (.st (Qzx cells k vs)))
  |_=>False
 |.ep (.vsl l sz st n) z i k=>match H l with
  |.vec y rows=>y=sz∧z=sz∧i<n∧st+n≤rows.length∧k+vs.length≤sz∧
    K .unk (H.set l (.vec sz (rows.set (st+i) (Qzx (rows.getD (st+i) []) k vs))))
  |_=>False
 |_=>False
def appT (H:Heap)(sz:Nat)(a b:C)(K:V→Heap→Prop):Prop:=
 Qy4 H b∧b.elemSz=sz∧match a with
 |.sl true z rows=>z=sz∧(rows=[]∨Q9 H b≠[])∧(∀r∈rows++Q9 H b,noOw r=true)∧rows.length+lenC b≤LIM∧
   ∀l,H l=.none→K (.c (.vsl l sz 0 (rows.length+lenC b))) (H.set l (.vec sz (rows++Q9 H b)))
 |.vsl l z st n=>match H l with
  |.vec y rows=>z=sz∧y=sz∧st+n≤rows.length∧(∀r∈Q9 H b,noOw r=true)∧n+lenC b≤LIM∧
    ∀l',(H.set l .none) l'=.none→
     K (.c (.vsl l' sz 0 (n+lenC b))) ((H.set l .none).set l' (.vec sz ((rows.drop st).take n++Q9 H b)))
  |_=>False
 |_=>False
def updE (k:C)(v:V):List (C×V)→List (C×V)
 |[]=>[(k,v)]
 |e::es=>if Qgs k e.1 then (k,v)::es else e::updE k v es
def delE (k:C):List (C×V)→List (C×V)
 |[]=>[]
 |e::es=>if Qgs k e.1 then es else e::delE k es
def updT (H:Heap)(tag:Nat)(m k:C)(v:V)(K:V→Heap→Prop):Prop:=
 match m with
 |.mp l=>match H l with
  |.map n es=>Qoa tag k es∧es.length+1≤LIM∧K .unk (H.set l (.map (n+1) (updE k v es)))
  |_=>False
 |_=>False
def delT (H:Heap)(tag:Nat)(m k:C)(K:V→Heap→Prop):Prop:=
 match m with
 |.mp l=>match H l with
  |.map n es=>Qoa tag k es∧K .unk (H.set l (.map (n+1) (delE k es)))
  |_=>False
 |.mnil=>Qoa tag k []∧K .unk H
 |_=>False
def cpyT (H:Heap)(sz:Nat)(a b:C)(K:V→Heap→Prop):Prop:=
 Qy4 H b∧b.elemSz=sz∧match a with
 |.vsl l z st n=>match H l with
  |.vec y rows=>z=sz∧y=sz∧st+n≤rows.length∧lenC b≤n∧(∀r∈Q9 H b,noOw r=true)∧
    K (.c (.int .i64 (lenC b))) (H.set l (.vec sz (rows.take st++Q9 H b++rows.drop (st+lenC b))))
  |_=>False
 |_=>False
def EOp.eff (P:Program)(p:Bool)(e:Env)(H:Heap)(K:V→Heap→Prop):EOp→Prop
 |.alloc cells=>∀l,H l=.none→K (.c (.ptr l 0)) (H.set l (.st cells))
 |.boxm a=>a.fine p e∧(a.v e).cells≠[]∧∀l,H l=.none→K (.c (.ptr l 0)) (H.set l (.st (a.v e).cells))
 |.sto n a v=>a.fine p e∧v.fine p e∧(a.v e).isC∧(v.v e).cells.length=n∧0<n∧Qajg H (a.v e).c1 (v.v e).cells K
 |.app sz a b=>a.fine p e∧b.fine p e∧(a.v e).isC∧(b.v e).isC∧appT H sz (a.v e).c1 (b.v e).c1 K
 |.apz sz zr a n=>a.fine p e∧n.fine p e∧(a.v e).isC∧Qsv (n.v e)∧0≤Q0 (n.v e)∧Q0 (n.v e)≤LIM∧appT H sz (a.v e).c1 (.sl false sz (List.replicate (Q0 (n.v e)).toNat zr)) K
 |.mks sz zero n=>n.fine p e∧Qsv (n.v e)∧0≤Q0 (n.v e)∧Q0 (n.v e)≤LIM∧
   ∀l,H l=.none→K (.c (.vsl l sz 0 (Q0 (n.v e)).toNat)) (H.set l (.vec sz (List.replicate (Q0 (n.v e)).toNat zero)))
 |.mkm=>∀l,H l=.none→K (.c (.mp l)) (H.set l (.map 0 []))
 |.upd tag m k v=>m.fine p e∧k.fine p e∧v.fine p e∧(m.v e).isC∧(k.v e).isC∧(v.v e).cells≠[]∧updT H tag (m.v e).c1 (k.v e).c1 (v.v e) K
 |.del tag m k=>m.fine p e∧k.fine p e∧(m.v e).isC∧(k.v e).isC∧delT H tag (m.v e).c1 (k.v e).c1 K
 |.clrm m=>m.fine p e∧match m.v e with
  |.c (.mp l)=>match H l with
   |.map n _=>K .unk (H.set l (.map (n+1) []))
   |_=>False
  |_=>False
 |.clrs sz zero m=>m.fine p e∧match m.v e with
  |.c (.vsl l z st n)=>z=sz∧match H l with
   |.vec y rows=>y=sz∧st+n≤rows.length∧K .unk (H.set l (.vec sz (rows.take st++List.replicate n zero++rows.drop (st+n))))
   |_=>False
  |_=>False
 |.call f args=>(∀x∈args,x.fine p e)∧Ql P f (args.map fun x=>x.v e) H K
 |.callv f args=>f.fine p e∧(∀x∈args,x.fine p e)∧match f.v e with
  |.c (.fn n caps)=>Ql P n ((args.map fun x=>x.v e)++caps.map .c) H K
  |_=>False
 |.rng m=>m.fine p e∧match m.v e with
  |.c (.mp l)=>match H l with
   |.map n es=>es.Nodup∧∀i,H i=.none→K (.c (.itr i)) (H.set i (.iter (some (l,n)) es none))
   |_=>False
  |.c .mnil=>∀i,H i=.none→K (.c (.itr i)) (H.set i (.iter none [] none))
  |_=>False
 |.nxt it=>it.fine p e∧match it.v e with
  |.c (.itr i)=>match H i with
   |.iter none left _=>K (.tup [.c (.bool false)]) H
   |.iter (some (l,n)) left cur=>(∃es,H l=.map n es)∧(left=[]→K (.tup [.c (.bool false)]) H)∧
     ∀x left',x∈left→(∀y,y∈left'↔y∈left∧y≠x)→left'.Nodup→left'.length+1=left.length→
      K (.tup [.c (.bool true),.c x.1,x.2]) (H.set i (.iter (some (l,n)) left' (some x)))
   |_=>False
  |_=>False
 |.ent it=>it.fine p e∧match it.v e with
  |.c (.itr i)=>match H i with
   |.iter (some (l,n)) left (some x)=>(∃es,H l=.map n es)∧K (.tup [.c x.1,x.2]) H
   |_=>False
  |_=>False
 |.rngs a=>a.fine p e∧match a.v e with
  |.c (.str s)=>∀i,H i=.none→K (.c (.itr i)) (H.set i (.sit s 0))
  |_=>False
 |.nxts it=>it.fine p e∧match it.v e with
  |.c (.itr i)=>match H i with
   |.sit s q=>(s.length≤q→K (.tup [.c (.bool false)]) H)∧
     ∀(c:Int) (wd:Nat),q<s.length→1≤wd→((s.getD q 0).toNat<128→c=((s.getD q 0).toNat:Int)∧wd=1)→(128≤(s.getD q 0).toNat→128≤c)→
      K (.tup [.c (.bool true),.c (.int .i64 q),.c (.int .i32 c)]) (H.set i (.sit s (q+wd)))
   |_=>False
  |_=>False
 |.nilq a=>a.fine p e∧match a.v e with
  |.c (.sl _ _ rows)=>∀b:Bool,(b=true→rows=[])→K (.c (.bool b)) H
  |_=>False
 |.cpy sz a b=>a.fine p e∧b.fine p e∧(a.v e).isC∧(b.v e).isC∧cpyT H sz (a.v e).c1 (b.v e).c1 K
 |.bslm sz parts=>(∀x∈parts,x.fine p e∧(x.v e).cells.length=sz)∧∀l,H l=.none→K (.c (.vsl l sz 0 parts.length)) (H.set l (.vec sz (parts.map fun x=>(x.v e).cells)))
inductive Item where
 |f (dst:Option Nat) (g:Option (Nat×Bool)) (op:FOp)
 |p (dst:Option Nat) (g:Option (Nat×Bool)) (f:Nat) (args:List Opd)
 |e (dst:Option Nat) (g:Option (Nat×Bool)) (op:EOp)
 |chk (dst:Nat) (g:Option (Nat×Bool)) (op:FOp)
def putE (d:Option Nat)(v:V)(e:Env):Env:=
 match d with
 |some t=>(t,v)::e
 |none=>e
def gdB (e:Env):Option (Nat×Bool)→Bool
 |none=>true
 |some (t,w)=>match lk t e with
  |.c (.bool b)=>b == w
  |.gd q (.c (.bool b))=>q&&(b == w)
  |_=>false
def gdO (e:Env):Option (Nat×Bool)→Prop
 |none=>True
 |some (t,_)=>match lk t e with
  |.c (.bool _)=>True
  |.gd _ (.c (.bool _))=>True
  |.gd q _=>q=false
  |_=>False
def gdV (g:Option (Nat×Bool))(p:Bool)(v:V):V:=
 match g with
 |none=>v
 |some _=>.gd p v
def Qaw4 (KP:Value→Heap→Prop)(K:V→Heap→Prop):V→Heap→Prop
 |.pn v,H=>KP v H
 |v,H=>K v H
def regT (P:Program):List Item→Env→Heap→(Value→Heap→Prop)→(Env→Heap→Prop)→Prop
 |[],e,H,KP,K=>K e H
 |.f d g op::r,e,H,KP,K=>gdO e g∧(gdB e g=true→op.obl (gdB e g) e H)∧
   ((gdB e g=true→op.fct e H)→regT P r (putE d (gdV g (gdB e g) (op.val e H)) e) H KP K)
 |.p d g f args::r,e,H,KP,K=>gdO e g∧∃v,(gdB e g=true→(∀x∈args,x.fine (gdB e g) e)∧Qbcr P f (args.map fun x=>x.v e) v)∧
   regT P r (putE d (gdV g (gdB e g) v) e) H KP K
 |.e d g op::r,e,H,KP,K=>gdO e g∧
   (gdB e g=true→op.eff P (gdB e g) e H (Qaw4 KP fun v H'=>regT P r (putE d v e) H' KP K))∧
   (gdB e g=false→regT P r (putE d .unk e) H KP K)
 |.chk _ _ _::_,_,_,_,_=>False
def Qsu (P:Program):List Item→Env→Heap→(Value→Heap→Prop)→(Env→Heap→Prop)→Prop
 |[],e,H,KP,K=>K e H
 |.f d g op::r,e,H,KP,K=>gdO e g∧(gdB e g=true→op.obl (gdB e g) e H)∧Qsu P r (putE d (gdV g (gdB e g) (op.val e H)) e) H KP K
 |.p d g f args::r,e,H,KP,K=>gdO e g∧∃v,(gdB e g=true→(∀x∈args,x.fine (gdB e g) e)∧Qbcr P f (args.map fun x=>x.v e) v)∧
   Qsu P r (putE d (gdV g (gdB e g) v) e) H KP K
 |.e d g op::r,e,H,KP,K=>gdO e g∧
   (gdB e g=true→op.eff P (gdB e g) e H (Qaw4 KP fun v H'=>Qsu P r (putE d v e) H' KP K))∧
   (gdB e g=false→Qsu P r (putE d .unk e) H KP K)
 |.chk d g op::r,e,H,KP,K=>(gdO e g∧(gdB e g=true→op.obl (gdB e g) e H)∧lk d e=gdV g (gdB e g) (op.val e H))∧Qsu P r e H KP K
def trim (ks:List Nat)(e:Env):Env:=ks.map fun t=>(t,lk t e)
def Qbgq (e:Env)(H:Heap)(e':Env)(H':Heap):Prop:=
 ∀(g:G) (w:World) (tmps:Nat→Value),Sat H g w→(∀t,RepV w g (lk t e) (tmps t))→
  ∃g',Stp H g w H' g' w∧∀t,RepV w g' (lk t e') (tmps t)
inductive SC where
 |skip
 |reg (its:List Item) (keep:List Nat)
 |dreg (fa:Nat) (ord:List Nat) (its:List Item) (keep:List Nat)
 |seq (a b:SC)
 |cond (t:Opd) (a b:SC)
 |block (id:Nat) (a:SC)
 |loop (a:SC)
 |exit (id:Nat)
 |ret
 |gh
 |scope (a:SC)
inductive X where
 |nrm
 |exit (id:Nat)
 |ret
 |pan (v:Value)
def X.panK (Q:X→Env→Heap→Prop)(v:Value)(H:Heap):Prop:=Q (.pan v) [] H
def X.next (K:Env→Heap→Prop)(Q:X→Env→Heap→Prop):X→Env→Heap→Prop
 |.nrm,e,H=>K e H
 |x,e,H=>Q x e H
def X.inBlock (id:Nat)(Q:X→Env→Heap→Prop):X→Env→Heap→Prop
 |.exit i,e,H=>if i=id then Q .nrm e H else Q (.exit i) e H
 |x,e,H=>Q x e H
def Qae (P:Program):SC→(X→Env→Heap→Prop)→Env→Heap→Prop
 |.skip,Q,e,H=>Q .nrm e H
 |.reg its keep,Q,e,H=>regT P its e H (X.panK Q) fun e' H'=>Q .nrm (trim keep e') H'
 |.dreg _ _ its keep,Q,e,H=>Qsu P its e H (X.panK Q) fun e' H'=>Q .nrm (trim keep e') H'
 |.seq a b,Q,e,H=>Qae P a (X.next (Qae P b Q) Q) e H
 |.cond t a b,Q,e,H=>∃c,t.raw e=.c (.bool c)∧(c=true→Qae P a Q e H)∧(c=false→Qae P b Q e H)
 |.block id a,Q,e,H=>Qae P a (X.inBlock id Q) e H
 |.loop a,Q,e,H=>∃(I:Nat→Env→Heap→Prop),(∃n,I n e H)∧
   ∀n e1 H1,I n e1 H1→Qae P a (X.next (fun e2 H2=>∃m,m<n∧I m e2 H2) Q) e1 H1
 |.exit id,Q,e,H=>Q (.exit id) e H
 |.ret,Q,e,H=>Q .ret e H
 |.gh,Q,e,H=>∃e' H',Qbgq e H e' H'∧Q .nrm e' H'
 |.scope a,Q,e,H=>Qae P a Q e H
inductive RS where
 |tmp (t:Nat)
 |cell (t n:Nat) (agg:Bool)
def RS.op:RS→FOp
 |.tmp t=>.mv (.t t)
 |.cell t n agg=>.ld n agg (.t t)
def Qz (rs:List RS)(e:Env)(H:Heap)(K:V→Heap→Prop):Prop:=
 (∀r∈rs,r.op.obl true e H)∧K (match rs with
  |[r]=>r.op.val e H
  |_=>.tup (rs.map fun r=>r.op.val e H)) H
def zipE (i:Nat):List V→Env
 |[]=>[]
 |v::r=>(i,v)::zipE (i+1) r
end Go.AE

namespace Go.AE
variable {P:Program}
theorem Qij {t:TypeId}{i:TypeInfo}(h:P.info? t=some i)(w:World):(typeInfo t).run P w=.ok i w:=by
 simp[typeInfo,h]
theorem Qat {t:TypeId}{i:TypeInfo}(h:P.info? t=some i)(w:World):(sizeOf t).run P w=.ok i.size w:=by
 simp[sizeOf,Qij h]
theorem Qx {t:TypeId}{d:TypeDesc}(h:P.underlying t=some d)(w:World):(underlying t).run P w=.ok d w:=by
 simp[underlying,h]
theorem Qasy {t:TypeId}{i:TypeInfo}(h:P.info? t=some i):P.cellsOf t=i.size:=by simp[Program.cellsOf,h]
def Qmk:TypeDesc→Bool
 |.struct _|.array _ _=>true
 |_=>false
theorem Qap5 {t:TypeId}{d:TypeDesc}(h:P.underlying t=some d)(w:World):(isAgg t).run P w=.ok (Qmk d) w:=by
 cases d <;> simp[isAgg,Qx h,Qmk]
theorem Qba (b o j:Nat):(⟨b,o,none⟩:Addr).add j=⟨b,o+j,none⟩:=by
 unfold Addr.add;split
 ·subst_vars;rfl
 ·rfl
theorem Qaft {t:TypeId}{d:TypeDesc}{i:TypeInfo}(hd:P.underlying t=some d)(hi:P.info? t=some i)(w:World)(b o n:Nat)(f:Nat→Value)
  (hn:Qmk d=true→i.size=n) (h1:Qmk d=false→n=1) (hc:∀j,j<n→w.cell? ⟨b,o+j,none⟩=some (f j)) :
  (loadVar t ⟨b,o,none⟩).run P w=.ok (if Qmk d then .agg ((List.range n).map f).toArray else f 0) w:=by
 unfold loadVar
 simp only[Sem.run_bind,Qap5 hd,Result.andThen_ok]
 cases ha:Qmk d with
 |true=>
  simp only[Sem.run_bind,Qat hi,Result.andThen_ok,if_true,hn ha]
  rw[run_loadCells w _ n f (fun j hj=>by rw[Qba];exact hc j hj)]
  simp
 |false=>
  have h0:=hc 0 (by have:=h1 ha;omega)
  simp only[Nat.add_zero]at h0
  simp[h0]
def getV (w:World)(b o:Nat)(j:Nat):Value:=(w.cell? ⟨b,o+j,none⟩).getD undef
theorem RepC.noOw {w:World}{g:G}{c:C}{v:Value}(h:RepC w g c v):c.isOw=false:=by cases h <;> rfl
theorem Qdy {w:World}{b o:Nat}{cs:Array Value}{T:TypeId}(h:w.heap[b]? = some (.cells cs T (0,0))):w.cell? ⟨b,o,none⟩=cs[o]?:=by
 simp[World.cell?,h]
theorem RepO.toC {w:World}{g:G}{l:Nat}{p:List Nat}{c:C}{v:Value}(h:RepO w g l p c v)(hn:c.isOw=false):RepC w g c v:=
 h.plain_of (fun sz rows e=>by subst e;simp[C.isOw]at hn)
theorem Qq5 {H:Heap}{g:G}{w:World}(hs:Sat H g w){s:C}{v:Value}(h:RepC w g s v)(ho:Qy4 H s) :
  ∃a cap,v=.slice a (lenC s) cap∧lenC s≤LIM∧(Q9 H s).length=lenC s∧
   (∀(i:Nat) (row:List C),(Q9 H s)[i]? = some row→row.length=s.elemSz)∧
   (lenC s≠0→∃b off,a=some ⟨b,off,none⟩∧∀(i:Nat) (row:List C) (j:Nat) (c:C),(Q9 H s)[i]? = some row→row[j]? = some c→c.isOw=false→
    ∃u,w.cell? ⟨b,off+i * s.elemSz+j,none⟩=some u∧RepC w g c u):=by
 cases h with
 |slnil fl sz a=>exact⟨a,0,rfl,by simp[lenC,LIM],rfl,by simp[Q9],by simp[lenC]⟩
 |sl fl sz rows b off cap val hl hf hcap hp hr hc hv=>
  refine⟨some ⟨b,off,none⟩,cap,rfl,hl,rfl,hr,fun _=>⟨b,off,rfl,fun i row j c h1 h2 _=>⟨_,hc i row j c h1 h2,hv i row j c h1 h2⟩⟩⟩
 |vslnil l sz st a=>
  simp only[Qy4]at ho
  refine⟨a,0,rfl,by simp[lenC,LIM],?_,?_,by simp[lenC]⟩
  ·simp only[Q9,lenC];split <;> simp
  ·intro i row h1;simp only[Q9]at h1;split at h1 <;> simp at h1
 |vsl l sz st n cap b base T m hio hn hsh hm=>
  simp only[Qy4]at ho
  split at ho
  ·rename_i z rows hH
   obtain⟨rfl,hst⟩:=ho
   have hob:=hs.objs l
   rw[hH]at hob
   obtain⟨b',base',T',cs,val,h1,h2,h3,h4,h5,h6,h7,h8⟩:=SatVec.of hob hio
   rw[hio]at h1
   simp only[Option.some.injEq,Prod.mk.injEq,true_and]at h1
   obtain⟨rfl,rfl⟩:=h1
   have hrow:∀i row,(Q9 H (.vsl l z st n))[i]? = some row→i<n∧rows[st+i]? = some row:=by
    intro i row hi
    simp only[Q9,hH,List.getElem?_take,List.getElem?_drop]at hi
    split at hi
    ·rename_i hlt;exact⟨hlt,hi⟩
    ·simp at hi
   refine⟨_,cap,rfl,by simp only[lenC];omega,?_,?_,fun _=>⟨b,base+st * z,rfl,?_⟩⟩
   ·simp only[Q9,hH,lenC,List.length_take,List.length_drop];omega
   ·intro i row hi;exact h6 _ _ (hrow i row hi).2
   ·intro i row j c hi hj ho
    obtain⟨hi1,hi2⟩:=hrow i row hi
    have e1:=h7 _ _ _ _ hi2 hj
    refine⟨val (st+i) j,?_,(h8 _ _ _ _ hi2 hj).toC ho⟩
    rw[Qdy h3,←e1]
    simp only[C.elemSz]
    congr 1
    rw[Nat.add_mul]
    omega
  ·exact ho.elim
 |_=>simp[Qy4]at ho
theorem Qanm {H:Heap}{g:G}{w:World}(hs:Sat H g w){x:C}{v:Value}(h:RepC w g x v)(ho:Qa46 H x) :
  ∃b o,v=.pointer (some ⟨b,o,none⟩)∧∀(j:Nat) (c:C),(Qnb H x)[j]? = some c→c.isOw=false→∃u,w.cell? ⟨b,o+j,none⟩=some u∧RepC w g c u:=by
 cases h with
 |pp cells b off val hp hc hv=>exact⟨b,off,rfl,fun j c h1 _=>⟨_,hc j c h1,hv j c h1⟩⟩
 |ptr l k b sz base hio=>
  simp only[Qa46]at ho
  split at ho
  ·rename_i cells hH
   have hob:=hs.objs l
   rw[hH]at hob
   obtain⟨b',sz',T,cs,h1,h2,h3,h4,h5⟩:=hob
   rw[hio]at h1
   simp only[Option.some.injEq,Prod.mk.injEq]at h1
   obtain⟨rfl,rfl,rfl⟩:=h1
   refine⟨b,0+k,rfl,fun j c hj hw=>?_⟩
   simp only[Qnb,hH,List.getElem?_drop]at hj
   have hlt:k+j<cs.size:=by
    rw[h4]
    rcases Nat.lt_or_ge (k+j) cells.length with h|h
    ·exact h
    ·rw[List.getElem?_eq_none h]at hj;simp at hj
   have hv:cs[k+j]? = some cs[k+j]:=Array.getElem?_eq_getElem hlt
   exact⟨cs[k+j],by rw[Qdy h3,show 0+k+j=k+j by omega];exact hv,(h5 _ _ _ hj hv).toC hw⟩
  ·exact ho.elim
 |ep s sz i k b off n cap hsl hz hi=>
  simp only[Qa46]at ho
  obtain⟨ho1,ho2,ho3⟩:=ho
  obtain⟨a,cap',hv,h1,h2,h3,h4⟩:=Qq5 hs hsl ho1
  simp only[Value.slice.injEq]at hv
  obtain⟨rfl,rfl,rfl⟩:=hv
  obtain⟨b',off',hb,h5⟩:=h4 (by omega)
  simp only[Option.some.injEq,Addr.mk.injEq,and_true]at hb
  obtain⟨rfl,rfl⟩:=hb
  refine⟨b,off+i * sz+k,rfl,fun j c hj hw=>?_⟩
  simp only[Qnb,List.getElem?_drop]at hj
  have hrow:(Q9 H s)[i]? = some ((Q9 H s).getD i []):=by
   rw[List.getD_eq_getElem?_getD,List.getElem?_eq_getElem (by omega)];rfl
  obtain⟨u,e1,e2⟩:=h5 i _ (k+j) c hrow hj hw
  refine⟨u,?_,e2⟩
  rw[hz]at e1
  rw[←e1]
  congr 2
  omega
 |_=>simp[Qa46]at ho
def mK:V→Value→Bool
 |.c (.int k n),.int k' n'=>k == k'&&n == n'
 |.c (.bool b),.bool b'=>b == b'
 |.c (.str s),.string b=>decide (s=b.data.toList)&&decide (s.length≤1000000)
 |.c (.sl _ _ []),.slice none 0 0=>true
 |.c .pnil,.pointer none=>true
 |.c .mnil,.map none=>true
 |.c .fnil,.nilFunc=>true
 |_,_=>false
def mO:Opd→Operand→Bool
 |.t n,.tmp m=>n == m
 |.k v,.const c=>mK v c
 |.k (.c (.fn f [])),.func f'=>f == f'
 |_,_=>false
theorem Qbj1 {w:World}{g:G}{v:V}{u:Value}(h:mK v u=true):RepV w g v u:=by
 unfold mK at h
 split at h
 ·simp at h;obtain⟨rfl,rfl⟩:=h;exact .c _ _ (.int _ _)
 ·simp at h;subst h;exact .c _ _ (.bool _)
 ·rename_i s b
  simp only[Bool.and_eq_true,decide_eq_true_eq]at h
  obtain⟨rfl,h2⟩:=h
  have hb:b=⟨b.data.toList.toArray⟩:=by cases b;rfl
  have:=RepC.str (w:=w) (g:=g) b.data.toList (by unfold LIM;omega)
  rw[←hb]at this
  exact .c _ _ this
 ·exact .c _ _ (.slnil _ _ _)
 ·exact .c _ _ .pnil
 ·exact .c _ _ .mnil
 ·exact .c _ _ .fnil
 ·simp at h
theorem Qbgk {w:World}{g:G}{e:Env}{a:Act}(he:∀t,RepV w g (lk t e) (a.tmps.getD t undef)){x:Opd}{y:Operand}(h:mO x y=true) :
  RepV w g (x.raw e) (a.eval y):=by
 unfold mO at h
 split at h
 ·simp at h;subst h;exact he _
 ·exact Qbj1 h
 ·simp at h;subst h
  exact .c _ _ (.fn _ [] [] rfl (by intro j c u h1;simp at h1))
 ·simp at h
theorem Qaa {w:World}{g:G}{e:Env}{a:Act}(he:∀t,RepV w g (lk t e) (a.tmps.getD t undef)){x:Opd}{y:Operand}(h:mO x y=true)
  {p:Bool} (hp:p=true) (hf:x.fine p e):RepV w g (x.v e) (a.eval y):=by
 have hr:=Qbgk he h
 unfold Opd.v Opd.fine at *
 cases hx:x.raw e with
 |gd q v=>
  rw[hx]at hr hf
  simp only[V.fine]at hf
  cases hr with
  |gd _ _ _ hv _=>exact hv (hf hp)
 |_=>rw[hx]at hr;exact hr
theorem RepV.c_inv {w:World}{g:G}{x:C}{v:Value}(h:RepV w g (.c x) v):RepC w g x v:=by cases h;assumption
theorem RepC.int_inv {w:World}{g:G}{k:IntKind}{n:Int}{v:Value}(h:RepC w g (.int k n) v):v=.int k n:=by cases h;rfl
theorem RepC.bool_inv {w:World}{g:G}{b:Bool}{v:Value}(h:RepC w g (.bool b) v):v=.bool b:=by cases h;rfl
theorem RepC.str_inv {w:World}{g:G}{s:List UInt8}{v:Value}(h:RepC w g (.str s) v):v=.string ⟨s.toArray⟩∧s.length≤LIM:=by cases h;exact⟨rfl,by assumption⟩
theorem RepC.pnil_inv {w:World}{g:G}{v:Value}(h:RepC w g .pnil v):v=.pointer none:=by cases h;rfl
theorem RepC.ptr_inv {w:World}{g:G}{x:C}{v:Value}(h:RepC w g x v)(hx:x.isPtr=true):∃b o,v=.pointer (some ⟨b,o,none⟩):=by
 cases h <;> simp[C.isPtr]at hx <;> exact⟨_,_,rfl⟩
theorem RepC.fn_inv {w:World}{g:G}{f:Nat}{caps:List C}{v:Value}(h:RepC w g (.fn f caps) v) :
  ∃vs:List Value,v=.func (.func f) #[] vs.toArray∧vs.length=caps.length∧∀(j:Nat) (c:C) (u:Value),caps[j]? = some c→vs[j]? = some u→RepC w g c u:=by
 cases h with
 |fn f caps vs hl hv=>exact⟨vs,rfl,hl,hv⟩
theorem RepV.tup_inv {w:World}{g:G}{xs:List V}{v:Value}(h:RepV w g (.tup xs) v) :
  ∃vs:List Value,v=.tuple vs.toArray∧vs.length=xs.length∧∀(j:Nat) (x:V) (u:Value),xs[j]? = some x→vs[j]? = some u→RepV w g x u:=by
 cases h with
 |tup xs vs hl hv=>exact⟨vs,rfl,hl,hv⟩
theorem RepV.ag_inv {w:World}{g:G}{cs:List C}{v:Value}(h:RepV w g (.ag cs) v) :
  ∃vs:List Value,v=.agg vs.toArray∧vs.length=cs.length∧∀(j:Nat) (x:C) (u:Value),cs[j]? = some x→vs[j]? = some u→RepC w g x u:=by
 cases h with
 |ag cs vs hl hv=>exact⟨vs,rfl,hl,hv⟩
theorem Qdd {v:V}(h:v.isC):v=.c v.c1:=by cases v <;> simp_all[V.isC,V.c1]
end Go.AE

namespace Go.AE
variable {P:Program}{H:Heap}{g:G}{w:World}{e:Env}{a:Act}{o:Oper}{p:Bool}
def FOk (P:Program)(H:Heap)(g:G)(w:World)(e:Env)(a:Act)(o:Oper)(op:FOp):Prop:=
 ∃v w' g',(execOp a.eval o).run P w=.ok (.value v) w'∧Stp H g w H g' w'∧RepV w' g' (op.val e H) v∧op.fct e H
abbrev EnvOk (w:World)(g:G)(e:Env)(a:Act):Prop:=∀t,RepV w g (lk t e) (a.tmps.getD t undef)
theorem FOk.mk' {op:FOp}(hs:Sat H g w){v:Value}(h1:(execOp a.eval o).run P w=.ok (.value v) w)(h2:RepV w g (op.val e H) v)(h3:op.fct e H) :
  FOk P H g w e a o op:=⟨v,w,g,h1,.refl hs,h2,h3⟩
def mTag (P:Program)(tag:Nat)(t:TypeId):Bool:=
 match tag with
 |1=>(match P.underlying t with|some .bool=>true|_=>false)
 |2=>(match P.underlying t with|some (.pointer _)=>true|_=>false)
 |_=>true
theorem s_mv {x:Opd}{y:Operand}(hm:o.op=.move y∨o.op=.assign y)(hx:mO x y=true)(hs:Sat H g w)(he:EnvOk w g e a)(hp:p=true)
  (ho:(FOp.mv x).obl p e H):FOk P H g w e a o (.mv x):=by
 refine .mk' hs (v:=a.eval y) ?_ (Qaa he hx hp ho) trivial
 rcases hm with hm|hm <;> simp[execOp,hm]
theorem Qbkk {c x y:Opd}{c' x' y':Operand}(hm:o.op=.pick c' x' y')(hc:mO c c'=true)(hx:mO x x'=true)(hy:mO y y'=true)
  (hs:Sat H g w) (he:EnvOk w g e a) (hp:p=true) (ho:(FOp.pick c x y).obl p e H):FOk P H g w e a o (.pick c x y):=by
 simp only[FOp.obl]at ho
 obtain⟨h1,h2⟩:=ho
 have hr:=Qaa he hc hp h1
 cases hv:c.v e with
 |c z=>
  cases z with
  |bool t=>
   rw[hv]at hr h2
   simp only at h2
   have hb:a.eval c'=.bool t:=hr.c_inv.bool_inv
   refine .mk' hs (v:=if t then a.eval x' else a.eval y') (by simp[execOp,hm,hb,asBool]) ?_ trivial
   simp only[FOp.val,hv]
   have gen:∀(u v:V) (s r:Value),(t=true→RepV w g u s)→(t=false→RepV w g v r)→RepV w g (Qbey t u v) (if t then s else r):=by
    intro u v s r hu hv
    unfold Qbey
    split
    ·cases t
     ·simpa using hv rfl
     ·simpa using hu rfl
    ·cases t
     ·simpa using hv rfl
     ·simpa using hu rfl
   refine gen _ _ _ _ (fun ht=>?_) (fun ht=>?_)
   ·exact Qaa he hx (p:=p&&t) (by simp[hp,ht]) h2.1
   ·exact Qaa he hy (p:=p&&!t) (by simp[hp,ht]) h2.2
  |_=>rw[hv]at h2;exact h2.elim
 |_=>rw[hv]at h2;exact h2.elim
theorem Q8h {k:IntKind}{n:Int}(h:inR k n):k.wrap n=n:=by
 unfold inR at h
 cases k <;> simp[IntKind.min,IntKind.max,IntKind.signed,IntKind.bits]at h <;> simp[IntKind.wrap,IntKind.signed,IntKind.bits] <;> omega
theorem Qaxa (s:List UInt8):(⟨s.toArray⟩:ByteArray).toList=s:=by
 rw[ByteArray.toList_eq]
theorem Qasl (s:List UInt8):(⟨s.toArray⟩:ByteArray).size=s.length:=by simp[ByteArray.size]
theorem Ql8:LIM=549755813888:=rfl
theorem Qar (op:BinOp)(t:TypeId)(x y:Operand)(u v:Value)(h:∀cs ds,¬(u=.agg cs∧v=.agg ds))(h':¬(u=.nilIface∧v=.nilIface))(w:World) :
  (eqGuard op t x y u v).run P w=.ok () w:=by
 unfold eqGuard
 cases op <;> simp <;> (cases u <;> cases v <;> simp_all)
theorem Qas5 {t:TypeId}(h:P.underlying t=some .bool)(d:Nat)(x y:Bool)(w:World):(Op.equalIn (d+1) t (.bool x) (.bool y)).run P w=.ok (x == y) w:=by
 simp[Op.equalIn,Qx h]
theorem Qaxm {t pe:TypeId}(h:P.underlying t=some (.pointer pe))(d:Nat)(x:Addr)(w:World):(Op.equalIn (d+1) t (.pointer (some x)) (.pointer none)).run P w=.ok false w:=by
 simp[Op.equalIn,Qx h]
theorem Qaxl {t pe:TypeId}(h:P.underlying t=some (.pointer pe))(d:Nat)(w:World):(Op.equalIn (d+1) t (.pointer none) (.pointer none)).run P w=.ok true w:=by
 simp[Op.equalIn,Qx h]
theorem Q8t {t:TypeId}(h:P.underlying t=some .bool)(x y:Bool)(w:World):(Op.equal t (.bool x) (.bool y)).run P w=.ok (x == y) w:=Qas5 h 9999 x y w
theorem Qafi {t pe:TypeId}(h:P.underlying t=some (.pointer pe))(x:Addr)(w:World):(Op.equal t (.pointer (some x)) (.pointer none)).run P w=.ok false w:=Qaxm h 9999 x w
theorem Qafh {t pe:TypeId}(h:P.underlying t=some (.pointer pe))(w:World):(Op.equal t (.pointer none) (.pointer none)).run P w=.ok true w:=Qaxl h 9999 w
theorem Qblk {tag:Nat}{bo:BinOp}{x y:Opd}{x' y':Operand}{t t':TypeId}(hm:o.op=.binOp bo t x' y' t')(ht:mTag P tag t=true)(hx:mO x x'=true)(hy:mO y y'=true)
  (hs:Sat H g w) (he:EnvOk w g e a) (hp:p=true) (ho:(FOp.bin tag bo x y).obl p e H):FOk P H g w e a o (.bin tag bo x y):=by
 simp only[FOp.obl]at ho
 obtain⟨h1,h2,h3,h4,h5⟩:=ho
 have hrx:=Qaa he hx hp h1
 have hry:=Qaa he hy hp h2
 rw[Qdd h3]at hrx
 rw[Qdd h4]at hry
 have hcx:=hrx.c_inv
 have hcy:=hry.c_inv
 have key:∀(u v:Value) (c d:C),RepC w g c u→RepC w g d v→binO tag bo c d→
   ∃r,(do eqGuard bo t x' y' u v;binOp bo t u v:Sem Value).run P w=.ok r w∧RepC w g (binC bo c d) r:=by
  intro u v c d hu hv hO
  unfold binO at hO
  split at hO
  case h_1=>
   obtain⟨rfl,hr⟩:=hO
   rw[hu.int_inv,hv.int_inv]
   exact⟨_,by simp[Qar,binOp,Op.intArith];try rfl,by rw[Q8h hr];exact .int _ _⟩
  case h_2=>
   obtain⟨rfl,hr⟩:=hO
   rw[hu.int_inv,hv.int_inv]
   exact⟨_,by simp[Qar,binOp,Op.intArith];try rfl,by rw[Q8h hr];exact .int _ _⟩
  case h_3=>
   obtain⟨rfl,hr⟩:=hO
   rw[hu.int_inv,hv.int_inv]
   exact⟨_,by simp[Qar,binOp,Op.intArith];try rfl,by rw[Q8h hr];exact .int _ _⟩
  case h_4=>
   obtain⟨rfl,h0,hr⟩:=hO
   rw[hu.int_inv,hv.int_inv]
   exact⟨_,by simp[Qar,binOp,Op.intDiv,h0];try rfl,by rw[Q8h hr];exact .int _ _⟩
  case h_5=>
   obtain⟨rfl,h0⟩:=hO
   rw[hu.int_inv,hv.int_inv]
   exact⟨_,by simp[Qar,binOp,Op.intDiv,h0];try rfl,.int _ _⟩
  case h_6=>
   subst hO
   rw[hu.int_inv,hv.int_inv]
   exact⟨_,by simp[Qar,binOp,Op.intBits];try rfl,.int _ _⟩
  case h_7=>
   subst hO
   rw[hu.int_inv,hv.int_inv]
   exact⟨_,by simp[Qar,binOp,Op.intBits];try rfl,.int _ _⟩
  case h_8=>
   subst hO
   rw[hu.int_inv,hv.int_inv]
   exact⟨_,by simp[Qar,binOp,Op.intBits];try rfl,.int _ _⟩
  case h_9=>
   subst hO
   rw[hu.int_inv,hv.int_inv]
   exact⟨_,by simp[Qar,binOp,Op.intCmp];try rfl,.bool _⟩
  case h_10=>
   subst hO
   rw[hu.int_inv,hv.int_inv]
   refine⟨.bool (!decide (_=_)),?_,.bool _⟩
   simp[Qar,binOp,Op.intCmp,bne]
   rfl
  case h_11=>
   subst hO
   rw[hu.int_inv,hv.int_inv]
   exact⟨_,by simp[Qar,binOp,Op.intCmp];try rfl,.bool _⟩
  case h_12=>
   subst hO
   rw[hu.int_inv,hv.int_inv]
   exact⟨_,by simp[Qar,binOp,Op.intCmp];try rfl,.bool _⟩
  case h_13=>
   subst hO
   rw[hu.int_inv,hv.int_inv]
   exact⟨_,by simp[Qar,binOp,Op.intCmp];try rfl,.bool _⟩
  case h_14=>
   subst hO
   rw[hu.int_inv,hv.int_inv]
   exact⟨_,by simp[Qar,binOp,Op.intCmp];try rfl,.bool _⟩
  case h_15=>
   subst hO
   rw[hu.bool_inv,hv.bool_inv]
   have hb:P.underlying t=some .bool:=by
    simp only[mTag]at ht;split at ht <;> simp_all
   exact⟨_,by simp only[Sem.run_bind,Qar _ _ _ _ (.bool _) (.bool _) (by simp) (by simp),Result.andThen_ok,binOp,Q8t hb];rfl,.bool _⟩
  case h_16=>
   subst hO
   rw[hu.bool_inv,hv.bool_inv]
   have hb:P.underlying t=some .bool:=by
    simp only[mTag]at ht;split at ht <;> simp_all
   exact⟨_,by simp only[Sem.run_bind,Qar _ _ _ _ (.bool _) (.bool _) (by simp) (by simp),Result.andThen_ok,binOp,Q8t hb];rfl,.bool _⟩
  case h_17=>
   rename_i s s'
   rw[hu.str_inv.1,hv.str_inv.1]
   rw[Ql8]at hO
   refine⟨.string (⟨s.toArray⟩++⟨s'.toArray⟩),?_,?_⟩
   ·simp only[Sem.run_bind,Qar _ _ _ _ (.string _) (.string _) (by simp) (by simp),Result.andThen_ok,binOp,Op.stringOp,Qasl]
    rw[if_neg (by simp[IntKind.max,IntKind.signed,IntKind.bits];omega)]
    rfl
   ·have:(⟨s.toArray⟩++⟨s'.toArray⟩:ByteArray)=⟨(s++s').toArray⟩:=by
     apply ByteArray.ext;simp
    rw[this]
    exact .str _ (by simp[Ql8];omega)
  case h_18=>
   rw[hu.str_inv.1,hv.str_inv.1]
   refine⟨_,by simp only[Sem.run_bind,Qar _ _ _ _ (.string _) (.string _) (by simp) (by simp),Result.andThen_ok,binOp,Op.stringOp,Qaxa];rfl,?_⟩
   rename_i s s'
   rw[show (s == s')=decide (s=s') from by rw[Bool.eq_iff_iff];simp]
   exact .bool _
  case h_19=>
   rw[hu.str_inv.1,hv.str_inv.1]
   refine⟨_,by simp only[Sem.run_bind,Qar _ _ _ _ (.string _) (.string _) (by simp) (by simp),Result.andThen_ok,binOp,Op.stringOp,Qaxa];rfl,?_⟩
   rename_i s s'
   rw[show (s == s')=decide (s=s') from by rw[Bool.eq_iff_iff];simp]
   exact .bool _
  case h_20=>
   obtain⟨rfl,hO⟩:=hO
   rw[hv.pnil_inv]
   obtain⟨pe,hb⟩:∃pe,P.underlying t=some (.pointer pe):=by
    simp only[mTag]at ht;split at ht <;> simp_all
   rcases hO with hO|rfl
   ·obtain⟨b,of,rfl⟩:=hu.ptr_inv hO
    refine⟨_,by simp only[Sem.run_bind,Qar _ _ _ _ (.pointer _) (.pointer _) (by simp) (by simp),Result.andThen_ok,binOp,Qafi hb];rfl,?_⟩
    cases c <;> simp[C.isPtr]at hO <;> exact .bool _
   ·rw[hu.pnil_inv]
    exact⟨_,by simp only[Sem.run_bind,Qar _ _ _ _ (.pointer _) (.pointer _) (by simp) (by simp),Result.andThen_ok,binOp,Qafh hb];rfl,.bool _⟩
  case h_21=>
   obtain⟨rfl,hO⟩:=hO
   rw[hv.pnil_inv]
   obtain⟨pe,hb⟩:∃pe,P.underlying t=some (.pointer pe):=by
    simp only[mTag]at ht;split at ht <;> simp_all
   rcases hO with hO|rfl
   ·obtain⟨b,of,rfl⟩:=hu.ptr_inv hO
    refine⟨_,by simp only[Sem.run_bind,Qar _ _ _ _ (.pointer _) (.pointer _) (by simp) (by simp),Result.andThen_ok,binOp,Qafi hb];rfl,?_⟩
    cases c <;> simp[C.isPtr]at hO <;> exact .bool _
   ·rw[hu.pnil_inv]
    exact⟨_,by simp only[Sem.run_bind,Qar _ _ _ _ (.pointer _) (.pointer _) (by simp) (by simp),Result.andThen_ok,binOp,Qafh hb];rfl,.bool _⟩
  case h_22=>exact hO.elim
 obtain⟨r,hr1,hr2⟩:=key _ _ _ _ hcx hcy h5
 refine .mk' hs (v:=r) ?_ ?_ trivial
 ·simp only[execOp,hm,Sem.run_bind]at hr1⊢
  simp only[hr1];rfl
 ·exact .c _ _ hr2
theorem Qbl2 {x:Opd}{x':Operand}{t:TypeId}(hm:o.op=.unOp .not t x')(hx:mO x x'=true)(hs:Sat H g w)(he:EnvOk w g e a)(hp:p=true)
  (ho:(FOp.not x).obl p e H):FOk P H g w e a o (.not x):=by
 simp only[FOp.obl]at ho
 obtain⟨h1,h2⟩:=ho
 have hr:=Qaa he hx hp h1
 split at h2
 ·rename_i b hv
  rw[hv]at hr
  have hb:=hr.c_inv.bool_inv
  refine .mk' hs (v:=.bool (!b)) (by simp[execOp,hm,hb,Op.unary]) ?_ trivial
  simp only[FOp.val,hv]
  exact .c _ _ (.bool _)
 ·exact h2.elim
theorem Qa26 {α:Type}(l:List α)(i j:Nat):(l.drop i)[j]? = l[i+j]?:=by simp[List.getElem?_drop]
theorem Qblq {off:Nat}{x:Opd}{x':Operand}{s:TypeId}{k:Nat}{fs:Array Field}{f:Field}{i:TypeInfo}(hm:o.op=.fieldAddr s x' k)(hu:P.underlying s=some (.struct fs))
  (hf:fs[k]? = some f) (hoff:f.offset=off) (hi:P.info? f.type=some i) (hz:i.size≠0) (hx:mO x x'=true)
  (hs:Sat H g w) (he:EnvOk w g e a) (hp:p=true) (ho:(FOp.fad off x).obl p e H):FOk P H g w e a o (.fad off x):=by
 simp only[FOp.obl]at ho
 obtain⟨h1,h2⟩:=ho
 have hr:=Qaa he hx hp h1
 have run:∀b q,a.eval x'=.pointer (some ⟨b,q,none⟩)→(execOp a.eval o).run P w=.ok (.value (.pointer (some ⟨b,q+off,none⟩))) w:=by
  intro b q hq
  simp[execOp,hm,hq,Instr.fieldAt,Qx hu,hf,Instr.sureAddr,fieldPlace,Qat hi,hz,Qba,hoff]
 generalize hq:a.eval x'=vv at hr
 split at h2
 ·rename_i cells hv
  rw[hv]at hr
  cases hr.c_inv with
  |pp _ b q val hper hc hvv=>
   refine .mk' hs (run b q hq) ?_ trivial
   simp only[FOp.val,hv,V.c1,fadC]
   refine .c _ _ (.pp _ b (q+off) (fun j=>val (off+j)) hper (fun j c hj=>?_) (fun j c hj=>?_))
   ·rw[Qa26]at hj;rw[Nat.add_assoc];exact hc _ _ hj
   ·rw[Qa26]at hj;exact hvv _ _ hj
 ·rename_i l kk hv
  rw[hv]at hr
  cases hr.c_inv with
  |ptr _ _ b sz base hio=>
   refine .mk' hs (run b _ hq) ?_ trivial
   simp only[FOp.val,hv,V.c1,fadC]
   rw[Nat.add_assoc]
   exact .c _ _ (.ptr _ _ b sz base hio)
 ·rename_i sl sz ii kk hv
  rw[hv]at hr
  cases hr.c_inv with
  |ep _ _ _ _ b q n cap hsl hz' hin=>
   refine .mk' hs (run b _ hq) ?_ trivial
   simp only[FOp.val,hv,V.c1,fadC]
   rw[Nat.add_assoc]
   exact .c _ _ (.ep _ _ _ _ b q n cap hsl hz' hin)
 ·exact h2.elim
end Go.AE

namespace Go.AE
variable {P:Program}{H:Heap}{g:G}{w:World}{e:Env}{a:Act}{o:Oper}{p:Bool}
theorem Qbdx {v:V}(h:Qsv v):v=.c (.int .i64 (Q0 v)):=by
 unfold Qsv at h
 split at h
 ·subst h;rfl
 ·exact h.elim
theorem Qbdz {v:V}(h:Qbdy v):∃k,v=.c (.int k (Q0 v)):=by
 unfold Qbdy at h
 split at h
 ·exact⟨_,rfl⟩
 ·exact h.elim
theorem Qnj {x:Opd}{y:Operand}(he:EnvOk w g e a)(h:mO x y=true)(hp:p=true)(hf:x.fine p e)(hi:Qsv (x.v e)) :
  a.eval y=.int .i64 (Q0 (x.v e)):=by
 have hr:=Qaa he h hp hf
 rw[Qbdx hi]at hr
 exact hr.c_inv.int_inv
theorem Qblt {sz:Nat}{x y:Opd}{x' y':Operand}{t el:TypeId}{i:TypeInfo}(hm:o.op=.indexAddr t x' y')(hu:P.underlying t=some (.slice el))
  (hi:P.info? el=some i) (hz:i.size=sz) (hx:mO x x'=true) (hy:mO y y'=true)
  (hs:Sat H g w) (he:EnvOk w g e a) (hp:p=true) (ho:(FOp.iad sz x y).obl p e H):FOk P H g w e a o (.iad sz x y):=by
 simp only[FOp.obl]at ho
 obtain⟨h1,h2,h3,h4,h5,h6,h7,h8⟩:=ho
 have hr:=Qaa he hx hp h1
 have hn:=Qnj he hy hp h2 h6
 rw[Qdd h3]at hr
 obtain⟨b0,cap,hv,r1,r2,r3,r4⟩:=Qq5 hs hr.c_inv h4
 obtain⟨b,off,rfl,r5⟩:=r4 (by omega)
 refine .mk' hs (v:=.pointer (some ⟨b,off+(Q0 (y.v e)).toNat * sz+0,none⟩)) ?_ ?_ trivial
 ·simp only[execOp,hm,hv,hn,Instr.indexAt,Sem.run_bind,asIntOf,Sem.run_pure,Result.andThen_ok,Qx hu]
  rw[if_pos ⟨h7,by omega⟩]
  simp[Qat hi,hz,Qba]
 ·simp only[FOp.val]
  refine .c _ _ (.ep _ _ _ _ b off (lenC (x.v e).c1) cap ?_ h5 h8)
  rw[←hv];exact hr.c_inv
theorem Qas9 (f:Nat→Value)(n j:Nat)(u:Value)(h:(((List.range n).map f))[j]? = some u):j<n∧u=f j:=by
 simp only[List.getElem?_map]at h
 cases hj:(List.range n)[j]? with
 |none=>rw[hj]at h;simp at h
 |some m=>
  rw[hj]at h
  rw[List.getElem?_eq_some_iff]at hj
  obtain⟨h1,h2⟩:=hj
  simp only[List.getElem_range]at h2
  subst h2
  simp only[List.length_range]at h1
  simp at h
  exact⟨h1,h.symm⟩
theorem Qa97 {cs:List C}(h:noOw cs=true){j:Nat}{c:C}(hj:cs[j]? = some c):c.isOw=false:=by
 unfold noOw at h
 rw[List.all_eq_true]at h
 have:=h c (List.mem_of_getElem? hj)
 simpa using this
theorem Qaw0 {n:Nat}{agg:Bool}{x:Opd}{x':Operand}{t:TypeId}{d:TypeDesc}{i:TypeInfo}(hm:o.op=.load t x')(hu:P.underlying t=some d)(hi:P.info? t=some i)
  (ha:Qmk d=agg) (hn:agg=true→i.size=n) (hn1:agg=false→n=1) (hx:mO x x'=true)
  (hs:Sat H g w) (he:EnvOk w g e a) (hp:p=true) (ho:(FOp.ld n agg x).obl p e H):∃v,(execOp a.eval o).run P w=.ok (.value v) w∧RepV w g ((FOp.ld n agg x).val e H) v:=by
 simp only[FOp.obl]at ho
 obtain⟨h1,h2,h3,h4,h5⟩:=ho
 have hr:=Qaa he hx hp h1
 rw[Qdd h2]at hr
 obtain⟨b,q,hv,hc⟩:=Qanm hs hr.c_inv h3
 have hcell:∀j,j<n→∃c,(Qnb H (x.v e).c1)[j]? = some c∧w.cell? ⟨b,q+j,none⟩=some (getV w b q j)∧RepC w g c (getV w b q j):=by
  intro j hj
  have hj':j<(Qnb H (x.v e).c1).length:=by omega
  have hg:(Qnb H (x.v e).c1)[j]? = some (Qnb H (x.v e).c1)[j]:=List.getElem?_eq_getElem hj'
  have hw:((Qnb H (x.v e).c1)[j]).isOw=false:=Qa97 h5 (j:=j) (by rw[List.getElem?_take,if_pos hj];exact hg)
  obtain⟨u,e1,e2⟩:=hc j _ hg hw
  refine⟨_,hg,?_,?_⟩
  ·rw[getV,e1];rfl
  ·rw[getV,e1];exact e2
 have hrun:=Qaft (t:=t) hu hi w b q n (getV w b q) (fun h=>hn (ha▸h)) (fun h=>hn1 (ha▸h)) (fun j hj=>(hcell j hj).choose_spec.2.1)
 refine⟨if Qmk d then .agg ((List.range n).map (getV w b q)).toArray else getV w b q 0,?_,?_⟩
 ·simp only[execOp,hm,hv,Instr.loadAt,Instr.sureAddr,Sem.run_bind,Sem.run_pure,Result.andThen_ok,hrun]
 ·simp only[FOp.val,Qax8]
  rw[ha]
  cases agg with
  |true=>
   simp only[if_true]
   refine .ag _ _ (by simp;omega) fun j c u hj hu'=>?_
   obtain⟨hjn,rfl⟩:=Qas9 _ _ _ _ hu'
   obtain⟨c',e1,e2,e3⟩:=hcell j hjn
   rw[List.getElem?_take,if_pos hjn,e1]at hj
   simp at hj;subst hj;exact e3
  |false=>
   have hn1':=hn1 rfl
   subst hn1'
   obtain⟨c',e1,e2,e3⟩:=hcell 0 (by omega)
   simp only[Bool.false_eq_true,if_false]
   have:((Qnb H (x.v e).c1).take 1).headD .unk=c':=by
    cases hb:Qnb H (x.v e).c1 with
    |nil=>rw[hb]at e1;simp at e1
    |cons c r=>rw[hb]at e1;simp at e1;simp[e1]
   rw[this]
   exact .c _ _ e3
theorem s_ld {n:Nat}{agg:Bool}{x:Opd}{x':Operand}{t:TypeId}{d:TypeDesc}{i:TypeInfo}(hm:o.op=.load t x')(hu:P.underlying t=some d)(hi:P.info? t=some i)
  (ha:Qmk d=agg) (hn:agg=true→i.size=n) (hn1:agg=false→n=1) (hx:mO x x'=true)
  (hs:Sat H g w) (he:EnvOk w g e a) (hp:p=true) (ho:(FOp.ld n agg x).obl p e H):FOk P H g w e a o (.ld n agg x):=by
 obtain⟨v,h1,h2⟩:=Qaw0 hm hu hi ha hn hn1 hx hs he hp ho
 exact .mk' hs h1 h2 trivial
theorem Qbl1 {x:Opd}{x':Operand}(hm:o.op=.nilCheck x')(hx:mO x x'=true)
  (hs:Sat H g w) (he:EnvOk w g e a) (hp:p=true) (ho:(FOp.nck x).obl p e H):FOk P H g w e a o (.nck x):=by
 simp only[FOp.obl]at ho
 obtain⟨h1,h2⟩:=ho
 have hr:=Qaa he hx hp h1
 have hptr:(x.v e).isC→(x.v e).c1.isPtr=true→FOk P H g w e a o (.nck x):=by
  intro hc hq
  have hr':=hr
  rw[Qdd hc]at hr'
  obtain⟨b,q,hv⟩:=hr'.c_inv.ptr_inv hq
  exact .mk' hs (v:=a.eval x') (by simp[execOp,hm,hv]) hr trivial
 split at h2
 ·rename_i hv;exact hptr (by rw[hv];trivial) (by rw[hv];rfl)
 ·rename_i hv;exact hptr (by rw[hv];trivial) (by rw[hv];rfl)
 ·rename_i hv;exact hptr (by rw[hv];trivial) (by rw[hv];rfl)
 ·rename_i hv
  have hr':=hr
  rw[hv]at hr'
  obtain⟨vs,hq,_⟩:=hr'.c_inv.fn_inv
  exact .mk' hs (v:=a.eval x') (by simp[execOp,hm,hq]) hr trivial
 ·exact h2.elim
theorem Qbly {x:Opd}{x':Operand}{t el:TypeId}{ats:Array TypeId}(hm:o.op=.call { callee:=.builtin .len,args:=#[x'],argTypes:=ats })(hat:ats[0]? = some t)
  (hu:P.underlying t=some (.slice el)) (hx:mO x x'=true)
  (hs:Sat H g w) (he:EnvOk w g e a) (hp:p=true) (ho:(FOp.len x).obl p e H):FOk P H g w e a o (.len x):=by
 simp only[FOp.obl]at ho
 obtain⟨h1,h2,h3⟩:=ho
 have hr:=Qaa he hx hp h1
 rw[Qdd h2]at hr
 obtain⟨b0,cap,hv,r1,r2,r3,r4⟩:=Qq5 hs hr.c_inv h3
 refine .mk' hs (v:=.int .i64 (lenC (x.v e).c1)) ?_ (.c _ _ (.int _ _)) r1
 simp[execOp,hm,resolve,invoke,builtin,Builtin.len_,hat,hv,Qx hu,goInt]
theorem Qbki {x:Opd}{x':Operand}{t el:TypeId}{ats:Array TypeId}(hm:o.op=.call { callee:=.builtin .len,args:=#[x'],argTypes:=ats })(hat:ats[0]? = some t)
  (hu:P.underlying t=some (.slice el)) (hx:mO x x'=true)
  (hs:Sat H g w) (he:EnvOk w g e a) (hp:p=true) (ho:(FOp.lenx x).obl p e H):FOk P H g w e a o (.lenx x):=by
 simp only[FOp.obl]at ho
 obtain⟨h1,h2,h3⟩:=ho
 have hr:=Qaa he hx hp h1
 rw[Qdd h2]at hr
 have key:∃(b0:Option Addr) (cap:Nat),a.eval x'=.slice b0 (lenX (x.v e).c1) cap∧lenX (x.v e).c1<2 ^ 63:=by
  rcases h3 with h3|h3
  ·obtain⟨b0,cap,hv,r1,r2,r3,r4⟩:=Qq5 hs hr.c_inv h3
   have:lenX (x.v e).c1=lenC (x.v e).c1:=by
    generalize (x.v e).c1=c at h3
    cases c <;> first|rfl|simp[Qy4]at h3
   rw[this]
   exact⟨b0,cap,hv,by rw[Ql8]at r1;omega⟩
  ·have hrc:=hr.c_inv
   generalize (x.v e).c1=c at h3 hrc⊢
   generalize a.eval x'=xv at hrc⊢
   cases hrc with
   |slb n a0 cap h=>exact⟨_,_,rfl,h⟩
   |_=>simp[Qbh4]at h3
 obtain⟨b0,cap,hv,hl⟩:=key
 refine .mk' hs (v:=.int .i64 (lenX (x.v e).c1)) ?_ (.c _ _ (.int _ _)) hl
 simp[execOp,hm,resolve,invoke,builtin,Builtin.len_,hat,hv,Qx hu,goInt]
theorem Qbkh {x:Opd}{x':Operand}{t:TypeId}{ats:Array TypeId}(hm:o.op=.call { callee:=.builtin .len,args:=#[x'],argTypes:=ats })(hat:ats[0]? = some t)
  (hu:P.underlying t=some .string) (hx:mO x x'=true)
  (hs:Sat H g w) (he:EnvOk w g e a) (hp:p=true) (ho:(FOp.lens x).obl p e H):FOk P H g w e a o (.lens x):=by
 simp only[FOp.obl]at ho
 obtain⟨h1,h2⟩:=ho
 have hr:=Qaa he hx hp h1
 split at h2
 ·rename_i s hv
  rw[hv]at hr
  obtain⟨hq,hl⟩:=hr.c_inv.str_inv
  refine .mk' hs (v:=.int .i64 s.length) ?_ (by simp only[FOp.val,hv];exact .c _ _ (.int _ _)) (by simp only[FOp.fct,hv];exact hl)
  simp[execOp,hm,resolve,invoke,builtin,Builtin.len_,hat,hq,Qx hu,goInt,Qasl]
 ·exact h2.elim
theorem Qbio {x:Opd}{x':Operand}{t:TypeId}{ats:Array TypeId}(hm:o.op=.call { callee:=.builtin .len,args:=#[x'],argTypes:=ats })(hat:ats[0]? = some t)
  (hu:P.underlying t=some .string) (hx:mO x x'=true)
  (hs:Sat H g w) (he:EnvOk w g e a) (hp:p=true) (ho:(FOp.lensx x).obl p e H):FOk P H g w e a o (.lensx x):=by
 simp only[FOp.obl]at ho
 obtain⟨h1,h2⟩:=ho
 have hr:=Qaa he hx hp h1
 split at h2
 ·rename_i s hv
  rw[hv]at hr
  obtain⟨hq,hl⟩:=hr.c_inv.str_inv
  refine .mk' hs (v:=.int .i64 s.length) ?_ (by simp only[FOp.val,hv];exact .c _ _ (.int _ _)) (by simp only[FOp.fct,hv];exact hl)
  simp[execOp,hm,resolve,invoke,builtin,Builtin.len_,hat,hq,Qx hu,goInt,Qasl]
 ·rename_i n hv
  rw[hv]at hr
  have hrc:=hr.c_inv
  generalize hq:a.eval x'=xv at hrc
  cases hrc with
  |stb s h=>
   refine .mk' hs (v:=.int .i64 s.size) ?_ (by simp only[FOp.val,hv];exact .c _ _ (.int _ _)) (by simp only[FOp.fct,hv];exact h)
   simp[execOp,hm,resolve,invoke,builtin,Builtin.len_,hat,hq,Qx hu,goInt]
 ·exact h2.elim
theorem Qa74 {agg:Bool}{ks:List C}{rows:List (List C)}{v:Value}(h:RepC w g (.cm agg ks rows) v):∃b ms clock,v=.map (some b)∧w.heap[b]? = some (.map ms clock)∧ms.size=(Q7 H (.cm agg ks rows)).length∧(Q7 H (.cm agg ks rows)).length≤LIM∧
   (∀(i:Nat) (x:C×V) (m:MapEntry),(Q7 H (.cm agg ks rows))[i]? = some x→ms[i]? = some m→RepE w g x m)∧
   (∀(i j:Nat) (m m':MapEntry),ms[i]? = some m→ms[j]? = some m'→(m.born=m'.born∨m.key=m'.key)→i=j):=by
 cases h with
 |cm _ _ _ b ms clock val hp hb hsz hrl hl hd hm hk hv=>
  have hlen:(Q7 H (.cm agg ks rows)).length=ks.length:=by simp[Q7];omega
  refine⟨b,ms,clock,rfl,hb,by rw[hlen];exact hsz,by rw[hlen];exact hl,fun i x m h1 h2=>?_,hd⟩
  simp only[Q7,List.getElem?_map]at h1
  obtain⟨e,he,rfl⟩:=Option.map_eq_some_iff.1 h1
  obtain⟨e1,e2⟩:=List.getElem?_zip_eq_some.1 he
  refine⟨hk i _ m e1 h2,?_⟩
  obtain⟨k1,k2⟩:=hm i _ m e2 h2
  obtain⟨ec,er⟩:=e
  simp only at e1 e2 k1 k2⊢
  cases agg with
  |true=>
   simp only[if_true]at k1
   rw[k1]
   refine .ag _ _ (by simp) fun j c u h3 h4=>?_
   obtain⟨_,rfl⟩:=Qas9 _ _ _ _ h4
   exact hv i _ j c e2 h3
  |false=>
   have h1':=k2 rfl
   match er,h1' with
   |[c],_=>
    simp only[Bool.false_eq_true,if_false]at k1
    rw[k1]
    exact .c _ _ (hv i _ 0 c e2 rfl)
theorem Qbif (hs:Sat H g w){c:C}{v:Value}(h:RepC w g c v)(ho:Qxv H c) :
  (v=.map none∧Q7 H c=[])∨∃b ms clock,v=.map (some b)∧w.heap[b]? = some (.map ms clock)∧ms.size=(Q7 H c).length∧(Q7 H c).length≤LIM∧
   ∀(i:Nat) (x:C×V) (m:MapEntry),(Q7 H c)[i]? = some x→ms[i]? = some m→RepE w g x m:=by
 have h0:=h
 cases h with
 |mp l b hio=>
  simp only[Qxv]at ho
  split at ho
  ·rename_i n es hH
   have hob:=hs.objs l
   rw[hH]at hob
   obtain⟨b',ms,clock,k1,k2,k3,k4,k5,k6,_⟩:=hob
   rw[hio]at k1
   simp only[Option.some.injEq,Prod.mk.injEq,and_true]at k1
   subst k1
   simp only[Q7,hH]
   exact .inr ⟨b,ms,clock,rfl,k3,k4,k5,k6⟩
  ·exact ho.elim
 |mnil=>exact .inl ⟨rfl,rfl⟩
 |cm=>
  obtain⟨b,ms,clock,q1,q2,q3,q4,q5,_⟩:=Qa74 (H:=H) h0
  exact .inr ⟨b,ms,clock,q1,q2,q3,q4,q5⟩
 |_=>simp[Qxv]at ho
theorem Qbkg {x:Opd}{x':Operand}{t kt et:TypeId}{ats:Array TypeId}(hm:o.op=.call { callee:=.builtin .len,args:=#[x'],argTypes:=ats })(hat:ats[0]? = some t)
  (hu:P.underlying t=some (.map kt et)) (hx:mO x x'=true)
  (hs:Sat H g w) (he:EnvOk w g e a) (hp:p=true) (ho:(FOp.lenm x).obl p e H):FOk P H g w e a o (.lenm x):=by
 simp only[FOp.obl]at ho
 obtain⟨h1,h2,h3⟩:=ho
 have hr:=Qaa he hx hp h1
 rw[Qdd h2]at hr
 rcases Qbif hs hr.c_inv h3 with ⟨hv,hE⟩|⟨b,ms,clock,hv,hb,hsz,hl,_⟩
 ·refine .mk' hs (v:=.int .i64 0) ?_ (by simp only[FOp.val,hE];exact .c _ _ (.int _ _)) (by simp only[FOp.fct,hE];simp[Ql8])
  simp[execOp,hm,resolve,invoke,builtin,Builtin.len_,hat,hv,Qx hu,goInt]
 ·refine .mk' hs (v:=.int .i64 (Q7 H (x.v e).c1).length) ?_ (.c _ _ (.int _ _)) hl
  have hgo:(getObj b).run P w=.ok (.map ms clock) w:=by simp[getObj,Sem.run,hb]
  simp[execOp,hm,resolve,invoke,builtin,Builtin.len_,hat,hv,Qx hu,goInt,hgo,hsz]
theorem Qblp {x:Opd}{x':Operand}{i:Nat}(hm:o.op=.extract x' i)(hx:mO x x'=true)
  (hs:Sat H g w) (he:EnvOk w g e a) (hp:p=true) (ho:(FOp.ext x i).obl p e H):FOk P H g w e a o (.ext x i):=by
 simp only[FOp.obl]at ho
 obtain⟨h1,h2⟩:=ho
 have hr:=Qaa he hx hp h1
 split at h2
 ·rename_i xs hv
  rw[hv]at hr
  obtain⟨vs,hq,hl,hh⟩:=hr.tup_inv
  have hi:i<vs.length:=by omega
  refine .mk' hs (v:=vs[i]) ?_ ?_ trivial
  ·simp[execOp,hm,Instr.extract,hq,hi]
  ·simp only[FOp.val,hv]
   refine hh i _ _ ?_ (List.getElem?_eq_getElem hi)
   rw[List.getD_eq_getElem?_getD,List.getElem?_eq_getElem h2];rfl
 ·exact h2.elim
theorem Qblo {x:Opd}{x':Operand}{k:IntKind}{src dst:TypeId}{d:TypeDesc}(hm:o.op=.convert src dst x')(hu:P.underlying dst=some (.int k))(hu':P.underlying src=some d)(hx:mO x x'=true)
  (hs:Sat H g w) (he:EnvOk w g e a) (hp:p=true) (ho:(FOp.cvt k x).obl p e H):FOk P H g w e a o (.cvt k x):=by
 simp only[FOp.obl]at ho
 obtain⟨h1,h2,h3⟩:=ho
 have hr:=Qaa he hx hp h1
 obtain⟨k',hk⟩:=Qbdz h2
 rw[hk]at hr
 have hq:=hr.c_inv.int_inv
 refine .mk' hs (v:=.int k (Q0 (x.v e))) ?_ (.c _ _ (.int _ _)) trivial
 simp[execOp,hm,hq,convert,Qx hu,Qx hu',Conv.intToInt,Q8h h3]
theorem s_mx {x y:Opd}{x' y':Operand}{ats:Array TypeId}(hm:o.op=.call { callee:=.builtin .max,args:=#[x',y'],argTypes:=ats })(hx:mO x x'=true)(hy:mO y y'=true)
  (hs:Sat H g w) (he:EnvOk w g e a) (hp:p=true) (ho:(FOp.mx x y).obl p e H):FOk P H g w e a o (.mx x y):=by
 simp only[FOp.obl]at ho
 obtain⟨h1,h2,h3,h4⟩:=ho
 have q1:=Qnj he hx hp h1 h3
 have q2:=Qnj he hy hp h2 h4
 refine .mk' hs (v:=.int .i64 (if Q0 (y.v e) > Q0 (x.v e)then Q0 (y.v e)else Q0 (x.v e))) ?_ (.c _ _ (.int _ _)) trivial
 simp[execOp,hm,resolve,invoke,builtin,Builtin.max_,q1,q2,Builtin.max2]
theorem s_mn {x y:Opd}{x' y':Operand}{ats:Array TypeId}(hm:o.op=.call { callee:=.builtin .min,args:=#[x',y'],argTypes:=ats })(hx:mO x x'=true)(hy:mO y y'=true)
  (hs:Sat H g w) (he:EnvOk w g e a) (hp:p=true) (ho:(FOp.mn x y).obl p e H):FOk P H g w e a o (.mn x y):=by
 simp only[FOp.obl]at ho
 obtain⟨h1,h2,h3,h4⟩:=ho
 have q1:=Qnj he hx hp h1 h3
 have q2:=Qnj he hy hp h2 h4
 refine .mk' hs (v:=.int .i64 (if Q0 (y.v e)<Q0 (x.v e)then Q0 (y.v e)else Q0 (x.v e))) ?_ (.c _ _ (.int _ _)) trivial
 simp[execOp,hm,resolve,invoke,builtin,Builtin.min_,q1,q2,Builtin.min2]
theorem Qblv {x y:Opd}{x' y':Operand}{t:TypeId}(hm:o.op=.index t x' y')(hu:P.underlying t=some .string)(hx:mO x x'=true)(hy:mO y y'=true)
  (hs:Sat H g w) (he:EnvOk w g e a) (hp:p=true) (ho:(FOp.idx x y).obl p e H):FOk P H g w e a o (.idx x y):=by
 simp only[FOp.obl]at ho
 obtain⟨h1,h2,h3,h4⟩:=ho
 have hr:=Qaa he hx hp h1
 have q2:=Qnj he hy hp h2 h3
 split at h4
 ·rename_i s hv
  rw[hv]at hr
  obtain⟨hq,hl⟩:=hr.c_inv.str_inv
  refine .mk' hs (v:=.int .u8 ((s.getD (Q0 (y.v e)).toNat 0).toNat)) ?_ (by simp only[FOp.val,hv];exact .c _ _ (.int _ _)) trivial
  have hb:(⟨s.toArray⟩:ByteArray)[(Q0 (y.v e)).toNat]? = some (s.getD (Q0 (y.v e)).toNat 0):=by
   rw[getElem?_pos _ _ (by simpa[ByteArray.size]using h4.2)]
   rw[List.getD_eq_getElem?_getD,List.getElem?_eq_getElem h4.2]
   rfl
  simp only[execOp,hm,hq,q2,Instr.index,Sem.run_bind,asIntOf,Sem.run_pure,Result.andThen_ok,Qx hu,if_pos h4.1,hb]
 ·exact h4.elim
end Go.AE

namespace Go.AE
variable {P:Program}{H:Heap}{g:G}{w:World}{e:Env}{a:Act}{o:Oper}{p:Bool}
def Q2w (g:G)(w:World)(g':G)(w':World)(l:Nat):Prop:=
 ∀b q,g.own b=some (l,q)→g'.own b=some (l,q)∧w'.heap[b]? = w.heap[b]?
theorem RepE.mono {g':G}{w':World}(hle:Le g w g' w'){x:C×V}{m:MapEntry}(h:RepE w g x m):RepE w' g' x m:=⟨h.1.mono hle,h.2.mono hle⟩
theorem SatObj.keep {H':Heap}{g':G}{w':World}(hs:Sat H g w)(hle:Le g w g' w'){l:Nat}(hk:Q2w g w g' w' l)(hH:H' l=H l)
  (hit:∀m v left cur,H l=.iter (some (m,v)) left cur→∀v' es,H' m=.map v' es→(H m=.map v' es∧Q2w g w g' w' m)∨∃v0 es0,H m=.map v0 es0∧v0<v') :
  SatObj H' g' w' l (H' l):=by
 have ho:=hs.objs l
 rw[hH]
 cases hc:H l with
 |none=>exact trivial
 |st cells=>
  rw[hc]at ho
  obtain⟨b,sz,T,cs,h1,h2,h3,h4,h5⟩:=ho
  have k0:=hk b [] h2
  refine⟨b,sz,T,cs,hle.io _ _ h1,k0.1,k0.2.trans h3,h4,fun k c v e1 e2=>?_⟩
  exact (h5 k c v e1 e2).move hle fun q b' hb=>hk b' _ hb
 |vec sz rows=>
  rw[hc]at ho
  rcases ho with ⟨q1,x,q2,q3⟩|⟨b,base,T,cs,val,h1,h2,h3,h4,h5,h6,h7,h8⟩
  ·exact .inl ⟨q1,x,hle.io _ _ q2,q3⟩
  have k0:=hk b [] h2
  refine .inr ⟨b,base,T,cs,val,hle.io _ _ h1,k0.1,k0.2.trans h3,h4,h5,h6,h7,fun i row j c e1 e2=>?_⟩
  exact (h8 i row j c e1 e2).move hle fun q b' hb=>hk b' _ hb
 |map v es=>
  rw[hc]at ho
  obtain⟨b,ms,clock,h1,h2,h3,h4,h5,h6,h7,h8⟩:=ho
  have k0:=hk b [] h2
  exact⟨b,ms,clock,hle.io _ _ h1,k0.1,k0.2.trans h3,h4,h5,fun i x m e1 e2=>(h6 i x m e1 e2).mono hle,h7,h8⟩
 |gl b cells=>
  rw[hc]at ho
  obtain⟨sz,val,h1,h2,h3,h4⟩:=ho
  refine⟨sz,val,hle.io _ _ h1,(hle.per b h2).1,fun j c e=>?_,fun j c e=>(h4 j c e).mono hle⟩
  rw[Qir (w:=w) (hle.per b h2).2];exact h3 j c e
 |sit s q=>
  rw[hc]at ho
  obtain⟨b,h1,h2,h3,h4⟩:=ho
  have k0:=hk b [] h2
  exact⟨b,hle.io _ _ h1,k0.1,k0.2.trans h3,h4⟩
 |iter m left cur=>
  rw[hc]at ho
  cases m with
  |none=>
   obtain⟨b,si,se,la,h1,h2,h3,h4⟩:=ho
   have k0:=hk b [] h2
   exact⟨b,si,se,la,hle.io _ _ h1,k0.1,k0.2.trans h3,h4⟩
  |some mv=>
   obtain⟨m,ver⟩:=mv
   obtain⟨b,mb,si,se,h1,h2,h3,h4,h5⟩:=ho
   have k0:=hk b [] h2
   refine⟨b,mb,si,se,hle.io _ _ h1,k0.1,k0.2.trans h3,hle.io _ _ h4,fun v es hv=>?_⟩
   rcases hit m ver left cur hc v es hv with ⟨a1,a2⟩|⟨v0,es0,a1,a2⟩
   ·obtain⟨b1,b2⟩:=h5 v es a1
    refine⟨b1,fun hvv=>?_⟩
    obtain⟨ms,c1,c2⟩:=b2 hvv
    refine⟨ms,?_,c2⟩
    have hm:=hs.objs m
    rw[a1]at hm
    obtain⟨mb',ms',clock,d1,d2,d3,_⟩:=hm
    rw[h4]at d1
    simp only[Option.some.injEq,Prod.mk.injEq,and_true]at d1
    subst d1
    rw[(a2 mb [] d2).2];exact c1
   ·obtain⟨b1,b2⟩:=h5 v0 es0 a1
    exact⟨by omega,fun hvv=>by omega⟩
theorem SatObj.keep_all {g':G}{w':World}(hs:Sat H g w)(hle:Le g w g' w')(hk:∀l,Q2w g w g' w' l)(l:Nat):SatObj H g' w' l (H l):=
 SatObj.keep (H':=H) hs hle (hk l) rfl fun m v left cur _ v' es hv=>.inl ⟨hv,hk m⟩
theorem Qaff (hs:Sat H g w){b:Nat}{x:Nat×List Nat}(h:g.own b=some x):b<w.heap.size:=by
 rcases Nat.lt_or_ge b w.heap.size with h'|h'
 ·exact h'
 ·rw[(hs.fresh b h').2]at h;simp at h
theorem Qbae (hs:Sat H g w){b:Nat}(h:g.per b=true):b<w.heap.size:=by
 rcases Nat.lt_or_ge b w.heap.size with h'|h'
 ·exact h'
 ·rw[(hs.fresh b h').1]at h;simp at h
theorem Qdx (w:World)(x:Go.Obj){b:Nat}(h:b<w.heap.size):(w.alloc x).heap[b]? = w.heap[b]?:=by
 simp only[World.alloc,Array.getElem?_push]
 rw[if_neg (by omega)]
theorem Qa3 (w:World)(x:Go.Obj):(w.alloc x).heap[w.heap.size]? = some x:=by
 simp only[World.alloc,Array.getElem?_push,if_true]
theorem Qask {w:World}{b:Nat}{T:TypeId}{n:Nat}(h:w.shape? b=some (T,n)):b<w.heap.size:=by
 unfold World.shape? at h
 rcases Nat.lt_or_ge b w.heap.size with h'|h'
 ·exact h'
 ·simp[Array.getElem?_eq_none h']at h
theorem Qi1 {w w':World}{b:Nat}(h:w'.heap[b]? = w.heap[b]?):w'.shape? b=w.shape? b:=by simp only[World.shape?,h]
def G.newPer (g:G)(nb:Nat):G:={ g with per:=fun b=>if b=nb then true else g.per b }
theorem Qaor (hs:Sat H g w)(x:Go.Obj):Stp H g w H (g.newPer w.heap.size) (w.alloc x):=by
 have hle:Le g w (g.newPer w.heap.size) (w.alloc x):=by
  refine⟨fun b hb=>⟨?_,Qdx _ _ (Qbae hs hb)⟩,fun _ _ h=>h,by simp,fun b T n hn=>?_,rfl,rfl,rfl⟩
  ·simp only[G.newPer];split
   ·rfl
   ·exact hb
  ·rw[Qi1 (Qdx _ _ (Qask hn))];exact hn
 have hk:∀l,Q2w g w (g.newPer w.heap.size) (w.alloc x) l:=fun l b q hb=>⟨hb,Qdx _ _ (Qaff hs hb)⟩
 refine⟨hle,fun l _ hn=>⟨hn,fun b q hb=>hk l b q hb⟩,⟨fun b hb=>?_,hs.names,fun b y hb=>?_,hs.named,fun l=>SatObj.keep_all hs hle hk l⟩⟩
 ·simp only[World.size_alloc]at hb
  refine⟨?_,(hs.fresh b (by omega)).2⟩
  simp only[G.newPer]
  rw[if_neg (by omega)]
  exact (hs.fresh b (by omega)).1
 ·have hb':g.own b=some y:=hb
  simp only[G.newPer]
  have:=Qaff hs hb'
  rw[if_neg (by omega)]
  exact hs.excl b y hb'
theorem Qasn (hs:Sat H g w):Stp H g w H g w.drew:=by
 have hle:Le g w g w.drew:=⟨fun _ h=>⟨h,rfl⟩,fun _ _ h=>h,Nat.le_refl _,fun _ _ _ h=>h,rfl,rfl,rfl⟩
 have hk:∀l,Q2w g w g w.drew l:=fun l b q hb=>⟨hb,rfl⟩
 exact⟨hle,fun l _ hn=>⟨hn,fun b q hb=>hk l b q hb⟩,⟨hs.fresh,hs.names,hs.excl,hs.named,fun l=>SatObj.keep_all hs hle hk l⟩⟩
theorem Qafd (w:World)(cs:Array Value)(T:TypeId)(j:Nat):(w.alloc (.cells cs T)).cell? ⟨w.heap.size,j,none⟩=cs[j]?:=
 World.cell?_alloc_new w cs T j
theorem Qaei {v:V}{u:Value}(h:RepV w g v u)(hn:v.cells≠[]) :
  u.cells.size=v.cells.length∧∀(j:Nat) (c:C) (x:Value),v.cells[j]? = some c→u.cells[j]? = some x→RepC w g c x:=by
 cases h with
 |c x v h=>
  have h1:=h.one
  have hu:u.cells=#[u]:=by cases u <;> simp_all[Value.cells,Value.oneCell']
  rw[hu]
  refine⟨rfl,fun j c y e1 e2=>?_⟩
  cases j with
  |zero=>simp[V.cells]at e1 e2;subst e1;subst e2;exact h
  |succ j=>simp[V.cells]at e1
 |ag cs vs hl hh=>
  refine⟨by simpa[Value.cells,V.cells]using hl,fun j c y e1 e2=>hh j c y e1 (by simpa[Value.cells]using e2)⟩
 |_=>simp[V.cells]at hn
theorem Qblm {x:Opd}{x':Operand}{t:TypeId}(hm:o.op=.box t x')(hx:mO x x'=true)
  (hs:Sat H g w) (he:EnvOk w g e a) (hp:p=true) (ho:(FOp.box x).obl p e H):FOk P H g w e a o (.box x):=by
 simp only[FOp.obl]at ho
 obtain⟨h1,h2⟩:=ho
 have hr:=Qaa he hx hp h1
 obtain⟨hz,hc⟩:=Qaei hr h2
 have hst:=Qaor hs (.cells (a.eval x').cells t)
 refine⟨.pointer (some ⟨w.heap.size,0,none⟩),w.alloc (.cells (a.eval x').cells t),g.newPer w.heap.size,?_,hst,?_,trivial⟩
 ·simp[execOp,hm,Instr.box,newVar,newRow]
 ·simp only[FOp.val]
  have hget:∀(j:Nat) (c:C),(x.v e).cells[j]? = some c→∃y,(a.eval x').cells[j]? = some y∧RepC w g c y:=by
   intro j c hj
   have hlt:j<(a.eval x').cells.size:=by
    rw[hz]
    rcases Nat.lt_or_ge j (x.v e).cells.length with h|h
    ·exact h
    ·rw[List.getElem?_eq_none h]at hj;simp at hj
   exact⟨_,Array.getElem?_eq_getElem hlt,hc j c _ hj (Array.getElem?_eq_getElem hlt)⟩
  refine .c _ _ (.pp _ _ 0 (fun j=>(a.eval x').cells.getD j undef) (by simp[G.newPer]) (fun j c hj=>?_) (fun j c hj=>?_))
  ·obtain⟨y,e1,e2⟩:=hget j c hj
   rw[Nat.zero_add,Qafd]
   simp[e1]
  ·obtain⟨y,e1,e2⟩:=hget j c hj
   simp only[Array.getD_eq_getD_getElem?,e1,Option.getD_some]
   exact e2.mono hst.le
theorem Qbl0 {f:Nat}{caps:List Opd}{caps':Array Operand}(hm:o.op=.makeFunc (.func f) #[] caps')(hl:caps.length=caps'.size)
  (hx:∀(j:Nat) (x:Opd) (y:Operand),caps[j]? = some x→caps'[j]? = some y→mO x y=true)
  (hs:Sat H g w) (he:EnvOk w g e a) (hp:p=true) (ho:(FOp.mkf f caps).obl p e H):FOk P H g w e a o (.mkf f caps):=by
 simp only[FOp.obl]at ho
 refine .mk' hs (v:=.func (.func f) #[] (caps'.toList.map a.eval).toArray) ?_ ?_ trivial
 ·simp only[execOp,hm,Instr.makeFunc,Sem.run_bind,Sem.run_pure,Result.andThen_ok]
  congr 4 <;> (apply Array.ext';simp)
 ·simp only[FOp.val]
  refine .c _ _ (.fn f _ _ (by simp[hl]) fun j c u h1 h2=>?_)
  simp only[List.getElem?_map]at h1 h2
  cases hj:caps[j]? with
  |none=>rw[hj]at h1;simp at h1
  |some x=>
   rw[hj]at h1
   simp at h1;subst h1
   cases hj':caps'[j]? with
   |none=>simp[hj']at h2
   |some y=>
    simp[hj']at h2;subst h2
    obtain⟨f1,f2⟩:=ho x (List.mem_of_getElem? hj)
    have:=Qaa he (hx j x y hj hj') hp f1
    rw[Qdd f2]at this
    exact this.c_inv
end Go.AE

namespace Go.AE
variable {P:Program}{H:Heap}{g:G}{w:World}{e:Env}{a:Act}{o:Oper}{p:Bool}
def mOpt:Option Opd→Option Operand→Bool
 |none,none=>true
 |some x,some y=>mO x y
 |_,_=>false
theorem Qafe (he:EnvOk w g e a)(hp:p=true){x:Option Opd}{y:Option Operand}(h:mOpt x y=true)(hf:optF p x e)(hi:optI x e) :
  y.map a.eval=(x.map fun z=>Q0 (z.v e)).map fun n=>Value.int .i64 n:=by
 cases x with
 |none=>cases y with
  |none=>rfl
  |some _=>simp[mOpt]at h
 |some x=>cases y with
  |none=>simp[mOpt]at h
  |some y=>
   simp only[mOpt]at h
   simp only[optF]at hf
   simp only[optI]at hi
   simp only[Option.map_some,Qnj he h hp hf hi]
theorem Qq4 (isS:Bool)(len cap:Nat)(lo hi:Option Int)(hlc:len≤cap)(hb:bnds lo hi len)(w:World) :
  (Instr.sliceBounds isS len cap (lo.map fun n=>Value.int .i64 n) (hi.map fun n=>Value.int .i64 n) none).run P w=.ok ((lo.getD 0).toNat,(hi.getD len).toNat,cap) w:=by
 obtain⟨b1,b2,b3⟩:=hb
 unfold Instr.sliceBounds
 cases hi with
 |none=>
  cases lo with
  |none=>simp
  |some l=>
   simp only[Option.getD_some,Option.getD_none]at b1 b2 b3
   simp only[Option.map_some,Option.map_none,Sem.run_bind,Instr.sliceBound,asIntOf,Sem.run_pure,Result.andThen_ok]
   rw[if_pos (by omega)]
   simp
 |some h=>
  cases lo with
  |none=>
   simp only[Option.getD_some,Option.getD_none]at b1 b2 b3
   simp only[Option.map_some,Option.map_none,Sem.run_bind,Instr.sliceBound,asIntOf,Sem.run_pure,Result.andThen_ok]
   rw[if_pos (by omega)]
   simp
  |some l=>
   simp only[Option.getD_some]at b1 b2 b3
   simp only[Option.map_some,Sem.run_bind,Instr.sliceBound,asIntOf,Sem.run_pure,Result.andThen_ok]
   rw[if_pos (by omega)]
   simp only[Sem.run_pure,Result.andThen_ok]
   rw[if_pos (by omega)]
   simp
theorem Qbl3 {x:Opd}{lo hi:Option Opd}{x':Operand}{lo' hi':Option Operand}{t el:TypeId}{i:TypeInfo}{sz:Nat}(hm:o.op=.slice t x' lo' hi' none)(hu:P.underlying t=some (.slice el))
  (hi0:P.info? el=some i) (hz:i.size=sz) (hx:mO x x'=true) (hlo:mOpt lo lo'=true) (hhi:mOpt hi hi'=true)
  (hs:Sat H g w) (he:EnvOk w g e a) (hp:p=true) (ho:(FOp.sli sz x lo hi).obl p e H):FOk P H g w e a o (.sli sz x lo hi):=by
 simp only[FOp.obl]at ho
 obtain⟨h1,h2,h3,h4,h5,h6,h7,h8,hb⟩:=ho
 have hr:=Qaa he hx hp h1
 have el:=Qafe he hp hlo h2 h4
 have eh:=Qafe he hp hhi h3 h5
 generalize hL:(lo.map fun z=>Q0 (z.v e))=L at *
 generalize hU:(hi.map fun z=>Q0 (z.v e))=U at *
 rw[Qdd h6]at hr
 generalize hq:a.eval x'=vv at hr
 have run:∀(ad:Option Addr) (len cap:Nat),vv=.slice ad len cap→len≤cap→bnds L U len→
   (execOp a.eval o).run P w=.ok (.value (.slice (if cap=(L.getD 0).toNat then ad else ad.map (·.add ((L.getD 0).toNat * sz))) ((U.getD len).toNat-(L.getD 0).toNat) (cap-(L.getD 0).toNat))) w:=by
  intro ad len cap hv hlc hbb
  simp only[execOp,hm,hq,hv,Instr.sliceAt,Sem.run_bind,Qx hu,Result.andThen_ok,el,eh,Option.map_none,Instr.slice,Qq4 (P:=P) true len cap L U hlc hbb w,Qat hi0,hz,Sem.run_pure]
 have fin:∀r v,(execOp a.eval o).run P w=.ok (.value v) w→RepC w g r v→sliC L U (x.v e).c1=r→FOk P H g w e a o (.sli sz x lo hi):=by
  intro r v h1 h2 h3
  refine .mk' hs h1 ?_ trivial
  simp only[FOp.val,hL,hU,h3]
  exact .c _ _ h2
 generalize hc:(x.v e).c1=cc at *
 have hcc:=hr.c_inv
 cases hcc with
 |slnil fl sz' ad=>
  have hb':bnds L U 0:=hb
  have hb2:=hb'
  obtain⟨b1,b2,b3⟩:=hb2
  refine fin (sliC L U (.sl fl sz' [])) _ (run ad 0 0 rfl (Nat.le_refl _) hb') ?_ rfl
  have e1:(L.getD 0).toNat=0:=by omega
  have e2:(U.getD ((0:Nat):Int)).toNat=0:=by omega
  simp only[e1,e2,sliC]
  simp
  exact .slnil _ _ _
 |sl fl sz' rows b off cap val hl hf hcap hper hrw hce hva=>
  simp only[lenC]at hb
  simp only[C.elemSz]at h8
  subst h8
  obtain⟨b1,b2,b3⟩:=hb
  refine fin (sliC L U (.sl fl sz' rows)) _ (run _ _ cap rfl hcap ⟨b1,b2,b3⟩) ?_ rfl
  simp only[sliC]
  generalize hln:(L.getD 0).toNat=ln
  generalize hun:(U.getD (rows.length:Int)).toNat=un
  have q1:ln≤un:=by omega
  have q2:un≤rows.length:=by omega
  have hlen:((rows.take un).drop ln).length=un-ln:=by simp;omega
  have hrow:∀(i:Nat) (row:List C),((rows.take un).drop ln)[i]? = some row→rows[ln+i]? = some row:=by
   intro i row hi
   simp only[List.getElem?_drop,List.getElem?_take]at hi
   split at hi
   ·exact hi
   ·simp at hi
  by_cases hcl:cap=ln
  ·rw[if_pos hcl]
   have hnil:(rows.take un).drop ln=[]:=List.length_eq_zero_iff.1 (by omega)
   have q3:un-ln=0:=by omega
   have q4:cap-ln=0:=by omega
   rw[hnil,q3,q4]
   exact RepC.sl _ _ [] b off 0 val (by simp[Ql8]) (by simp) (by simp) hper (by simp) (by simp) (by simp)
  ·rw[if_neg hcl]
   simp only[Option.map_some,Qba]
   rw[←hlen]
   refine .sl _ _ _ b _ _ (fun i j=>val (ln+i) j) (by rw[hlen];omega) (fun hfl=>?_) (by rw[hlen];omega) hper (fun i row h=>hrw _ _ (hrow i row h)) (fun i row j c h hj=>?_) (fun i row j c h hj=>hva _ _ _ _ (hrow i row h) hj)
   ·rw[Bool.and_eq_true]at hfl
    rcases Bool.or_eq_true _ _▸hfl.2 with h0|h0
    ·have:U=none:=by simpa using h0
     subst this
     simp at hun
     rw[hlen,hf hfl.1];omega
    ·have:rows=[]:=by simpa using h0
     subst this
     have:=hf hfl.1
     simp at this q2
     omega
   ·have:=hce _ _ _ _ (hrow i row h) hj
    rw[←this]
    congr 2
    rw[Nat.add_mul];omega
 |vslnil l sz' st ad=>
  have hb':bnds L U 0:=hb
  have hb2:=hb'
  obtain⟨b1,b2,b3⟩:=hb2
  refine fin (sliC L U (.vsl l sz' st 0)) _ (run ad 0 0 rfl (Nat.le_refl _) hb') ?_ rfl
  have e1:(L.getD 0).toNat=0:=by omega
  have e2:(U.getD ((0:Nat):Int)).toNat=0:=by omega
  simp only[e1,e2,sliC]
  simp
  exact .vslnil _ _ _ _
 |vsl l sz' st n cap b base T m hio hn hsh hmm=>
  simp only[lenC]at hb
  simp only[C.elemSz]at h8
  subst h8
  obtain⟨b1,b2,b3⟩:=hb
  refine fin (sliC L U (.vsl l sz' st n)) _ (run _ _ cap rfl hn ⟨b1,b2,b3⟩) ?_ rfl
  simp only[sliC]
  generalize hln:(L.getD 0).toNat=ln
  generalize hun:(U.getD (n:Int)).toNat=un
  by_cases hcl:cap=ln
  ·rw[if_pos hcl]
   have q3:un-ln=0:=by omega
   have q4:cap-ln=0:=by omega
   rw[q3,q4]
   exact .vslnil _ _ _ _
  ·rw[if_neg hcl]
   simp only[Option.map_some,Qba]
   have:base+st * sz'+ln * sz'=base+(st+ln) * sz':=by rw[Nat.add_mul];omega
   rw[this]
   refine .vsl _ _ _ _ _ b base T m hio (by omega) hsh ?_
   have:st+ln+(cap-ln)=st+cap:=by omega
   rw[this];exact hmm
 |_=>simp[Qy4]at h7
theorem Qbkl {x:Opd}{lo hi:Option Opd}{x':Operand}{lo' hi':Option Operand}{t:TypeId}(hm:o.op=.slice t x' lo' hi' none)(hu:P.underlying t=some .string)
  (hx:mO x x'=true) (hlo:mOpt lo lo'=true) (hhi:mOpt hi hi'=true)
  (hs:Sat H g w) (he:EnvOk w g e a) (hp:p=true) (ho:(FOp.slis x lo hi).obl p e H):FOk P H g w e a o (.slis x lo hi):=by
 simp only[FOp.obl]at ho
 obtain⟨h1,h2,h3,h4,h5,hb⟩:=ho
 have hr:=Qaa he hx hp h1
 have el:=Qafe he hp hlo h2 h4
 have eh:=Qafe he hp hhi h3 h5
 generalize hL:(lo.map fun z=>Q0 (z.v e))=L at *
 generalize hU:(hi.map fun z=>Q0 (z.v e))=U at *
 split at hb
 ·rename_i s hv
  rw[hv]at hr
  obtain⟨hq,hl⟩:=hr.c_inv.str_inv
  have hex:(⟨s.toArray⟩:ByteArray).extract (L.getD 0).toNat (U.getD s.length).toNat=⟨((s.take (U.getD s.length).toNat).drop (L.getD 0).toNat).toArray⟩:=by
   apply ByteArray.ext
   apply Array.ext'
   simp[List.extract_eq_take_drop,List.drop_take]
  refine .mk' hs (v:=.string ⟨((s.take (U.getD s.length).toNat).drop (L.getD 0).toNat).toArray⟩) ?_ ?_ trivial
  ·simp only[execOp,hm,hq,Instr.sliceAt,Sem.run_bind,Qx hu,Result.andThen_ok,el,eh,Option.map_none,Instr.slice,Qasl,Sem.run_pure]
   simp only[Option.isSome_none,Bool.false_eq_true,if_false,Sem.run_bind,Sem.run_pure,Result.andThen_ok]
   rw[Qq4 (P:=P) false s.length s.length L U (Nat.le_refl _) hb w]
   simp[hex]
  ·simp only[FOp.val,hv,hL,hU]
   refine .c _ _ (.str _ ?_)
   simp;omega
 ·exact hb.elim
theorem Qbls {sz n:Nat}{x y:Opd}{x' y':Operand}{t el:TypeId}{i:TypeInfo}(hm:o.op=.indexAddr t x' y')(hu:P.underlying t=some (.array n el))
  (hi:P.info? el=some i) (hz:i.size=sz) (hx:mO x x'=true) (hy:mO y y'=true)
  (hs:Sat H g w) (he:EnvOk w g e a) (hp:p=true) (ho:(FOp.iaa sz n x y).obl p e H):FOk P H g w e a o (.iaa sz n x y):=by
 simp only[FOp.obl]at ho
 obtain⟨h1,h2,h6,h7,h8,h9⟩:=ho
 have hr:=Qaa he hx hp h1
 have hn:=Qnj he hy hp h2 h6
 split at h9
 ·rename_i l k hv
  rw[hv]at hr
  have hrc:=hr.c_inv
  generalize hq:a.eval x'=xv at hrc
  cases hrc with
  |ptr _ _ b s base hio=>
   refine .mk' hs (v:=.pointer (some ⟨b,base+k+(Q0 (y.v e)).toNat * sz,none⟩)) ?_ ?_ trivial
   ·simp only[execOp,hm,hq,hn,Instr.indexAt,Sem.run_bind,asIntOf,Sem.run_pure,Result.andThen_ok,Qx hu,Instr.sureAddr]
    rw[if_pos ⟨h7,h8⟩]
    simp[Qat hi,hz,Qba]
   ·simp only[FOp.val,hv]
    have e:base+k+(Q0 (y.v e)).toNat * sz=base+(k+(Q0 (y.v e)).toNat * sz):=by omega
    rw[e]
    exact .c _ _ (.ptr l _ b s base hio)
 ·exact h9.elim
theorem Qbli {n:Nat}{x:Opd}{x':Operand}{t el:TypeId}{i:TypeInfo}(hm:o.op=.slice t x' none none none)(hu2:P.underlying t=some (.array n el))
  (hi:P.info? el=some i) (hx:mO x x'=true)
  (hs:Sat H g w) (he:EnvOk w g e a) (hp:p=true) (ho:(FOp.asl n x).obl p e H):FOk P H g w e a o (.asl n x):=by
 simp only[FOp.obl]at ho
 obtain⟨h1,h2⟩:=ho
 have hr:=Qaa he hx hp h1
 split at h2
 ·rename_i l k hv
  split at h2
  ·rename_i cells hH
   rw[hv]at hr
   have hrc:=hr.c_inv
   generalize hq:a.eval x'=xv at hrc
   have hob:=hs.objs l
   rw[hH]at hob
   obtain⟨b',sz',T,cs,k1,_⟩:=hob
   cases hrc with
   |ptr _ _ b sz base hio=>
    rw[hio]at k1
    simp only[Option.some.injEq,Prod.mk.injEq]at k1
    obtain⟨rfl,rfl,rfl⟩:=k1
    refine .mk' hs (v:=.slice (some ⟨b,k,none⟩) n n) ?_ ?_ trivial
    ·have ha:(⟨b,0+k,none⟩:Addr)=⟨b,k,none⟩:=by rw[Nat.zero_add]
     rw[ha]at hq
     by_cases hn:n=0
     ·subst hn
      simp[execOp,hm,hq,Instr.sliceAt,Qx hu2,Instr.sureAddr,Instr.sliceBounds,Qat hi,Sem.run_pure]
     ·simp[execOp,hm,hq,Instr.sliceAt,Qx hu2,Instr.sureAddr,Instr.sliceBounds,Qat hi,Sem.run_pure,hn,Qba]
    ·simp only[FOp.val,hv]
     exact .asl l k n b sz hio
  ·exact h2.elim
 ·exact h2.elim
theorem Qblw {n b l:Nat}{t:TypeId}{d:TypeDesc}{i:TypeInfo}(hm:o.op=.load t (.global b))(hu:P.underlying t=some d)(hi:P.info? t=some i)(ha:Qmk d=true)(hn:i.size=n)
  (hs:Sat H g w) (ho:(FOp.ldg n b l).obl p e H):FOk P H g w e a o (.ldg n b l):=by
 simp only[FOp.obl]at ho
 split at ho
 ·rename_i b' cells hH
  obtain⟨rfl,h2⟩:=ho
  have hob:=hs.objs l
  rw[hH]at hob
  obtain⟨s,val,k1,k2,k3,k4⟩:=hob
  have hq:a.eval (.global b')=.pointer (some ⟨b',0,none⟩):=rfl
  have hc:∀j,j<n→w.cell? ⟨b',0+j,none⟩=some (val j):=fun j hj=>by
   rw[Nat.zero_add];exact k3 j _ (List.getElem?_eq_getElem (by omega))
  have hr:=Qaft hu hi w b' 0 n val (fun _=>hn) (fun h=>by rw[ha]at h;simp at h) hc
  refine .mk' hs (v:=.agg ((List.range n).map val).toArray) ?_ ?_ trivial
  ·simp only[execOp,hm,hq,Instr.loadAt,Instr.sureAddr,Sem.run_bind,Sem.run_pure,Result.andThen_ok,hr,ha,if_true]
  ·simp only[FOp.val,hH]
   refine .ag _ _ (by simp;omega) fun j c u h1 h2=>?_
   rw[List.getElem?_take]at h1
   split at h1
   ·rename_i hj
    simp[hj]at h2
    subst h2
    exact k4 j c h1
   ·simp at h1
 ·exact ho.elim
theorem Qblx {b l:Nat}{t:TypeId}{d:TypeDesc}{i:TypeInfo}(hm:o.op=.load t (.global b))(hu:P.underlying t=some d)(hi:P.info? t=some i)(ha:Qmk d=false)
  (hs:Sat H g w) (ho:(FOp.ldo b l).obl p e H):FOk P H g w e a o (.ldo b l):=by
 simp only[FOp.obl]at ho
 split at ho
 ·rename_i b' cells hH
  obtain⟨rfl,h2⟩:=ho
  have hob:=hs.objs l
  rw[hH]at hob
  obtain⟨s,val,k1,k2,k3,k4⟩:=hob
  have hq:a.eval (.global b')=.pointer (some ⟨b',0,none⟩):=rfl
  have h0:cells[0]? = some (cells.headD .unk):=by
   cases cells with
   |nil=>simp at h2
   |cons c r=>rfl
  have hc:∀j,j<1→w.cell? ⟨b',0+j,none⟩=some (val j):=fun j hj=>by
   obtain rfl:j=0:=by omega
   exact k3 0 _ h0
  have hr:=Qaft hu hi w b' 0 1 val (fun h=>by rw[ha]at h;simp at h) (fun _=>rfl) hc
  refine .mk' hs (v:=val 0) ?_ ?_ trivial
  ·simp only[execOp,hm,hq,Instr.loadAt,Instr.sureAddr,Sem.run_bind,Sem.run_pure,Result.andThen_ok,hr,ha]
   simp
  ·simp only[FOp.val,hH]
   exact .c _ _ (k4 0 _ h0)
 ·exact ho.elim
theorem Qbka {n b l:Nat}{t el:TypeId}{i:TypeInfo}(hm:o.op=.slice t (.global b) none none none)(hu2:P.underlying t=some (.array n el))(hi0:P.info? el=some i)
  (hs:Sat H g w) (ho:(FOp.aslg n b l).obl p e H):FOk P H g w e a o (.aslg n b l):=by
 simp only[FOp.obl]at ho
 split at ho
 ·rename_i b' cells hH
  obtain⟨rfl,h2,h3⟩:=ho
  have hob:=hs.objs l
  rw[hH]at hob
  obtain⟨s,val,k1,k2,k3,k4⟩:=hob
  have hq:a.eval (.global b')=.pointer (some ⟨b',0,none⟩):=rfl
  have hlen:((cells.take n).map fun c=>[c]).length=n:=by simp;omega
  have hrow:∀(k:Nat) (row:List C),((cells.take n).map fun c=>[c])[k]? = some row→∃c,row=[c]∧cells[k]? = some c:=by
   intro k row hk
   rw[List.getElem?_map,List.getElem?_take]at hk
   split at hk
   ·cases hcc:cells[k]? with
    |none=>rw[hcc]at hk;simp at hk
    |some c=>rw[hcc]at hk;simp at hk;exact⟨c,hk.symm,rfl⟩
   ·simp at hk
  refine .mk' hs (v:=.slice (some ⟨b',0,none⟩) n n) ?_ ?_ trivial
  ·by_cases hn:n=0
   ·subst hn
    simp[execOp,hm,hq,Instr.sliceAt,Qx hu2,Instr.sureAddr,Instr.sliceBounds,Qat hi0,Sem.run_pure]
   ·simp[execOp,hm,hq,Instr.sliceAt,Qx hu2,Instr.sureAddr,Instr.sliceBounds,Qat hi0,Sem.run_pure,hn,Qba]
  ·simp only[FOp.val,hH]
   have:=RepC.sl (w:=w) (g:=g) true 1 ((cells.take n).map fun c=>[c]) b' 0 n (fun k _=>val k) (by rw[hlen];omega) (fun _=>hlen.symm) (by rw[hlen];omega) k2
    (fun k row hk=>by obtain⟨c,rfl,_⟩:=hrow k row hk;rfl)
    (fun k row j c hk hj=>by
     obtain⟨c',rfl,hc'⟩:=hrow k row hk
     cases j with
     |zero=>simpa using k3 k c' hc'
     |succ j=>simp at hj)
    (fun k row j c hk hj=>by
     obtain⟨c',rfl,hc'⟩:=hrow k row hk
     cases j with
     |zero=>simp at hj;subst hj;exact k4 k _ hc'
     |succ j=>simp at hj)
   rw[hlen]at this
   exact .c _ _ this
 ·exact ho.elim
theorem Qblu {sz n:Nat}{x y:Opd}{x' y':Operand}{t el:TypeId}{d:TypeDesc}{i:TypeInfo}(hm:o.op=.index t x' y')(hu:P.underlying t=some (.array n el))
  (hd:P.underlying el=some d) (ha:Qmk d=true) (hi:P.info? el=some i) (hz:i.size=sz) (hx:mO x x'=true) (hy:mO y y'=true)
  (hs:Sat H g w) (he:EnvOk w g e a) (hp:p=true) (ho:(FOp.iax sz n x y).obl p e H):FOk P H g w e a o (.iax sz n x y):=by
 simp only[FOp.obl]at ho
 obtain⟨h1,h2,h6,h7,h8,h9,h10⟩:=ho
 have hr:=Qaa he hx hp h1
 have hn:=Qnj he hy hp h2 h6
 have hv:∃cs,x.v e=.ag cs:=by cases hv:x.v e <;> simp_all[V.isAg]
 obtain⟨cs,hv⟩:=hv
 rw[hv]at hr h10
 simp only[V.cells]at h10
 obtain⟨vs,hq,hl,hh⟩:=hr.ag_inv
 refine .mk' hs (v:=.agg ((vs.drop ((Q0 (y.v e)).toNat * sz)).take sz).toArray) ?_ ?_ trivial
 ·simp only[execOp,hm,hq,hn,Instr.index,Sem.run_bind,asIntOf,Sem.run_pure,Result.andThen_ok,Qx hu]
  rw[if_pos ⟨h7,h8⟩]
  simp only[Sem.run_bind,Qat hi,hz,Result.andThen_ok,part,Qap5 hd,ha,if_true,Sem.run_pure]
  congr 4
  apply Array.ext';simp[List.extract_eq_take_drop,List.drop_take]
 ·simp only[FOp.val,hv,V.cells]
  refine .ag _ _ (by simp[hl]) fun j c u h1 h2=>?_
  simp only[List.getElem?_take,List.getElem?_drop]at h1 h2
  split at h1
  ·rename_i hj;rw[if_pos hj]at h2;exact hh _ _ _ h1 h2
  ·simp at h1
theorem Qbkb {n:Nat}{x:Opd}{x':Operand}{hi:Option Opd}{hi':Option Operand}{t el:TypeId}{i:TypeInfo}(hm:o.op=.slice t x' none hi' none)(hu2:P.underlying t=some (.array n el))
  (hi0:P.info? el=some i) (hx:mO x x'=true) (hhi:mOpt hi hi'=true)
  (hs:Sat H g w) (he:EnvOk w g e a) (hp:p=true) (ho:(FOp.aslp n x hi).obl p e H):FOk P H g w e a o (.aslp n x hi):=by
 simp only[FOp.obl]at ho
 obtain⟨h1,h3,h5,hb,hlim,h2⟩:=ho
 have hr:=Qaa he hx hp h1
 have eh:=Qafe he hp hhi h3 h5
 have hnone:(hi.map fun z=>Q0 (z.v e)).isNone=hi.isNone:=by cases hi <;> rfl
 split at h2
 ·rename_i cells hv
  rw[hv]at hr
  have hrc:=hr.c_inv
  generalize hq:a.eval x'=xv at hrc
  cases hrc with
  |pp _ b off val hper hc hva=>
   have hval:(FOp.aslp n x hi).val e H=.c (.sl hi.isNone 1 ((cells.take ((hi.map fun x=>Q0 (x.v e)).getD n).toNat).map fun c=>[c])):=by simp only[FOp.val,hv]
   rw[←hnone]at hval
   generalize hU:(hi.map fun z=>Q0 (z.v e))=U at *
   have hrun:=Qq4 (P:=P) false n n none U (Nat.le_refl _) hb w
   have hb0:=hb
   obtain⟨b1,b2,b3⟩:=hb0
   simp only[Option.getD_none,Option.map_none]at b1 b2 b3 hrun
   have e0:(U.getD (n:Int)).toNat≤n:=by omega
   refine .mk' hs (v:=.slice (some ⟨b,off,none⟩) (U.getD n).toNat n) ?_ ?_ trivial
   ·simp only[execOp,hm,hq,Instr.sliceAt,Sem.run_bind,Qx hu2,Result.andThen_ok,Instr.sureAddr,Sem.run_pure,eh,Option.map_none,hrun,Qat hi0]
    have ha:(⟨b,off,none⟩:Addr).add (0 * i.size)=⟨b,off,none⟩:=by rw[Nat.zero_mul,Qba,Nat.add_zero]
    by_cases hn:n=0
    ·subst hn;simp
    ·simp[hn,ha]
     try rw[Qba,Nat.add_zero]
   ·rw[hval]
    have hlen:((cells.take (U.getD (n:Int)).toNat).map fun c=>[c]).length=(U.getD (n:Int)).toNat:=by simp;omega
    have hrow:∀(k:Nat) (row:List C),((cells.take (U.getD (n:Int)).toNat).map fun c=>[c])[k]? = some row→∃c,row=[c]∧cells[k]? = some c:=by
     intro k row hk
     rw[List.getElem?_map,List.getElem?_take]at hk
     split at hk
     ·cases hcc:cells[k]? with
      |none=>rw[hcc]at hk;simp at hk
      |some c=>rw[hcc]at hk;simp at hk;exact⟨c,hk.symm,rfl⟩
     ·simp at hk
    have:=RepC.sl (w:=w) (g:=g) U.isNone 1 ((cells.take (U.getD (n:Int)).toNat).map fun c=>[c]) b off n (fun k _=>val k) (by rw[hlen];omega)
     (fun hu=>by
      have:U=none:=by simpa using hu
      subst this
      rw[hlen];simp) (by rw[hlen];omega) hper (fun k row hk=>by obtain⟨c,rfl,_⟩:=hrow k row hk;rfl)
     (fun k row j c hk hj=>by
      obtain⟨c',rfl,hc'⟩:=hrow k row hk
      cases j with
      |zero=>simp only[Nat.mul_one,Nat.add_zero];exact hc k c' hc'
      |succ j=>simp at hj)
     (fun k row j c hk hj=>by
      obtain⟨c',rfl,hc'⟩:=hrow k row hk
      cases j with
      |zero=>simp at hj;subst hj;exact hva k c' hc'
      |succ j=>simp at hj)
    rw[hlen]at this
    exact .c _ _ this
 ·exact h2.elim
theorem Qa21 {r:List C}(h:Qbcw r=true):∃n,r=[.int .u8 n]:=by
 unfold Qbcw at h
 split at h
 ·exact⟨_,rfl⟩
 ·cases h
def Qbcx:List C→Int
 |.int _ n::_=>n
 |_=>0
theorem Qblj {x:Opd}{x':Operand}{src dst el:TypeId}(hm:o.op=.convert src dst x')(hu:P.underlying dst=some .string)(hu1:P.underlying src=some (.slice el))(hu2:P.underlying el=some (.int .u8))(hx:mO x x'=true)
  (hs:Sat H g w) (he:EnvOk w g e a) (hp:p=true) (ho:(FOp.b2s x).obl p e H):FOk P H g w e a o (.b2s x):=by
 simp only[FOp.obl]at ho
 obtain⟨h1,h2⟩:=ho
 have hr:=Qaa he hx hp h1
 split at h2
 ·rename_i fl z rows hv
  obtain⟨rfl,h3⟩:=h2
  rw[hv]at hr
  have hrc:=hr.c_inv
  have hval:(FOp.b2s x).val e H=.c (.str (rows.map Qa7z)):=by simp only[FOp.val,hv]
  generalize hq:a.eval x'=xv at hrc
  cases hrc with
  |slnil _ _ ad=>
   refine .mk' hs (v:=.string ⟨([]:List UInt8).toArray⟩) ?_ ?_ trivial
   ·simp only[execOp,hm,hq,Sem.run_bind]
    rw[run_convert_bytes_string w src dst el ad 0 0 hu1 hu2 hu]
    cases ad with
    |none=>rfl
    |some ad=>
     have:=run_bytesToString (P:=P) w ad 0 0 [] (run_loadCells_list (P:=P) w ad [] fun j v hj=>by simp at hj)
     rw[this];rfl
   ·rw[hval];exact .c _ _ (.str [] (by simp[LIM]))
  |sl _ _ _ b off cap val hl hf hcap hper hrw hce hva=>
   have hxs:∀i,i<rows.length→w.cell? ⟨b,off+i,none⟩=some (.int .u8 ((rows.map Qbcx).getD i 0)):=by
    intro i hi
    have hri:rows[i]? = some rows[i]:=List.getElem?_eq_getElem hi
    obtain⟨n,hn⟩:=Qa21 (List.all_eq_true.1 h3 _ (List.getElem_mem hi))
    rw[hn]at hri
    have e1:=hce i _ 0 (.int .u8 n) hri rfl
    have e2:=(hva i _ 0 (.int .u8 n) hri rfl).int_inv
    rw[Nat.mul_one,Nat.add_zero]at e1
    rw[e1,e2]
    simp[List.getD_eq_getElem?_getD,hri,Qbcx]
   refine .mk' hs (v:=.string ⟨(rows.map Qa7z).toArray⟩) ?_ ?_ trivial
   ·have:=run_convert_bytes_arg w src el hu1 hu2 b off rows.length cap (rows.map Qbcx) (by simp) hxs dst hu
    have e3:strOfNums (rows.map Qbcx)=⟨(rows.map Qa7z).toArray⟩:=by
     unfold strOfNums
     congr 2
     rw[List.map_map]
     refine List.map_congr_left fun r hr=>?_
     obtain⟨n,rfl⟩:=Qa21 (List.all_eq_true.1 h3 r hr)
     rfl
    rw[e3]at this
    simp only[execOp,hm,hq,Sem.run_bind,this,Result.andThen_ok,Sem.run_pure]
   ·rw[hval];exact .c _ _ (.str _ (by simpa using hl))
 ·exact h2.elim
theorem Qbl4 {sz:Nat}{x hi:Opd}{x' h1' h2':Operand}{t el:TypeId}{i:TypeInfo}(hm:o.op=.slice t x' none (some h1') (some h2'))(hu:P.underlying t=some (.slice el))
  (hi0:P.info? el=some i) (hx:mO x x'=true) (hh1:mO hi h1'=true) (hh2:mO hi h2'=true)
  (hs:Sat H g w) (he:EnvOk w g e a) (hp:p=true) (ho:(FOp.slm sz x hi).obl p e H):FOk P H g w e a o (.slm sz x hi):=by
 simp only[FOp.obl]at ho
 obtain⟨h1,h2,h3,h4,h5⟩:=ho
 have hr:=Qaa he hx hp h1
 have e1:=Qnj he hh1 hp h2 h3
 have e2:=Qnj he hh2 hp h2 h3
 split at h5
 ·rename_i fl z rows hv
  obtain⟨rfl,h6⟩:=h5
  rw[hv]at hr
  have hrc:=hr.c_inv
  have hval:(FOp.slm z x hi).val e H=.c (.sl true z (rows.take (Q0 (hi.v e)).toNat)):=by simp only[FOp.val,hv]
  generalize Q0 (hi.v e)=n at *
  obtain⟨n,rfl⟩:=Int.eq_ofNat_of_zero_le h4
  have h7:n≤rows.length:=by omega
  simp only[Int.toNat_natCast]at hval
  generalize hq:a.eval x'=xv at hrc
  have run:∀(ad:Option Addr) (len cap:Nat),xv=.slice ad len cap→n≤cap→
    (execOp a.eval o).run P w=.ok (.value (.slice (if n=0 then ad else ad.map (·.add (0 * i.size))) n n)) w:=by
   intro ad len cap hxv hcap
   have hb:(Instr.sliceBounds true len cap none (some (.int .i64 (n:Int))) (some (.int .i64 (n:Int)))).run P w=.ok (0,n,n) w:=by
    unfold Instr.sliceBounds
    simp only[Sem.run_bind,Instr.sliceBound,asIntOf,Sem.run_pure,Result.andThen_ok]
    rw[if_pos ⟨Int.natCast_nonneg _,by omega⟩]
    simp only[Sem.run_pure,Result.andThen_ok,Int.toNat_natCast]
    rw[if_pos ⟨Int.natCast_nonneg _,Int.le_refl _⟩]
    simp only[Sem.run_pure,Result.andThen_ok,Int.toNat_natCast]
   simp only[execOp,hm,hq,hxv,Instr.sliceAt,Sem.run_bind,Qx hu,Result.andThen_ok,e1,e2,Option.map_some,Option.map_none,Instr.slice,hb,Qat hi0,Sem.run_pure,Nat.sub_zero]
  cases hrc with
  |slnil _ _ ad=>
   have h0:n=0:=by simpa using h7
   subst h0
   refine .mk' hs (run ad 0 0 rfl (Nat.le_refl _)) ?_ trivial
   rw[hval]
   exact .c _ _ (.slnil _ _ _)
  |sl _ _ _ b off cap val hl hf hcap hper hrw hce hva=>
   refine .mk' hs (run _ _ cap rfl (by omega)) ?_ trivial
   rw[hval]
   have ha:(if n=0 then (some ⟨b,off,none⟩:Option Addr)else (some ⟨b,off,none⟩:Option Addr).map (·.add (0 * i.size)))=some ⟨b,off,none⟩:=by
    split
    ·rfl
    ·simp only[Option.map_some,Nat.zero_mul,Qba,Nat.add_zero]
   rw[ha]
   have hlen:(rows.take n).length=n:=by simp;omega
   have hrow:∀(k:Nat) (row:List C),(rows.take n)[k]? = some row→rows[k]? = some row:=by
    intro k row hk
    rw[List.getElem?_take]at hk
    split at hk
    ·exact hk
    ·simp at hk
   have:=RepC.sl (w:=w) (g:=g) true z (rows.take n) b off n val (by rw[hlen];omega) (fun _=>by rw[hlen]) (by rw[hlen];exact Nat.le_refl _) hper (fun k row hk=>hrw _ _ (hrow k row hk))
    (fun k row j c hk hj=>hce _ _ _ _ (hrow k row hk) hj) (fun k row j c hk hj=>hva _ _ _ _ (hrow k row hk) hj)
   rw[hlen]at this
   exact .c _ _ this
 ·exact h5.elim
theorem Qblr {off n:Nat}{agg:Bool}{x:Opd}{x':Operand}{s:TypeId}{k:Nat}{fs:Array Field}{f:Field}{i:TypeInfo}{d:TypeDesc}(hm:o.op=.field s x' k)(hu:P.underlying s=some (.struct fs))
  (hf:fs[k]? = some f) (hoff:f.offset=off) (hi:P.info? f.type=some i) (hd:P.underlying f.type=some d) (ha:Qmk d=agg) (hn:agg=true→i.size=n) (hn1:agg=false→n=1) (hx:mO x x'=true)
  (hs:Sat H g w) (he:EnvOk w g e a) (hp:p=true) (ho:(FOp.fld off n agg x).obl p e H):FOk P H g w e a o (.fld off n agg x):=by
 simp only[FOp.obl]at ho
 obtain⟨h1,h2,h3⟩:=ho
 have hr:=Qaa he hx hp h1
 have hv:∃cs,x.v e=.ag cs:=by cases hv:x.v e <;> simp_all[V.isAg]
 obtain⟨cs,hv⟩:=hv
 rw[hv]at hr h3
 simp only[V.cells]at h3
 obtain⟨vs,hq,hl,hh⟩:=hr.ag_inv
 cases agg with
 |true=>
  have hz:=hn rfl
  refine .mk' hs (v:=.agg ((vs.drop off).take n).toArray) ?_ ?_ trivial
  ·simp only[execOp,hm,hq,Instr.field,Sem.run_bind,Qx hu,Result.andThen_ok,hf,asAgg,Sem.run_pure,part,Qap5 hd,ha,if_true,Qat hi,hz,hoff]
   congr 4
   apply Array.ext';simp[List.extract_eq_take_drop,List.drop_take]
  ·simp only[FOp.val,Qax8,hv,V.cells,if_true]
   refine .ag _ _ (by simp;omega) fun j c u h1 h2=>?_
   simp only[List.getElem?_take,List.getElem?_drop]at h1 h2
   split at h1
   ·rename_i hj;rw[if_pos hj]at h2;exact hh _ _ _ h1 h2
   ·simp at h1
 |false=>
  have hz:=hn1 rfl
  subst hz
  have hlt:off<vs.length:=by omega
  refine .mk' hs (v:=vs[off]) ?_ ?_ trivial
  ·simp only[execOp,hm,hq,Instr.field,Sem.run_bind,Qx hu,Result.andThen_ok,hf,asAgg,Sem.run_pure,part,Qap5 hd,ha,hoff]
   simp[hlt]
  ·simp only[FOp.val,Qax8,hv,V.cells,Bool.false_eq_true,if_false]
   have hlt':off<cs.length:=by omega
   have:((cs.drop off).take 1).headD .unk=cs[off]:=by
    rw[List.drop_eq_getElem_cons hlt'];rfl
   rw[this]
   exact .c _ _ (hh off _ _ (List.getElem?_eq_getElem hlt') (List.getElem?_eq_getElem hlt))
end Go.AE

namespace Go.AE
variable {P:Program}{H:Heap}{g:G}{w:World}{e:Env}{a:Act}{o:Oper}{p:Bool}
theorem Qqt (off:Nat):∀(vs:List Value) (s:Nat) (cs:Array Value) (k:Nat),off+s+vs.length≤cs.size→
  ((vs.zipIdx s).foldl (fun (cs:Array Value) (x:Value×Nat)=>cs.setIfInBounds (off+x.2) x.1) cs).size=cs.size∧
  ((vs.zipIdx s).foldl (fun (cs:Array Value) (x:Value×Nat)=>cs.setIfInBounds (off+x.2) x.1) cs)[k]? =
   if off+s≤k∧k<off+s+vs.length then vs[k-(off+s)]? else cs[k]?
 |[],s,cs,k,_=>by
  refine⟨rfl,?_⟩
  rw[if_neg (by simp only[List.length_nil];omega)];rfl
 |v::vs,s,cs,k,h=>by
  simp only[List.length_cons]at h
  have ih:=Qqt off vs (s+1) (cs.setIfInBounds (off+s) v) k (by simp;omega)
  simp only[List.zipIdx_cons,List.foldl_cons]
  refine⟨by rw[ih.1];simp,?_⟩
  rw[ih.2]
  simp only[List.length_cons]
  by_cases h1:off+(s+1)≤k∧k<off+(s+1)+vs.length
  ·rw[if_pos h1,if_pos (by omega)]
   have:k-(off+s)=(k-(off+(s+1)))+1:=by omega
   rw[this,List.getElem?_cons_succ]
  ·rw[if_neg h1]
   by_cases h2:k=off+s
   ·subst h2
    rw[if_pos (by omega)]
    simp only[Nat.sub_self,List.getElem?_cons_zero]
    rw[Array.getElem?_setIfInBounds_self_of_lt (by omega)]
   ·rw[if_neg (by omega),Array.getElem?_setIfInBounds_ne (by omega)]
theorem Qa27 {place:Nat→Option (Nat×Nat)}{cells:Array Value}{i off sz:Nat}{v:Value}{rest:List (Nat×Value)}(hp:place i=some (off,sz))(hz:v.cells.size=sz)
  (hb:off+sz≤cells.size):∃cs:Array Value,Instr.fill place cells ((i,v)::rest)=Instr.fill place cs rest∧cs.size=cells.size∧
   ∀k,cs[k]? = if off≤k∧k<off+sz then v.cells[k-off]? else cells[k]?:=by
 have hf:=fun k=>Qqt off v.cells.toList 0 cells k (by simp;omega)
 refine⟨v.cells.zipIdx.foldl (fun (cs:Array Value) (x:Value×Nat)=>cs.setIfInBounds (off+x.2) x.1) cells,?_,?_,fun k=>?_⟩
 ·simp only[Instr.fill,hp]
  rw[if_neg (by simp;omega)]
 ·rw[←Array.foldl_toList,Array.toList_zipIdx];exact (hf 0).1
 ·rw[←Array.foldl_toList,Array.toList_zipIdx,(hf k).2]
  simp only[Nat.add_zero,Array.length_toList,hz,Array.getElem?_toList]
def RepL (w:World)(g:G)(cs:List C)(vs:Array Value):Prop:=
 vs.size=cs.length∧∀(j:Nat) (c:C) (u:Value),cs[j]? = some c→vs[j]? = some u→RepC w g c u
theorem RepL.put {cs ps:List C}{vs us vs':Array Value}{off:Nat}(h:RepL w g cs vs)(hp:RepL w g ps us)(hb:off+ps.length≤cs.length)(hsz:vs'.size=vs.size)
  (hv:∀k,vs'[k]? = if off≤k∧k<off+ps.length then us[k-off]? else vs[k]?) :
  RepL w g (cs.take off++ps++cs.drop (off+ps.length)) vs':=by
 refine⟨by rw[hsz,h.1];simp;omega,fun j c u h1 h2=>?_⟩
 rw[hv]at h2
 by_cases hj:off≤j∧j<off+ps.length
 ·rw[if_pos hj]at h2
  rw[List.append_assoc,List.getElem?_append_right (by simp;omega),List.getElem?_append_left (by simp;omega)]at h1
  refine hp.2 _ c u ?_ h2
  rw[←h1];congr 1;simp;omega
 ·rw[if_neg hj]at h2
  refine h.2 j c u ?_ h2
  by_cases hl:j<off
  ·rw[List.append_assoc,List.getElem?_append_left (by simp;omega),List.getElem?_take,if_pos hl]at h1
   exact h1
  ·rw[List.getElem?_append_right (by simp;omega),List.getElem?_drop]at h1
   rw[←h1];congr 1;simp;omega
def Qbgg:C→Value→Bool
 |.int k n,.int k' n'=>k == k'&&n == n'
 |.bool b,.bool b'=>b == b'
 |.str [],.string b=>decide (b.data.toList=[])
 |.sl _ _ [],.slice none 0 0=>true
 |.pnil,.pointer none=>true
 |.mnil,.map none=>true
 |.fnil,.nilFunc=>true
 |_,_=>false
theorem Qaxf {c:C}{v:Value}(h:Qbgg c v=true):RepC w g c v:=by
 unfold Qbgg at h
 split at h
 ·simp at h;obtain⟨rfl,rfl⟩:=h;exact .int _ _
 ·simp at h;subst h;exact .bool _
 ·rename_i b
  have hb:b=⟨([]:List UInt8).toArray⟩:=by
   apply ByteArray.ext;apply Array.ext';simpa using h
  rw[hb];exact .str _ (by simp[Ql8])
 ·exact .slnil _ _ _
 ·exact .pnil
 ·exact .mnil
 ·exact .fnil
 ·simp at h
def Qani (cs:List C)(v:Value):Bool:=cs.length == v.cells.size&&(cs.zip v.cells.toList).all fun x=>Qbgg x.1 x.2
theorem Qm7 {cs:List C}{v:Value}(h:Qani cs v=true):RepL w g cs v.cells:=by
 unfold Qani at h
 rw[Bool.and_eq_true,List.all_eq_true]at h
 obtain⟨h1,h2⟩:=h
 refine⟨by simpa using (beq_iff_eq.1 h1).symm,fun j c u e1 e2=>Qaxf (h2 (c,u) ?_)⟩
 have:(cs.zip v.cells.toList)[j]? = some (c,u):=by
  rw[List.getElem?_zip_eq_some];exact⟨e1,by simpa using e2⟩
 exact List.mem_of_getElem? this
theorem Qhc {t:TypeId}{i:TypeInfo}{z:Value}(hi:P.info? t=some i)(hz:i.zero=some z)(w:World):(zeroValue t).run P w=.ok z w:=by
 simp[zeroValue,Qij hi,hz]
theorem Qap8 (fs:List Field)(h:∀f∈fs,∃i,P.info? f.type=some i)(w:World) :
  (fs.mapM fun f=>(do pure (f.offset,←sizeOf f.type):Sem (Nat×Nat))).run P w=.ok (fs.map fun f=>(f.offset,P.cellsOf f.type)) w:=by
 induction fs with
 |nil=>simp
 |cons f fs ih=>
  obtain⟨i,hi⟩:=h f (by simp)
  have ih':=ih fun f hf=>h f (by simp[hf])
  simp only[List.mapM_cons,Sem.run_bind,Qat hi,Result.andThen_ok,Sem.run_pure,ih',List.map_cons,Qasy hi]
theorem Qant (place:Nat→Option (Nat×Nat)):∀(parts:List (Nat×Nat×List C)) (ps:List (Nat×Value)) (cells:Array Value) (cs:List C),
  RepL w g cs cells→ps.length=parts.length→
  (∀(j:Nat) (x:Nat×Nat×List C) (y:Nat×Value),parts[j]? = some x→ps[j]? = some y→place y.1=some (x.1,x.2.1)∧x.2.2.length=x.2.1∧x.1+x.2.1≤cs.length∧RepL w g x.2.2 y.2.cells)→
  ∃out,Instr.fill place cells ps=some out∧RepL w g (Q3i cs (parts.map fun x=>(x.1,x.2.2))) out
 |[],[],cells,cs,h,_,_=>⟨cells,rfl,h⟩
 |[],y::ps,_,_,_,hl,_=>by simp at hl
 |x::parts,[],_,_,_,hl,_=>by simp at hl
 |x::parts,(i,v)::ps,cells,cs,h,hl,hh=>by
  obtain⟨h1,h2,h3,h4⟩:=hh 0 x (i,v) rfl rfl
  obtain⟨cs',f1,f2,f3⟩:=Qa27 (rest:=ps) (cells:=cells) h1 (by rw[h4.1,h2]) (by rw[h.1];exact h3)
  have hr:RepL w g (cs.take x.1++x.2.2++cs.drop (x.1+x.2.2.length)) cs':=h.put h4 (by rw[h2];exact h3) f2 (by rw[h2];exact f3)
  obtain⟨out,o1,o2⟩:=Qant place parts ps cs' _ hr (by simpa using hl) (fun j x' y' e1 e2=>by
   obtain⟨q1,q2,q3,q4⟩:=hh (j+1) x' y' (by simpa using e1) (by simpa using e2)
   refine⟨q1,q2,?_,q4⟩
   have:(cs.take x.1++x.2.2++cs.drop (x.1+x.2.2.length)).length=cs.length:=by simp;omega
   rw[this];exact q3)
  exact⟨out,f1.trans o1,by simpa[Q3i]using o2⟩
theorem Qlz {v:V}{u:Value}(h:RepV w g v u)(hn:v.cells≠[]):RepL w g v.cells u.cells:=Qaei h hn
theorem Qbll {zero:List C}{parts:List (Nat×Nat×Opd)}{t:TypeId}{parts':Array (Nat×Operand)}{fs:Array Field}{i:TypeInfo}{z:Value}
  (hm:o.op=.build t parts') (hu:P.underlying t=some (.struct fs)) (hi:P.info? t=some i) (hz:i.zero=some z) (hzero:Qani zero z=true)
  (hfs:∀f∈fs.toList,∃i,P.info? f.type=some i) (hl:parts.length=parts'.size)
  (hx:∀(j:Nat) (x:Nat×Nat×Opd) (y:Nat×Operand),parts[j]? = some x→parts'[j]? = some y→
   mO x.2.2 y.2=true∧(∃f,fs[y.1]? = some f∧f.offset=x.1∧P.cellsOf f.type=x.2.1)∧x.1+x.2.1≤zero.length∧x.2.1≠0)
  (hs:Sat H g w) (he:EnvOk w g e a) (hp:p=true) (ho:(FOp.bld zero parts).obl p e H):FOk P H g w e a o (.bld zero parts):=by
 simp only[FOp.obl]at ho
 have hlen:(parts'.toList.map fun (x:Nat×Operand)=>(x.1,a.eval x.2)).length=(parts.map fun q=>(q.1,q.2.1,(q.2.2.v e).cells)).length:=by simp[hl]
 obtain⟨out,f1,f2⟩:=Qant (w:=w) (g:=g) (fun (j:Nat)=>(fs.toList.map fun f=>(f.offset,P.cellsOf f.type))[j]?) (parts.map fun q=>(q.1,q.2.1,(q.2.2.v e).cells))
  (parts'.toList.map fun (x:Nat×Operand)=>(x.1,a.eval x.2)) z.cells zero (Qm7 hzero) hlen (fun j x y e1 e2=>by
   simp only[List.getElem?_map]at e1 e2
   cases hj:parts[j]? with
   |none=>rw[hj]at e1;simp at e1
   |some q=>
    cases hj':parts'.toList[j]? with
    |none=>rw[hj']at e2;simp at e2
    |some y'=>
     rw[hj]at e1;rw[hj']at e2
     simp only[Option.map_some,Option.some.injEq]at e1 e2
     subst e1;subst e2
     obtain⟨m1,⟨f,m2,m3,m4⟩,m5,m6⟩:=hx j q y' hj (by simpa using hj')
     obtain⟨o1,o2⟩:=ho q (List.mem_of_getElem? hj)
     refine⟨?_,o2,m5,Qlz (Qaa he m1 hp o1) (fun hn=>m6 (by rw[←o2,hn];rfl))⟩
     simp only[List.getElem?_map,Array.getElem?_toList,m2,Option.map_some,m3,m4])
 have hmap:(fs.mapM fun f=>(do pure (f.offset,←sizeOf f.type):Sem (Nat×Nat))).run P w=.ok ((fs.toList.map fun f=>(f.offset,P.cellsOf f.type)).toArray) w:=by
  rw[Array.mapM_eq_mapM_toList]
  simp only[Sem.run_map,Qap8 fs.toList hfs w,Result.andThen_ok]
 refine .mk' hs (v:=.agg out) ?_ ?_ trivial
 ·simp only[execOp,hm,Instr.build,Sem.run_bind,Qhc hi hz,Result.andThen_ok,Qx hu,hmap]
  have:(fun (x:Nat)=>((fs.toList.map fun f=>(f.offset,P.cellsOf f.type)).toArray)[x]?)=(fun (j:Nat)=>(fs.toList.map fun f=>(f.offset,P.cellsOf f.type))[j]?):=by
   funext j;simp
  rw[this]
  have hpt:(parts'.map fun (x:Nat×Operand)=>(x.1,a.eval x.2)).toList=parts'.toList.map fun (x:Nat×Operand)=>(x.1,a.eval x.2):=by simp
  rw[hpt,f1]
  simp
 ·simp only[FOp.val]
  have hout:out=out.toList.toArray:=by simp
  rw[hout]
  refine .ag _ _ ?_ ?_
  ·have:=f2.1;simp only[List.map_map,Function.comp_def]at this;simpa using this
  ·intro j c u h1 h2
   refine f2.2 j c u ?_ (by simpa using h2)
   simpa only[List.map_map,Function.comp_def]using h1
theorem Qaer (size:Nat):∀(ps:List (Nat×Value)) (s:Nat) (cells:Array Value),(∀(j:Nat) (y:Nat×Value),ps[j]? = some y→y.1=s+j∧y.2.cells.size=size)→
  (s+ps.length) * size≤cells.size→
  ∃out:Array Value,Instr.fill (fun i=>some (i * size,size)) cells ps=some out∧out.size=cells.size∧
   (∀k,k<s * size→out[k]? = cells[k]?)∧
   ∀(j:Nat) (y:Nat×Value) (k:Nat),ps[j]? = some y→k<size→out[(s+j) * size+k]? = y.2.cells[k]?
 |[],s,cells,_,_=>⟨cells,rfl,rfl,fun _ _=>rfl,by simp⟩
 |(i,v)::ps,s,cells,h,hb=>by
  obtain⟨h1,h2⟩:=h 0 (i,v) rfl
  simp only[Nat.add_zero]at h1 h2
  subst h1
  have hb':(i+1+ps.length) * size≤cells.size:=by
   have e:i+((i,v)::ps).length=i+1+ps.length:=by simp only[List.length_cons];omega
   rw[e]at hb;exact hb
  have hone:i * size+size≤cells.size:=by
   have:(i+1) * size≤(i+1+ps.length) * size:=Nat.mul_le_mul_right _ (by omega)
   rw[Nat.add_mul,Nat.one_mul]at this
   omega
  obtain⟨cs,f1,f2,f3⟩:=Qa27 (place:=fun i=>some (i * size,size)) (rest:=ps) (cells:=cells) (i:=i) (v:=v) rfl h2 hone
  obtain⟨out,o1,o2,o3,o4⟩:=Qaer size ps (i+1) cs (fun j y hj=>by
   have:=h (j+1) y (by simpa using hj)
   exact⟨by rw[this.1];omega,this.2⟩) (by rw[f2];exact hb')
  refine⟨out,f1.trans o1,o2.trans f2,fun k hk=>?_,fun j y k hj hk=>?_⟩
  ·rw[o3 k (by rw[Nat.add_mul];omega),f3 k,if_neg (by omega)]
  ·cases j with
   |zero=>
    simp at hj;subst hj
    simp only[Nat.add_zero]
    rw[o3 _ (by rw[Nat.add_mul];omega),f3 _,if_pos (by omega)]
    congr 1;omega
   |succ j=>
    have:=o4 j y k (by simpa using hj) hk
    rw[←this]
    congr 3;omega
theorem Qbln {sz:Nat}{parts:List Opd}{t el:TypeId}{n:Nat}{parts':Array (Nat×Operand)}{i:TypeInfo}{z:Value}
  (hm:o.op=.buildSlice t n parts') (hu:P.underlying t=some (.slice el)) (hi:P.info? el=some i) (hz:i.zero=some z) (hsz:i.size=sz) (hsz0:sz≠0)
  (hn:n=parts'.size) (hbig:n * sz≤2 ^ 24) (hl:parts.length=parts'.size)
  (hx:∀(j:Nat) (x:Opd) (y:Nat×Operand),parts[j]? = some x→parts'[j]? = some y→y.1=j∧mO x y.2=true)
  (hs:Sat H g w) (he:EnvOk w g e a) (hp:p=true) (ho:(FOp.bsl sz parts).obl p e H):FOk P H g w e a o (.bsl sz parts):=by
 simp only[FOp.obl]at ho
 have hpt:(parts'.map fun (x:Nat×Operand)=>(x.1,a.eval x.2)).toList=parts'.toList.map fun (x:Nat×Operand)=>(x.1,a.eval x.2):=by simp
 have hget:∀(j:Nat) (y:Nat×Value),(parts'.toList.map fun (x:Nat×Operand)=>(x.1,a.eval x.2))[j]? = some y→
   ∃x y',parts[j]? = some x∧parts'[j]? = some y'∧y=(y'.1,a.eval y'.2):=by
  intro j y hj
  simp only[List.getElem?_map]at hj
  cases hj':parts'.toList[j]? with
  |none=>rw[hj']at hj;simp at hj
  |some y'=>
   rw[hj']at hj;simp at hj
   have hlt:j<parts.length:=by
    rw[hl]
    rcases Nat.lt_or_ge j parts'.size with h|h
    ·exact h
    ·simp[Array.getElem?_eq_none h]at hj'
   exact⟨_,y',List.getElem?_eq_getElem hlt,by simpa using hj',hj.symm⟩
 have hrow:∀x∈parts,x.fine p e∧(x.v e).cells.length=sz∧(x.v e).cells≠[]:=fun x hx=>by
  obtain⟨q1,q2⟩:=ho x hx
  exact⟨q1,q2,fun hn=>hsz0 (by rw[←q2,hn];rfl)⟩
 have hlen0:(parts'.toList.map fun (x:Nat×Operand)=>(x.1,a.eval x.2)).length=n:=by simp[hn]
 obtain⟨out,f1,f2,f3,f4⟩:=Qaer sz (parts'.toList.map fun (x:Nat×Operand)=>(x.1,a.eval x.2)) 0
  ((Array.range (n * sz)).map ((if n * sz=0 then #[]else z.cells)[· % (if n * sz=0 then #[]else z.cells).size]!)) (fun j y hj=>by
   obtain⟨x,y',e1,e2,rfl⟩:=hget j y hj
   obtain⟨q1,q2⟩:=hx j x y' e1 e2
   obtain⟨q3,q4,q5⟩:=hrow x (List.mem_of_getElem? e1)
   refine⟨by simp[q1],?_⟩
   rw[(Qlz (Qaa he q2 hp q3) q5).1,q4]) (by rw[hlen0];simp)
 have hst:=Qaor hs (.cells out el)
 refine⟨.slice (some ⟨w.heap.size,0,none⟩) n n,w.alloc (.cells out el),g.newPer w.heap.size,?_,hst,?_,trivial⟩
 ·simp only[execOp,hm,Instr.buildSlice,Sem.run_bind,Qx hu,Result.andThen_ok,Qat hi,hsz,hpt]
  rw[if_neg (by omega)]
  by_cases h0:n * sz=0
  ·simp only[if_pos h0]at f1⊢
   simp only[Sem.run_bind,Sem.run_pure,Result.andThen_ok]
   rw[f1]
   simp[newRow]
  ·simp only[if_neg h0]at f1⊢
   simp only[Sem.run_bind,Sem.run_pure,Result.andThen_ok,Qhc hi hz]
   rw[f1]
   simp[newRow]
 ·simp only[FOp.val]
  have hlenp:(parts.map fun x=>(x.v e).cells).length=n:=by simp[hl,hn]
  refine .c _ _ ?_
  have hgl:∀(k:Nat) (row:List C),(parts.map fun x=>(x.v e).cells)[k]? = some row→∃x y,parts[k]? = some x∧parts'[k]? = some y∧row=(x.v e).cells:=by
   intro k row hk
   simp only[List.getElem?_map]at hk
   cases hj:parts[k]? with
   |none=>rw[hj]at hk;simp at hk
   |some x=>
    rw[hj]at hk;simp at hk
    have hlt:k<parts'.size:=by
     rw[←hl]
     rcases Nat.lt_or_ge k parts.length with h|h
     ·exact h
     ·rw[List.getElem?_eq_none h]at hj;simp at hj
    exact⟨x,parts'[k],rfl,Array.getElem?_eq_getElem hlt,hk.symm⟩
  have hcell:∀(k:Nat) (row:List C) (j:Nat) (c:C),(parts.map fun x=>(x.v e).cells)[k]? = some row→row[j]? = some c→∃u,out[0+k * sz+j]? = some u∧RepC w g c u:=by
   intro k row j c hk hj
   obtain⟨x,y,e1,e2,rfl⟩:=hgl k row hk
   obtain⟨q1,q2⟩:=hx k x y e1 e2
   obtain⟨q3,q4,q5⟩:=hrow x (List.mem_of_getElem? e1)
   have hr:=Qlz (Qaa he q2 hp q3) q5
   have hjlt:j<sz:=by
    rw[←q4]
    rcases Nat.lt_or_ge j (x.v e).cells.length with h|h
    ·exact h
    ·rw[List.getElem?_eq_none h]at hj;simp at hj
   have hj2:j<(a.eval y.2).cells.size:=by rw[hr.1,q4];exact hjlt
   have:=f4 k (y.1,a.eval y.2) j (by simp only[List.getElem?_map,Array.getElem?_toList,e2,Option.map_some]) hjlt
   simp only[Nat.zero_add]at this⊢
   rw[this]
   exact⟨_,Array.getElem?_eq_getElem hj2,hr.2 j c _ hj (Array.getElem?_eq_getElem hj2)⟩
  have:=RepC.sl (w:=w.alloc (.cells out el)) (g:=g.newPer w.heap.size) true sz (parts.map fun x=>(x.v e).cells) w.heap.size 0 n (fun k j=>out.getD (0+k * sz+j) undef)
   (by rw[hlenp,Ql8]
       have hn1:n * 1≤n * sz:=Nat.mul_le_mul_left _ (by omega)
       have h24:(2:Nat) ^ 24=16777216:=by decide
       rw[h24]at hbig
       omega) (fun _=>hlenp.symm) (by rw[hlenp];exact Nat.le_refl _) (by simp[G.newPer])
   (fun k row hk=>by obtain⟨x,y,e1,e2,rfl⟩:=hgl k row hk;exact (hrow x (List.mem_of_getElem? e1)).2.1)
   (fun k row j c hk hj=>by
    obtain⟨u,e1,e2⟩:=hcell k row j c hk hj
    rw[Qafd,Array.getD_eq_getD_getElem?,e1];rfl)
   (fun k row j c hk hj=>by
    obtain⟨u,e1,e2⟩:=hcell k row j c hk hj
    simp only[Array.getD_eq_getD_getElem?,e1,Option.getD_some]
    exact e2.mono hst.le)
  rw[hlenp]at this
  exact this
end Go.AE

namespace Go.AE
open Go.MapKept (IsKey findNow_spec run_checkKey run_findKey run_keyThatStays)
variable {P:Program}{H:Heap}{g:G}{w:World}{e:Env}{a:Act}{o:Oper}{p:Bool}
def tagD:Nat→TypeDesc
 |0=>.int .i64
 |1=>.string
 |_=>.bool
theorem Q5l {tag:Nat}{k:C}{es:List (C×V)}(h:Qoa tag k es){v:Value}(hr:RepC w g k v):IsKey (tagD tag) v:=by
 unfold Qoa at h
 split at h
 ·rw[hr.int_inv];simp[tagD,IsKey]
 ·rw[hr.str_inv.1];simp[tagD,IsKey]
 ·rw[hr.bool_inv];simp[tagD,IsKey]
 ·exact h.elim
theorem Qbd6 {tag:Nat}{k:C}{es:List (C×V)}(h:Qoa tag k es){x:C×V}(hx:x∈es){v:Value}(hr:RepC w g x.1 v):IsKey (tagD tag) v:=by
 unfold Qoa at h
 split at h
 ·obtain⟨n,hn⟩:=h x hx;rw[hn]at hr;rw[hr.int_inv];simp[tagD,IsKey]
 ·obtain⟨n,hn⟩:=h x hx;rw[hn]at hr;rw[hr.str_inv.1];simp[tagD,IsKey]
 ·obtain⟨n,hn⟩:=h x hx;rw[hn]at hr;rw[hr.bool_inv];simp[tagD,IsKey]
 ·exact h.elim
theorem Qa3f {tag:Nat}{k:C}{es:List (C×V)}(h:Qoa tag k es){x:C×V}(hx:x∈es){u v:Value}(hr:RepC w g k u)(hr':RepC w g x.1 v) :
  Qgs k x.1=true↔v=u:=by
 unfold Qoa at h
 split at h
 ·obtain⟨n,hn⟩:=h x hx;rw[hn]at hr'⊢;rw[hr'.int_inv,hr.int_inv];simp only[Qgs,decide_eq_true_eq,Value.int.injEq,true_and];exact eq_comm
 ·obtain⟨n,hn⟩:=h x hx;rw[hn]at hr'⊢;rw[hr'.str_inv.1,hr.str_inv.1];simp only[Qgs,decide_eq_true_eq,Value.string.injEq,ByteArray.mk.injEq,Array.mk.injEq];exact eq_comm
 ·obtain⟨n,hn⟩:=h x hx;rw[hn]at hr'⊢;rw[hr'.bool_inv,hr.bool_inv];simp only[Qgs,beq_iff_eq,Value.bool.injEq];exact eq_comm
 ·exact h.elim
theorem Qa28:∀(es:List (C×V)) (k:C) (j:Nat) (x:C×V),es[j]? = some x→Qgs k x.1=true→(∀i y,i<j→es[i]? = some y→Qgs k y.1=false)→Qf5 k es=some x.2
 |[],_,_,_,h,_,_=>by simp at h
 |y::es,k,0,x,h,hk,_=>by simp at h;subst h;simp[Qf5,hk]
 |y::es,k,j+1,x,h,hk,hh=>by
  have h0:=hh 0 y (by omega) rfl
  simp only[Qf5,h0,Bool.false_eq_true,if_false]
  exact Qa28 es k j x (by simpa using h) hk fun i z hi hz=>hh (i+1) z (by omega) (by simpa using hz)
theorem Qanu:∀(es:List (C×V)) (k:C),(∀x∈es,Qgs k x.1=false)→Qf5 k es=none
 |[],_,_=>rfl
 |y::es,k,h=>by
  simp only[Qf5,h y (by simp),Bool.false_eq_true,if_false]
  exact Qanu es k fun x hx=>h x (by simp[hx])
theorem Qxb {tag:Nat}{k:C}{es:List (C×V)}{ms:Array MapEntry}(hok:Qoa tag k es){kv:Value}(hk:RepC w g k kv)(hsz:ms.size=es.length)
  (hE:∀(i:Nat) (x:C×V) (m:MapEntry),es[i]? = some x→ms[i]? = some m→RepE w g x m)
  (hd:∀(i j:Nat) (m m':MapEntry),ms[i]? = some m→ms[j]? = some m'→(m.born=m'.born∨m.key=m'.key)→i=j) :
  (Instr.findNow (tagD tag) kv ms.toList 0=some none∧Qf5 k es=none∧∀x∈es,Qgs k x.1=false)∨
  ∃j m x,Instr.findNow (tagD tag) kv ms.toList 0=some (some (j,m.val))∧ms[j]? = some m∧m.key=kv∧es[j]? = some x∧Qf5 k es=some x.2∧Qgs k x.1=true∧
   ∀i y,i<j→es[i]? = some y→Qgs k y.1=false:=by
 have pair:∀(i:Nat) (m:MapEntry),ms[i]? = some m→∃x,es[i]? = some x:=by
  intro i m hm
  have:i<es.length:=by
   rw[←hsz]
   rcases Nat.lt_or_ge i ms.size with h|h
   ·exact h
   ·rw[Array.getElem?_eq_none h]at hm;simp at hm
  exact⟨_,List.getElem?_eq_getElem this⟩
 have pair':∀(i:Nat) (x:C×V),es[i]? = some x→∃m,ms[i]? = some m:=by
  intro i x hx
  have:i<ms.size:=by
   rw[hsz]
   rcases Nat.lt_or_ge i es.length with h|h
   ·exact h
   ·rw[List.getElem?_eq_none h]at hx;simp at hx
  exact⟨_,Array.getElem?_eq_getElem this⟩
 have hkeys:∀m∈ms.toList,IsKey (tagD tag) m.key:=by
  intro m hm
  obtain⟨i,hi⟩:=List.getElem?_of_mem hm
  obtain⟨x,hx⟩:=pair i m (by simpa using hi)
  exact Qbd6 hok (List.mem_of_getElem? hx) (hE i x m hx (by simpa using hi)).1
 rcases findNow_spec (Q5l hok hk) ms.toList 0 hkeys with ⟨h1,h2⟩|⟨j,m,h1,h2,h3⟩
 ·have hno:∀x∈es,Qgs k x.1=false:=by
   intro x hx
   obtain⟨i,hi⟩:=List.getElem?_of_mem hx
   obtain⟨m,hm⟩:=pair' i x hi
   have:=h2 m (by have:=List.mem_of_getElem? (l:=ms.toList) (i:=i) (a:=m) (by simpa using hm);exact this)
   cases hq:Qgs k x.1 with
   |false=>rfl
   |true=>exact absurd ((Qa3f hok hx hk (hE i x m hi hm).1).1 hq) this
  exact .inl ⟨h1,Qanu es k hno,hno⟩
 ·have hm:ms[j]? = some m:=by simpa using h2
  obtain⟨x,hx⟩:=pair j m hm
  have hq:=(Qa3f hok (List.mem_of_getElem? hx) hk (hE j x m hx hm).1).2 h3
  have hfirst:∀i y,i<j→es[i]? = some y→Qgs k y.1=false:=by
   intro i y hi hy
   obtain⟨m',hm'⟩:=pair' i y hy
   cases hq':Qgs k y.1 with
   |false=>rfl
   |true=>
    have e1:=(Qa3f hok (List.mem_of_getElem? hy) hk (hE i y m' hy hm').1).1 hq'
    have:=hd i j m' m hm' hm (.inr (e1.trans h3.symm))
    omega
  exact .inr ⟨j,m,x,by simpa using h1,hm,h3,hx,Qa28 es k j x hx hq hfirst,hq,hfirst⟩
def Qa7r:V→Value→Bool
 |.c x,v=>Qbgg x v
 |.ag cs,.agg vs=>Qani cs (.agg vs)
 |_,_=>false
theorem Qqc {x:V}{v:Value}(h:Qa7r x v=true):RepV w g x v:=by
 unfold Qa7r at h
 split at h
 ·exact .c _ _ (Qaxf h)
 ·rename_i cs vs
  have:=Qm7 (w:=w) (g:=g) h
  obtain⟨h1,h2⟩:=this
  have hv:vs=vs.toList.toArray:=by simp
  rw[hv]
  exact .ag cs vs.toList (by simpa[Value.cells]using h1) fun j c u e1 e2=>h2 j c u e1 (by simpa[Value.cells]using e2)
 ·simp at h
theorem Qblz {tag:Nat}{zero:V}{x k:Opd}{x' k':Operand}{t kt et:TypeId}{i:TypeInfo}{z:Value}(hm:o.op=.lookup t x' k' false)(hu:P.underlying t=some (.map kt et))
  (hk:P.underlying kt=some (tagD tag)) (hi:P.info? et=some i) (hz:i.zero=some z) (hzero:Qa7r zero z=true) (hx:mO x x'=true) (hk':mO k k'=true)
  (hs:Sat H g w) (he:EnvOk w g e a) (hp:p=true) (ho:(FOp.lup tag zero x k).obl p e H):FOk P H g w e a o (.lup tag zero x k):=by
 simp only[FOp.obl]at ho
 obtain⟨h1,h2,h3,h4,h5,h6⟩:=ho
 have hr:=Qaa he hx hp h1
 have hrk:=Qaa he hk' hp h2
 rw[Qdd h3]at hr
 rw[Qdd h4]at hrk
 have hkc:=hrk.c_inv
 have hkey:=Q5l h6 hkc
 have hrm:(v:Value)→(Qf5 (k.v e).c1 (Q7 H (x.v e).c1)).getD zero=(FOp.lup tag zero x k).val e H:=fun _=>rfl
 generalize hcc:(x.v e).c1=cc at *
 generalize hkk:(k.v e).c1=kc at *
 have hcr:=hr.c_inv
 generalize heq:a.eval x'=xv at hcr hr
 have hcr0:=hcr
 cases hcr with
 |mp l b hio=>
  simp only[Qxv]at h5
  split at h5
  ·rename_i n es hH
   have hob:=hs.objs l
   rw[hH]at hob
   obtain⟨b',ms,clock,k1,k2,k3,k4,k5,k6,k7,k8⟩:=hob
   rw[hio]at k1
   simp only[Option.some.injEq,Prod.mk.injEq,and_true]at k1
   subst k1
   simp only[Q7,hH]at h6
   have hgo:(getObj b).run P w=.ok (.map ms clock) w:=by simp[getObj,Sem.run,k3]
   rcases Qxb h6 hkc k4 k6 k8 with ⟨f1,f2,f3⟩|⟨j,m,y,f1,f2,f3,f4,f5,f6,f7⟩
   ·refine .mk' hs (v:=z) ?_ ?_ trivial
    ·simp only[execOp,hm,heq,Instr.lookup,Sem.run_bind,Qx hu,Result.andThen_ok,hgo,Sem.run_pure,run_checkKey hk hkey _ 9999,run_findKey hk f1,Qhc hi hz]
     simp
    ·simp only[FOp.val,hcc,hkk,Q7,hH,f2,Option.getD_none]
     exact Qqc hzero
   ·refine .mk' hs (v:=m.val) ?_ ?_ trivial
    ·simp only[execOp,hm,heq,Instr.lookup,Sem.run_bind,Qx hu,Result.andThen_ok,hgo,Sem.run_pure,run_checkKey hk hkey _ 9999,run_findKey hk f1]
     simp
    ·simp only[FOp.val,hcc,hkk,Q7,hH,f5,Option.getD_some]
     exact (k6 j y m f4 f2).2
  ·exact h5.elim
 |cm _ _ _ b0=>
  obtain⟨b,ms,clock,q1,q2,q3,q4,q5,q6⟩:=Qa74 (H:=H) hcr0
  simp only[Value.map.injEq,Option.some.injEq]at q1
  subst q1
  have hgo:(getObj b0).run P w=.ok (.map ms clock) w:=by simp only[getObj,Sem.run,q2]
  rcases Qxb h6 hkc q3 q5 q6 with ⟨f1,f2,f3⟩|⟨j,m,y,f1,f2,f3,f4,f5,f6,f7⟩
  ·refine .mk' hs (v:=z) ?_ ?_ trivial
   ·simp only[execOp,hm,heq,Instr.lookup,Sem.run_bind,Qx hu,Result.andThen_ok,hgo,Sem.run_pure,run_checkKey hk hkey _ 9999,run_findKey hk f1,Qhc hi hz]
    simp
   ·simp only[FOp.val,hcc,hkk,f2,Option.getD_none]
    exact Qqc hzero
  ·refine .mk' hs (v:=m.val) ?_ ?_ trivial
   ·simp only[execOp,hm,heq,Instr.lookup,Sem.run_bind,Qx hu,Result.andThen_ok,hgo,Sem.run_pure,run_checkKey hk hkey _ 9999,run_findKey hk f1]
    simp
   ·simp only[FOp.val,hcc,hkk,f5,Option.getD_some]
    exact (q5 j y m f4 f2).2
 |mnil=>
  refine .mk' hs (v:=z) ?_ ?_ trivial
  ·have hfn:Instr.findNow (tagD tag) (a.eval k') ([]:List MapEntry) 0=some none:=rfl
   have hfk:=run_findKey (P:=P) (w:=w) (kt:=kt) (k:=a.eval k') (l:=[]) hk hfn
   simp only[execOp,hm,heq,Instr.lookup,Sem.run_bind,Qx hu,Result.andThen_ok,Sem.run_pure,run_checkKey hk hkey _ 9999,hfk,Qhc hi hz]
   simp
  ·simp only[FOp.val,hcc,hkk,Q7,Qf5,Option.getD_none]
   exact Qqc hzero
 |_=>simp[Qxv]at h5
theorem Qbkj {tag:Nat}{zero:V}{x k:Opd}{x' k':Operand}{t kt et:TypeId}{i:TypeInfo}{z:Value}(hm:o.op=.lookup t x' k' true)(hu:P.underlying t=some (.map kt et))
  (hk:P.underlying kt=some (tagD tag)) (hi:P.info? et=some i) (hz:i.zero=some z) (hzero:Qa7r zero z=true) (hx:mO x x'=true) (hk':mO k k'=true)
  (hs:Sat H g w) (he:EnvOk w g e a) (hp:p=true) (ho:(FOp.lup2 tag zero x k).obl p e H):FOk P H g w e a o (.lup2 tag zero x k):=by
 simp only[FOp.obl]at ho
 obtain⟨h1,h2,h3,h4,h5,h6⟩:=ho
 have hr:=Qaa he hx hp h1
 have hrk:=Qaa he hk' hp h2
 rw[Qdd h3]at hr
 rw[Qdd h4]at hrk
 have hkc:=hrk.c_inv
 have hkey:=Q5l h6 hkc
 have two:∀{y:V} {v:Value} {b:Bool},RepV w g y v→RepV w g (.tup [y,.c (.bool b)]) (.tuple #[v,.bool b]):=fun {y v b} h=>
  .tup [y,.c (.bool b)] [v,.bool b] rfl fun j x u e1 e2=>by
   match j with
   |0=>cases e1;cases e2;exact h
   |1=>cases e1;cases e2;exact .c _ _ (.bool b)
   |j+2=>simp at e1
 generalize hcc:(x.v e).c1=cc at *
 generalize hkk:(k.v e).c1=kc at *
 have hcr:=hr.c_inv
 generalize heq:a.eval x'=xv at hcr hr
 have hcr0:=hcr
 cases hcr with
 |mp l b hio=>
  simp only[Qxv]at h5
  split at h5
  ·rename_i n es hH
   have hob:=hs.objs l
   rw[hH]at hob
   obtain⟨b',ms,clock,k1,k2,k3,k4,k5,k6,k7,k8⟩:=hob
   rw[hio]at k1
   simp only[Option.some.injEq,Prod.mk.injEq,and_true]at k1
   subst k1
   simp only[Q7,hH]at h6
   have hgo:(getObj b).run P w=.ok (.map ms clock) w:=by simp[getObj,Sem.run,k3]
   rcases Qxb h6 hkc k4 k6 k8 with ⟨f1,f2,f3⟩|⟨j,m,y,f1,f2,f3,f4,f5,f6,f7⟩
   ·refine .mk' hs (v:=.tuple #[z,.bool false]) ?_ ?_ trivial
    ·simp only[execOp,hm,heq,Instr.lookup,Sem.run_bind,Qx hu,Result.andThen_ok,hgo,Sem.run_pure,run_checkKey hk hkey _ 9999,run_findKey hk f1,Qhc hi hz]
     simp
    ·simp only[FOp.val,hcc,hkk,Q7,hH,f2,Option.getD_none,Option.isSome_none]
     exact two (Qqc hzero)
   ·refine .mk' hs (v:=.tuple #[m.val,.bool true]) ?_ ?_ trivial
    ·simp only[execOp,hm,heq,Instr.lookup,Sem.run_bind,Qx hu,Result.andThen_ok,hgo,Sem.run_pure,run_checkKey hk hkey _ 9999,run_findKey hk f1]
     simp
    ·simp only[FOp.val,hcc,hkk,Q7,hH,f5,Option.getD_some,Option.isSome_some]
     exact two (k6 j y m f4 f2).2
  ·exact h5.elim
 |cm _ _ _ b0=>
  obtain⟨b,ms,clock,q1,q2,q3,q4,q5,q6⟩:=Qa74 (H:=H) hcr0
  simp only[Value.map.injEq,Option.some.injEq]at q1
  subst q1
  have hgo:(getObj b0).run P w=.ok (.map ms clock) w:=by simp only[getObj,Sem.run,q2]
  rcases Qxb h6 hkc q3 q5 q6 with ⟨f1,f2,f3⟩|⟨j,m,y,f1,f2,f3,f4,f5,f6,f7⟩
  ·refine .mk' hs (v:=.tuple #[z,.bool false]) ?_ ?_ trivial
   ·simp only[execOp,hm,heq,Instr.lookup,Sem.run_bind,Qx hu,Result.andThen_ok,hgo,Sem.run_pure,run_checkKey hk hkey _ 9999,run_findKey hk f1,Qhc hi hz]
    simp
   ·simp only[FOp.val,hcc,hkk,f2,Option.getD_none,Option.isSome_none]
    exact two (Qqc hzero)
  ·refine .mk' hs (v:=.tuple #[m.val,.bool true]) ?_ ?_ trivial
   ·simp only[execOp,hm,heq,Instr.lookup,Sem.run_bind,Qx hu,Result.andThen_ok,hgo,Sem.run_pure,run_checkKey hk hkey _ 9999,run_findKey hk f1]
    simp
   ·simp only[FOp.val,hcc,hkk,f5,Option.getD_some,Option.isSome_some]
    exact two (q5 j y m f4 f2).2
 |mnil=>
  refine .mk' hs (v:=.tuple #[z,.bool false]) ?_ ?_ trivial
  ·have hfn:Instr.findNow (tagD tag) (a.eval k') ([]:List MapEntry) 0=some none:=rfl
   have hfk:=run_findKey (P:=P) (w:=w) (kt:=kt) (k:=a.eval k') (l:=[]) hk hfn
   simp only[execOp,hm,heq,Instr.lookup,Sem.run_bind,Qx hu,Result.andThen_ok,Sem.run_pure,run_checkKey hk hkey _ 9999,hfk,Qhc hi hz]
   simp
  ·simp only[FOp.val,hcc,hkk,Q7,Qf5,Option.getD_none,Option.isSome_none]
   exact two (Qqc hzero)
 |_=>simp[Qxv]at h5
end Go.AE

namespace Go.AE
variable {P:Program}{H:Heap}{g:G}{w:World}{e:Env}{a:Act}{o:Oper}{p:Bool}
def Qan2 (P:Program)(fs:Array Field)(zl:Nat):List (Nat×Nat×Opd)→List (Nat×Operand)→Bool
 |[],[]=>true
 |(off,sz,x)::r,(i,y)::r'=>mO x y&&(match fs[i]? with
   |some f=>f.offset == off&&P.cellsOf f.type == sz
   |none=>false)&&decide (off+sz≤zl)&&decide (sz≠0)&&Qan2 P fs zl r r'
 |_,_=>false
def mRow:Nat→List Opd→List (Nat×Operand)→Bool
 |_,[],[]=>true
 |k,x::r,(i,y)::r'=>i == k&&mO x y&&mRow (k+1) r r'
 |_,_,_=>false
def mOs:List Opd→List Operand→Bool
 |[],[]=>true
 |x::r,y::r'=>mO x y&&mOs r r'
 |_,_=>false
theorem Qapm:∀(xs:List Opd) (ys:List Operand),mOs xs ys=true→xs.length=ys.length∧∀(j:Nat) (x:Opd) (y:Operand),xs[j]? = some x→ys[j]? = some y→mO x y=true
 |[],[],_=>⟨rfl,by simp⟩
 |[],_::_,h=>by simp[mOs]at h
 |_::_,[],h=>by simp[mOs]at h
 |x::r,y::r',h=>by
  simp only[mOs,Bool.and_eq_true]at h
  obtain⟨h1,h2⟩:=Qapm r r' h.2
  refine⟨by simp[h1],fun j x' y' e1 e2=>?_⟩
  cases j with
  |zero=>simp at e1 e2;subst e1;subst e2;exact h.1
  |succ j=>exact h2 j x' y' (by simpa using e1) (by simpa using e2)
theorem Qae3 {fs:Array Field}{zl:Nat}:∀(xs:List (Nat×Nat×Opd)) (ys:List (Nat×Operand)),Qan2 P fs zl xs ys=true→
  xs.length=ys.length∧∀(j:Nat) (x:Nat×Nat×Opd) (y:Nat×Operand),xs[j]? = some x→ys[j]? = some y→
   mO x.2.2 y.2=true∧(∃f,fs[y.1]? = some f∧f.offset=x.1∧P.cellsOf f.type=x.2.1)∧x.1+x.2.1≤zl∧x.2.1≠0
 |[],[],_=>⟨rfl,by simp⟩
 |[],_::_,h=>by simp[Qan2]at h
 |_::_,[],h=>by simp[Qan2]at h
 |(off,sz,x)::r,(i,y)::r',h=>by
  simp only[Qan2,Bool.and_eq_true,decide_eq_true_eq]at h
  obtain⟨⟨⟨⟨h1,h2⟩,h3⟩,h4⟩,h5⟩:=h
  obtain⟨k1,k2⟩:=Qae3 r r' h5
  refine⟨by simp[k1],fun j x' y' e1 e2=>?_⟩
  cases j with
  |zero=>
   simp at e1 e2;subst e1;subst e2
   refine⟨h1,?_,h3,h4⟩
   split at h2
   ·rename_i f hf;simp at h2;exact⟨f,hf,h2.1,h2.2⟩
   ·simp at h2
  |succ j=>exact k2 j x' y' (by simpa using e1) (by simpa using e2)
theorem Qae4:∀(k:Nat) (xs:List Opd) (ys:List (Nat×Operand)),mRow k xs ys=true→
  xs.length=ys.length∧∀(j:Nat) (x:Opd) (y:Nat×Operand),xs[j]? = some x→ys[j]? = some y→y.1=k+j∧mO x y.2=true
 |_,[],[],_=>⟨rfl,by simp⟩
 |_,[],_::_,h=>by simp[mRow]at h
 |_,_::_,[],h=>by simp[mRow]at h
 |k,x::r,(i,y)::r',h=>by
  simp only[mRow,Bool.and_eq_true,beq_iff_eq]at h
  obtain⟨⟨h1,h2⟩,h3⟩:=h
  obtain⟨k1,k2⟩:=Qae4 (k+1) r r' h3
  refine⟨by simp[k1],fun j x' y' e1 e2=>?_⟩
  cases j with
  |zero=>simp at e1 e2;subst e1;subst e2;exact⟨by simp[h1],h2⟩
  |succ j=>
   have:=k2 j x' y' (by simpa using e1) (by simpa using e2)
   exact⟨by rw[this.1];omega,this.2⟩
def Qath (P:Program)(t:TypeId)(n:Nat)(agg:Bool):Bool:=
 match P.underlying t,P.info? t with
 |some d,some i=>Qmk d == agg&&(if agg then i.size == n else n == 1)
 |_,_=>false
theorem Ql3 {t:TypeId}{n:Nat}{agg:Bool}(h:Qath P t n agg=true) :
  ∃d i,P.underlying t=some d∧P.info? t=some i∧Qmk d=agg∧(agg=true→i.size=n)∧(agg=false→n=1):=by
 unfold Qath at h
 split at h
 ·rename_i d i hd hi
  simp only[Bool.and_eq_true,beq_iff_eq]at h
  refine⟨d,i,hd,hi,h.1,fun ha=>?_,fun ha=>?_⟩
  ·subst ha;simpa using h.2
  ·subst ha;simpa using h.2
 ·simp at h
def Qajr (P:Program)(t:TypeId)(sz:Nat):Bool:=
 match P.info? t with
 |some i=>i.size == sz
 |none=>false
theorem Qfu {t:TypeId}{sz:Nat}(h:Qajr P t sz=true):∃i,P.info? t=some i∧i.size=sz:=by
 unfold Qajr at h
 split at h
 ·rename_i i hi;exact⟨i,hi,by simpa using h⟩
 ·simp at h
def Qax9 (P:Program)(t:TypeId)(zero:List C):Bool:=
 match P.info? t with
 |some i=>(match i.zero with
  |some z=>Qani zero z
  |none=>false)
 |none=>false
theorem Ql4 {t:TypeId}{zero:List C}(h:Qax9 P t zero=true):∃i z,P.info? t=some i∧i.zero=some z∧Qani zero z=true:=by
 unfold Qax9 at h
 split at h
 ·rename_i i hi
  split at h
  ·rename_i z hz;exact⟨i,z,hi,hz,h⟩
  ·simp at h
 ·simp at h
def Qa9a (d:TypeDesc)(tag:Nat):Bool:=
 match d,tag with
 |.int .i64,0=>true
 |.string,1=>true
 |.bool,2=>true
 |_,_=>false
theorem Q5k {d:TypeDesc}{tag:Nat}(h:Qa9a d tag=true):d=tagD tag:=by
 unfold Qa9a at h
 split at h <;> first|rfl|simp at h
def mF (P:Program)(o:Oper):FOp→Bool
 |.mv x=>match o.op with
  |.move y=>mO x y
  |.assign y=>mO x y
  |_=>false
 |.pick c a b=>match o.op with
  |.pick c' a' b'=>mO c c'&&mO a a'&&mO b b'
  |_=>false
 |.bin tag op a b=>match o.op with
  |.binOp op' t a' b' _=>op == op'&&mTag P tag t&&mO a a'&&mO b b'
  |_=>false
 |.not a=>match o.op with
  |.unOp .not _ a'=>mO a a'
  |_=>false
 |.fad off a=>match o.op with
  |.fieldAddr s y k=>mO a y&&(match P.underlying s with
   |some (.struct fs)=>(match fs[k]? with
    |some f=>f.offset == off&&(match P.info? f.type with
     |some i=>decide (i.size≠0)
     |none=>false)
    |none=>false)
   |_=>false)
  |_=>false
 |.iad sz a i=>match o.op with
  |.indexAddr t a' i'=>mO a a'&&mO i i'&&(match P.underlying t with
   |some (.slice el)=>Qajr P el sz
   |_=>false)
  |_=>false
 |.ld n agg a=>match o.op with
  |.load t a'=>mO a a'&&Qath P t n agg
  |_=>false
 |.nck a=>match o.op with
  |.nilCheck a'=>mO a a'
  |_=>false
 |.len a=>match o.op with
  |.call { callee:=.builtin .len,args:=⟨[a']⟩,argTypes:=ats }=>mO a a'&&(match ats[0]? with
   |some t=>(match P.underlying t with
    |some (.slice _)=>true
    |_=>false)
   |none=>false)
  |_=>false
 |.lenx a=>match o.op with
  |.call { callee:=.builtin .len,args:=⟨[a']⟩,argTypes:=ats }=>mO a a'&&(match ats[0]? with
   |some t=>(match P.underlying t with
    |some (.slice _)=>true
    |_=>false)
   |none=>false)
  |_=>false
 |.lens a=>match o.op with
  |.call { callee:=.builtin .len,args:=⟨[a']⟩,argTypes:=ats }=>mO a a'&&(match ats[0]? with
   |some t=>(match P.underlying t with
    |some .string=>true
    |_=>false)
   |none=>false)
  |_=>false
 |.lensx a=>match o.op with
  |.call { callee:=.builtin .len,args:=⟨[a']⟩,argTypes:=ats }=>mO a a'&&(match ats[0]? with
   |some t=>(match P.underlying t with
    |some .string=>true
    |_=>false)
   |none=>false)
  |_=>false
 |.lenm a=>match o.op with
  |.call { callee:=.builtin .len,args:=⟨[a']⟩,argTypes:=ats }=>mO a a'&&(match ats[0]? with
   |some t=>(match P.underlying t with
    |some (.map _ _)=>true
    |_=>false)
   |none=>false)
  |_=>false
 |.sli sz a lo hi=>match o.op with
  |.slice t a' lo' hi' none=>mO a a'&&mOpt lo lo'&&mOpt hi hi'&&(match P.underlying t with
   |some (.slice el)=>Qajr P el sz
   |_=>false)
  |_=>false
 |.iaa sz n a i=>match o.op with
  |.indexAddr t a' i'=>mO a a'&&mO i i'&&(match P.underlying t with
   |some (.array m el)=>m == n&&Qajr P el sz
   |_=>false)
  |_=>false
 |.aslp n a hi=>match o.op with
  |.slice t a' none hi' none=>mO a a'&&mOpt hi hi'&&(match P.underlying t with
   |some (.array m el)=>m == n&&(P.info? el).isSome
   |_=>false)
  |_=>false
 |.slm sz a hi=>match o.op with
  |.slice t a' none (some h1) (some h2)=>mO a a'&&mO hi h1&&mO hi h2&&(match P.underlying t with
   |some (.slice el)=>Qajr P el sz
   |_=>false)
  |_=>false
 |.b2s a=>match o.op with
  |.convert src dst a'=>mO a a'&&(match P.underlying dst,P.underlying src with
   |some .string,some (.slice el)=>(match P.underlying el with
    |some (.int k)=>k == .u8
    |_=>false)
   |_,_=>false)
  |_=>false
 |.ldg n b _=>match o.op with
  |.load t (.global b')=>b' == b&&Qath P t n true
  |_=>false
 |.ldo b _=>match o.op with
  |.load t (.global b')=>b' == b&&Qath P t 1 false
  |_=>false
 |.aslg n b _=>match o.op with
  |.slice t (.global b') none none none=>b' == b&&(match P.underlying t with
   |some (.array m el)=>m == n&&(P.info? el).isSome
   |_=>false)
  |_=>false
 |.iax sz n a i=>match o.op with
  |.index t a' i'=>mO a a'&&mO i i'&&(match P.underlying t with
   |some (.array m el)=>m == n&&Qath P el sz true
   |_=>false)
  |_=>false
 |.asl n a=>match o.op with
  |.slice t a' none none none=>mO a a'&&(match P.underlying t with
   |some (.array m el)=>m == n&&(P.info? el).isSome
   |_=>false)
  |_=>false
 |.slis a lo hi=>match o.op with
  |.slice t a' lo' hi' none=>mO a a'&&mOpt lo lo'&&mOpt hi hi'&&(match P.underlying t with
   |some .string=>true
   |_=>false)
  |_=>false
 |.ext a i=>match o.op with
  |.extract a' i'=>mO a a'&&i == i'
  |_=>false
 |.fld off n agg a=>match o.op with
  |.field s y k=>mO a y&&(match P.underlying s with
   |some (.struct fs)=>(match fs[k]? with
    |some f=>f.offset == off&&Qath P f.type n agg
    |none=>false)
   |_=>false)
  |_=>false
 |.idx a i=>match o.op with
  |.index t a' i'=>mO a a'&&mO i i'&&(match P.underlying t with
   |some .string=>true
   |_=>false)
  |_=>false
 |.bld zero parts=>match o.op with
  |.build t parts'=>(match P.underlying t with
   |some (.struct fs)=>Qax9 P t zero&&fs.toList.all (fun f=>(P.info? f.type).isSome)&&Qan2 P fs zero.length parts parts'.toList
   |_=>false)
  |_=>false
 |.bsl sz parts=>match o.op with
  |.buildSlice t n parts'=>n == parts'.size&&decide (n * sz≤2 ^ 24)&&mRow 0 parts parts'.toList&&decide (sz≠0)&&(match P.underlying t with
   |some (.slice el)=>Qajr P el sz&&(match P.info? el with
    |some i=>i.zero.isSome
    |none=>false)
   |_=>false)
  |_=>false
 |.box a=>match o.op with
  |.box _ a'=>mO a a'
  |_=>false
 |.cvt k a=>match o.op with
  |.convert src dst a'=>mO a a'&&(match P.underlying dst,P.underlying src with
   |some (.int k'),some _=>k == k'
   |_,_=>false)
  |_=>false
 |.mkf f caps=>match o.op with
  |.makeFunc (.func f') ⟨[]⟩ caps'=>f == f'&&mOs caps caps'.toList
  |_=>false
 |.lup tag zero m k=>match o.op with
  |.lookup t m' k' false=>mO m m'&&mO k k'&&(match P.underlying t with
   |some (.map kt et)=>(match P.underlying kt with
    |some d=>Qa9a d tag
    |none=>false)&&(match P.info? et with
    |some i=>(match i.zero with
     |some z=>Qa7r zero z
     |none=>false)
    |none=>false)
   |_=>false)
  |_=>false
 |.lup2 tag zero m k=>match o.op with
  |.lookup t m' k' true=>mO m m'&&mO k k'&&(match P.underlying t with
   |some (.map kt et)=>(match P.underlying kt with
    |some d=>Qa9a d tag
    |none=>false)&&(match P.info? et with
    |some i=>(match i.zero with
     |some z=>Qa7r zero z
     |none=>false)
    |none=>false)
   |_=>false)
  |_=>false
 |.mx a b=>match o.op with
  |.call { callee:=.builtin .max,args:=⟨[a',b']⟩,argTypes:=_ }=>mO a a'&&mO b b'
  |_=>false
 |.mn a b=>match o.op with
  |.call { callee:=.builtin .min,args:=⟨[a',b']⟩,argTypes:=_ }=>mO a a'&&mO b b'
  |_=>false
theorem Qas7 {op:FOp}(hm:mF P o op=true)(hs:Sat H g w)(he:EnvOk w g e a)(hp:p=true)(ho:op.obl p e H):FOk P H g w e a o op:=by
 cases op with
 |mv x=>
  simp only[mF]at hm
  split at hm
  ·exact s_mv (.inl ‹_›) hm hs he hp ho
  ·exact s_mv (.inr ‹_›) hm hs he hp ho
  ·simp at hm
 |pick c x y=>
  simp only[mF]at hm
  split at hm
  ·simp only[Bool.and_eq_true]at hm
   exact Qbkk ‹_› hm.1.1 hm.1.2 hm.2 hs he hp ho
  ·simp at hm
 |bin tag bo x y=>
  simp only[mF]at hm
  split at hm
  ·simp only[Bool.and_eq_true,beq_iff_eq]at hm
   obtain⟨⟨⟨rfl,h2⟩,h3⟩,h4⟩:=hm
   exact Qblk ‹_› h2 h3 h4 hs he hp ho
  ·simp at hm
 |not x=>
  simp only[mF]at hm
  split at hm
  ·exact Qbl2 ‹_› hm hs he hp ho
  ·simp at hm
 |fad off x=>
  simp only[mF]at hm
  split at hm
  ·rename_i s y k hop
   rw[Bool.and_eq_true]at hm
   obtain⟨h1,h2⟩:=hm
   split at h2
   ·rename_i fs hfs
    split at h2
    ·rename_i f hf
     rw[Bool.and_eq_true]at h2
     obtain⟨h3,h4⟩:=h2
     split at h4
     ·rename_i i hi
      exact Qblq hop hfs hf (by simpa using h3) hi (by simpa using h4) h1 hs he hp ho
     ·simp at h4
    ·simp at h2
   ·simp at h2
  ·simp at hm
 |iad sz x y=>
  simp only[mF]at hm
  split at hm
  ·rename_i t x' y' hop
   simp only[Bool.and_eq_true]at hm
   obtain⟨⟨h1,h2⟩,h3⟩:=hm
   split at h3
   ·rename_i el hel
    obtain⟨i,hi,hz⟩:=Qfu h3
    exact Qblt hop hel hi hz h1 h2 hs he hp ho
   ·simp at h3
  ·simp at hm
 |ld n agg x=>
  simp only[mF]at hm
  split at hm
  ·rename_i t x' hop
   rw[Bool.and_eq_true]at hm
   obtain⟨d,i,h1,h2,h3,h4,h5⟩:=Ql3 hm.2
   exact s_ld hop h1 h2 h3 h4 h5 hm.1 hs he hp ho
  ·simp at hm
 |nck x=>
  simp only[mF]at hm
  split at hm
  ·exact Qbl1 ‹_› hm hs he hp ho
  ·simp at hm
 |len x=>
  simp only[mF]at hm
  split at hm
  ·rename_i x' ats hop
   rw[Bool.and_eq_true]at hm
   obtain⟨h1,h2⟩:=hm
   split at h2
   ·rename_i t ht
    split at h2
    ·exact Qbly hop ht ‹_› h1 hs he hp ho
    ·simp at h2
   ·simp at h2
  ·simp at hm
 |lenx x=>
  simp only[mF]at hm
  split at hm
  ·rename_i x' ats hop
   rw[Bool.and_eq_true]at hm
   obtain⟨h1,h2⟩:=hm
   split at h2
   ·rename_i t ht
    split at h2
    ·exact Qbki hop ht ‹_› h1 hs he hp ho
    ·simp at h2
   ·simp at h2
  ·simp at hm
 |lens x=>
  simp only[mF]at hm
  split at hm
  ·rename_i x' ats hop
   rw[Bool.and_eq_true]at hm
   obtain⟨h1,h2⟩:=hm
   split at h2
   ·rename_i t ht
    split at h2
    ·exact Qbkh hop ht ‹_› h1 hs he hp ho
    ·simp at h2
   ·simp at h2
  ·simp at hm
 |lensx x=>
  simp only[mF]at hm
  split at hm
  ·rename_i x' ats hop
   rw[Bool.and_eq_true]at hm
   obtain⟨h1,h2⟩:=hm
   split at h2
   ·rename_i t ht
    split at h2
    ·exact Qbio hop ht ‹_› h1 hs he hp ho
    ·simp at h2
   ·simp at h2
  ·simp at hm
 |lenm x=>
  simp only[mF]at hm
  split at hm
  ·rename_i x' ats hop
   rw[Bool.and_eq_true]at hm
   obtain⟨h1,h2⟩:=hm
   split at h2
   ·rename_i t ht
    split at h2
    ·exact Qbkg hop ht ‹_› h1 hs he hp ho
    ·simp at h2
   ·simp at h2
  ·simp at hm
 |sli sz x lo hi=>
  simp only[mF]at hm
  split at hm
  ·rename_i t x' lo' hi' hop
   simp only[Bool.and_eq_true]at hm
   obtain⟨⟨⟨h1,h2⟩,h3⟩,h4⟩:=hm
   split at h4
   ·rename_i el hel
    obtain⟨i,hi,hz⟩:=Qfu h4
    exact Qbl3 hop hel hi hz h1 h2 h3 hs he hp ho
   ·simp at h4
  ·simp at hm
 |iaa sz n x y=>
  simp only[mF]at hm
  split at hm
  ·rename_i t x' y' hop
   simp only[Bool.and_eq_true]at hm
   obtain⟨⟨h1,h2⟩,h3⟩:=hm
   split at h3
   ·rename_i m el hel
    rw[Bool.and_eq_true,beq_iff_eq]at h3
    obtain⟨rfl,h3⟩:=h3
    obtain⟨i,hi,hz⟩:=Qfu h3
    exact Qbls hop hel hi hz h1 h2 hs he hp ho
   ·simp at h3
  ·simp at hm
 |aslp n x hi=>
  simp only[mF]at hm
  split at hm
  ·rename_i t x' hi' hop
   simp only[Bool.and_eq_true]at hm
   obtain⟨⟨h1,h4⟩,h2⟩:=hm
   split at h2
   ·rename_i m el hu2
    rw[Bool.and_eq_true,beq_iff_eq]at h2
    obtain⟨rfl,h3⟩:=h2
    obtain⟨i,hi⟩:=Option.isSome_iff_exists.1 h3
    exact Qbkb hop hu2 hi h1 h4 hs he hp ho
   ·simp at h2
  ·simp at hm
 |slm sz x hi=>
  simp only[mF]at hm
  split at hm
  ·rename_i t x' h1' h2' hop
   simp only[Bool.and_eq_true]at hm
   obtain⟨⟨⟨h1,h2⟩,h3⟩,h4⟩:=hm
   split at h4
   ·rename_i el hel
    obtain⟨i,hi,hz⟩:=Qfu h4
    exact Qbl4 hop hel hi h1 h2 h3 hs he hp ho
   ·simp at h4
  ·simp at hm
 |b2s x=>
  simp only[mF]at hm
  split at hm
  ·rename_i src dst x' hop
   simp only[Bool.and_eq_true]at hm
   obtain⟨h1,h2⟩:=hm
   split at h2
   ·rename_i el hd hsrc
    split at h2
    ·rename_i k hk
     simp only[beq_iff_eq]at h2
     subst h2
     exact Qblj hop hd hsrc hk h1 hs he hp ho
    ·simp at h2
   ·simp at h2
  ·simp at hm
 |ldg n b l=>
  simp only[mF]at hm
  split at hm
  ·rename_i t b' hop
   simp only[Bool.and_eq_true,beq_iff_eq]at hm
   obtain⟨rfl,h2⟩:=hm
   obtain⟨d,i,k1,k2,k3,k4,k5⟩:=Ql3 h2
   exact Qblw hop k1 k2 k3 (k4 rfl) hs ho
  ·simp at hm
 |ldo b l=>
  simp only[mF]at hm
  split at hm
  ·rename_i t b' hop
   simp only[Bool.and_eq_true,beq_iff_eq]at hm
   obtain⟨rfl,h2⟩:=hm
   obtain⟨d,i,k1,k2,k3,k4,k5⟩:=Ql3 h2
   exact Qblx hop k1 k2 k3 hs ho
  ·simp at hm
 |aslg n b l=>
  simp only[mF]at hm
  split at hm
  ·rename_i t b' hop
   simp only[Bool.and_eq_true,beq_iff_eq]at hm
   obtain⟨rfl,h2⟩:=hm
   split at h2
   ·rename_i m el hel
    rw[Bool.and_eq_true,beq_iff_eq]at h2
    obtain⟨rfl,h3⟩:=h2
    obtain⟨i,hi⟩:=Option.isSome_iff_exists.1 h3
    exact Qbka hop hel hi hs ho
   ·simp at h2
  ·simp at hm
 |iax sz n x y=>
  simp only[mF]at hm
  split at hm
  ·rename_i t x' y' hop
   simp only[Bool.and_eq_true]at hm
   obtain⟨⟨h1,h2⟩,h3⟩:=hm
   split at h3
   ·rename_i m el hel
    rw[Bool.and_eq_true,beq_iff_eq]at h3
    obtain⟨rfl,h3⟩:=h3
    obtain⟨d,i,k1,k2,k3,k4,k5⟩:=Ql3 h3
    exact Qblu hop hel k1 k3 k2 (k4 rfl) h1 h2 hs he hp ho
   ·simp at h3
  ·simp at hm
 |asl n x=>
  simp only[mF]at hm
  split at hm
  ·rename_i t x' hop
   rw[Bool.and_eq_true]at hm
   obtain⟨h1,h2⟩:=hm
   split at h2
   ·rename_i m el hu2
    rw[Bool.and_eq_true,beq_iff_eq]at h2
    obtain⟨rfl,h3⟩:=h2
    obtain⟨i,hi⟩:=Option.isSome_iff_exists.1 h3
    exact Qbli hop hu2 hi h1 hs he hp ho
   ·simp at h2
  ·simp at hm
 |slis x lo hi=>
  simp only[mF]at hm
  split at hm
  ·rename_i t x' lo' hi' hop
   simp only[Bool.and_eq_true]at hm
   obtain⟨⟨⟨h1,h2⟩,h3⟩,h4⟩:=hm
   split at h4
   ·exact Qbkl hop ‹_› h1 h2 h3 hs he hp ho
   ·simp at h4
  ·simp at hm
 |ext x i=>
  simp only[mF]at hm
  split at hm
  ·rename_i x' i' hop
   simp only[Bool.and_eq_true,beq_iff_eq]at hm
   obtain⟨h1,rfl⟩:=hm
   exact Qblp hop h1 hs he hp ho
  ·simp at hm
 |fld off n agg x=>
  simp only[mF]at hm
  split at hm
  ·rename_i s y k hop
   rw[Bool.and_eq_true]at hm
   obtain⟨h1,h2⟩:=hm
   split at h2
   ·rename_i fs hfs
    split at h2
    ·rename_i f hf
     rw[Bool.and_eq_true]at h2
     obtain⟨h3,h4⟩:=h2
     obtain⟨d,i,k1,k2,k3,k4,k5⟩:=Ql3 h4
     exact Qblr hop hfs hf (by simpa using h3) k2 k1 k3 k4 k5 h1 hs he hp ho
    ·simp at h2
   ·simp at h2
  ·simp at hm
 |idx x y=>
  simp only[mF]at hm
  split at hm
  ·rename_i t x' y' hop
   simp only[Bool.and_eq_true]at hm
   obtain⟨⟨h1,h2⟩,h3⟩:=hm
   split at h3
   ·exact Qblv hop ‹_› h1 h2 hs he hp ho
   ·simp at h3
  ·simp at hm
 |bld zero parts=>
  simp only[mF]at hm
  split at hm
  ·rename_i t parts' hop
   split at hm
   ·rename_i fs hfs
    simp only[Bool.and_eq_true]at hm
    obtain⟨⟨h1,h2⟩,h3⟩:=hm
    obtain⟨i,z,k1,k2,k3⟩:=Ql4 h1
    obtain⟨k4,k5⟩:=Qae3 _ _ h3
    rw[List.all_eq_true]at h2
    refine Qbll hop hfs k1 k2 k3 (fun f hf=>Option.isSome_iff_exists.1 (h2 f hf)) (by simpa using k4) (fun j x y e1 e2=>k5 j x y e1 (by simpa using e2)) hs he hp ho
   ·simp at hm
  ·simp at hm
 |bsl sz parts=>
  simp only[mF]at hm
  split at hm
  ·rename_i t n parts' hop
   simp only[Bool.and_eq_true,decide_eq_true_eq,beq_iff_eq]at hm
   obtain⟨⟨⟨⟨h1,h2⟩,h3⟩,h4⟩,h5⟩:=hm
   split at h5
   ·rename_i el hel
    rw[Bool.and_eq_true]at h5
    obtain⟨i,hi,hz⟩:=Qfu h5.1
    have h6:=h5.2
    rw[hi]at h6
    obtain⟨z,hz'⟩:=Option.isSome_iff_exists.1 h6
    obtain⟨k1,k2⟩:=Qae4 _ _ _ h3
    exact Qbln hop hel hi hz' hz h4 h1 h2 (by simpa using k1) (fun j x y e1 e2=>by
     have:=k2 j x y e1 (by simpa using e2)
     exact⟨by simpa using this.1,this.2⟩) hs he hp ho
   ·simp at h5
  ·simp at hm
 |box x=>
  simp only[mF]at hm
  split at hm
  ·exact Qblm ‹_› hm hs he hp ho
  ·simp at hm
 |cvt k x=>
  simp only[mF]at hm
  split at hm
  ·rename_i src dst x' hop
   rw[Bool.and_eq_true]at hm
   obtain⟨h1,h2⟩:=hm
   split at h2
   ·simp only[beq_iff_eq]at h2
    subst h2
    exact Qblo hop ‹_› ‹_› h1 hs he hp ho
   ·simp at h2
  ·simp at hm
 |mkf f caps=>
  simp only[mF]at hm
  split at hm
  ·rename_i f' caps' hop
   simp only[Bool.and_eq_true,beq_iff_eq]at hm
   obtain⟨rfl,h2⟩:=hm
   obtain⟨k1,k2⟩:=Qapm _ _ h2
   exact Qbl0 hop (by simpa using k1) (fun j x y e1 e2=>k2 j x y e1 (by simpa using e2)) hs he hp ho
  ·simp at hm
 |lup tag zero m k=>
  simp only[mF]at hm
  split at hm
  ·rename_i t m' k' hop
   simp only[Bool.and_eq_true]at hm
   obtain⟨⟨h1,h2⟩,h3⟩:=hm
   split at h3
   ·rename_i kt et hmap
    rw[Bool.and_eq_true]at h3
    obtain⟨h4,h5⟩:=h3
    split at h4
    ·rename_i d hd
     have:=Q5k h4
     subst this
     split at h5
     ·rename_i i hi
      split at h5
      ·rename_i z hz
       exact Qblz hop hmap hd hi hz h5 h1 h2 hs he hp ho
      ·simp at h5
     ·simp at h5
    ·simp at h4
   ·simp at h3
  ·simp at hm
 |lup2 tag zero m k=>
  simp only[mF]at hm
  split at hm
  ·rename_i t m' k' hop
   simp only[Bool.and_eq_true]at hm
   obtain⟨⟨h1,h2⟩,h3⟩:=hm
   split at h3
   ·rename_i kt et hmap
    rw[Bool.and_eq_true]at h3
    obtain⟨h4,h5⟩:=h3
    split at h4
    ·rename_i d hd
     have:=Q5k h4
     subst this
     split at h5
     ·rename_i i hi
      split at h5
      ·rename_i z hz
       exact Qbkj hop hmap hd hi hz h5 h1 h2 hs he hp ho
      ·simp at h5
     ·simp at h5
    ·simp at h4
   ·simp at h3
  ·simp at hm
 |mx x y=>
  simp only[mF]at hm
  split at hm
  ·simp only[Bool.and_eq_true]at hm
   exact s_mx ‹_› hm.1 hm.2 hs he hp ho
  ·simp at hm
 |mn x y=>
  simp only[mF]at hm
  split at hm
  ·simp only[Bool.and_eq_true]at hm
   exact s_mn ‹_› hm.1 hm.2 hs he hp ho
  ·simp at hm
end Go.AE

namespace Go.AE
variable {P:Program}{H:Heap}{g:G}{w:World}{e:Env}{a:Act}{o:Oper}{p:Bool}
def EOk (P:Program)(H:Heap)(g:G)(w:World)(a:Act)(o:Oper)(K:V→Heap→Prop):Prop:=
 ∀(Q:Exit→Act→World→Prop) (next:Act→World→Prop),
  (∀x v w' H' g',K x H'→Stp H g w H' g' w'→RepV w' g' x v→next (a.put o.dst v) w')→
  (∀v w' H' g',K (.pn v) H'→Stp H g w H' g' w'→Q (.panic [{ v:=v,recovered:=false }]) a w')→o.wp P a w next Q
theorem EOk.value {K:V→Heap→Prop}{v:Value}{w':World}{x:V}{H':Heap}{g':G}(hr:(execOp a.eval o).run P w=.ok (.value v) w')(hk:K x H')(hst:Stp H g w H' g' w')(hv:RepV w' g' x v) :
  EOk P H g w a o K:=by
 intro Q next hn hpan
 unfold Oper.wp
 rw[hr,Oper.upon_value]
 exact hn x v w' H' g' hk hst hv
theorem EOk.skip {K:V→Heap→Prop}{w':World}{H':Heap}{g':G}(hr:(execOp a.eval o).run P w=.ok .skip w')(hk:K .unk H')(hst:Stp H g w H' g' w') :
  EOk P H g w a o K:=by
 intro Q next hn hpan
 unfold Oper.wp
 rw[hr,Oper.upon_skip]
 exact hn .unk undef w' H' g' hk hst (.unk _)
theorem Sat.newName (hs:Sat H g w):∃l,g.io l=none∧H l=.none:=by
 obtain⟨N,hN⟩:=hs.names
 exact⟨N,hN N (Nat.le_refl _),hs.none_of_io (hN N (Nat.le_refl _))⟩
def G.newObj (g:G)(l nb sz base:Nat):G:=
 { g with own:=fun b=>if b=nb then some (l,[])else g.own b,io:=fun x=>if x=l then some (nb,sz,base)else g.io x }
theorem Qi5 (hs:Sat H g w){l:Nat}(hl:g.io l=none)(sz base:Nat)(x:Go.Obj):Le g w (g.newObj l w.heap.size sz base) (w.alloc x):=by
 refine⟨fun b hb=>⟨hb,Qdx _ _ (Qbae hs hb)⟩,fun m y hm=>?_,by simp,fun b T n hn=>?_,rfl,rfl,rfl⟩
 ·simp only[G.newObj]
  have:m≠l:=fun h=>by subst h;rw[hl]at hm;simp at hm
  rw[if_neg this];exact hm
 ·rw[Qi1 (Qdx _ _ (Qask hn))];exact hn
theorem Qatz (hs:Sat H g w){l:Nat}(sz base:Nat)(x:Go.Obj)(m:Nat):Q2w g w (g.newObj l w.heap.size sz base) (w.alloc x) m:=by
 intro b q hb
 have:=Qaff hs hb
 refine⟨?_,Qdx _ _ this⟩
 simp only[G.newObj]
 rw[if_neg (by omega)];exact hb
theorem Qcl (hs:Sat H g w){l:Nat}(hl:g.io l=none)(sz base:Nat)(x:Go.Obj)(ob:Obj)
  (hob:∀g',g'=g.newObj l w.heap.size sz base→SatObj (H.set l ob) g' (w.alloc x) l ob) :
  Stp H g w (H.set l ob) (g.newObj l w.heap.size sz base) (w.alloc x):=by
 have hle:=Qi5 hs hl sz base x
 have hk:=Qatz hs (l:=l) sz base x
 have hH:H l=.none:=hs.none_of_io hl
 refine⟨hle,fun m hm hn=>?_,⟨fun b hb=>?_,?_,fun b y hb=>?_,fun b m q hb=>?_,fun m=>?_⟩⟩
 ·have:m≠l:=fun h=>by subst h;exact hm hl
  rw[Heap.set_other _ _ this]
  exact⟨hn,fun b q hb=>hk m b q hb⟩
 ·simp only[World.size_alloc]at hb
  refine⟨(hs.fresh b (by omega)).1,?_⟩
  simp only[G.newObj]
  rw[if_neg (by omega)]
  exact (hs.fresh b (by omega)).2
 ·obtain⟨N,hN⟩:=hs.names
  refine⟨max N (l+1),fun m hm=>?_⟩
  simp only[G.newObj]
  rw[if_neg (by omega)]
  exact hN m (by omega)
 ·simp only[G.newObj]at hb
  split at hb
  ·rename_i h;subst h;exact (hs.fresh _ (Nat.le_refl _)).1
  ·exact hs.excl b y hb
 ·simp only[G.newObj]at hb⊢
  split at hb
  ·simp at hb;obtain⟨rfl,rfl⟩:=hb;simp
  ·split
   ·simp
   ·exact hs.named b m q hb
 ·by_cases hm:m=l
  ·subst hm;rw[Heap.set_same];exact hob _ rfl
  ·have hH':=Heap.set_other H ob hm
   rw[hH',←hH']
   refine SatObj.keep hs hle (hk m) hH' fun m' v left cur hc v' es hv=>?_
   by_cases hm':m'=l
   ·subst hm'
    have hob':=hs.objs m
    rw[hc]at hob'
    obtain⟨b,mb,si,se,h1,h2,h3,h4,h5⟩:=hob'
    rw[hl]at h4;simp at h4
   ·rw[Heap.set_other _ _ hm']at hv
    exact .inl ⟨hv,hk m'⟩
theorem Q4u {l:Nat}{cells:List C}{vs:Array Value}{T:TypeId}{H':Heap}(hr:∀(j:Nat) (c:C) (u:Value),cells[j]? = some c→vs[j]? = some u→RepC w g c u)(hsz:vs.size=cells.length)
  (hle:Le g w (g.newObj l w.heap.size cells.length 0) (w.alloc (.cells vs T))) :
  SatObj H' (g.newObj l w.heap.size cells.length 0) (w.alloc (.cells vs T)) l (.st cells):=by
 refine⟨w.heap.size,cells.length,T,vs,by simp[G.newObj],by simp[G.newObj],Qa3 _ _,hsz,fun k c v h1 h2=>.plain _ _ _ _ ((hr k c v h1 h2).mono hle)⟩
theorem Qbg2 {cells:List C}{t:TypeId}{i:TypeInfo}{z:Value}{K:V→Heap→Prop}(hm:o.op=.alloc t)(hi:P.info? t=some i)(hz:i.zero=some z)(hzero:Qani cells z=true)
  (hs:Sat H g w) (ho:(EOp.alloc cells).eff P p e H K):EOk P H g w a o K:=by
 obtain⟨l,hl,hH⟩:=hs.newName
 have hr:=Qm7 (w:=w) (g:=g) hzero
 have hle:=Qi5 hs hl cells.length 0 (.cells z.cells t)
 have hst:=Qcl hs hl cells.length 0 (.cells z.cells t) (.st cells) (fun g' hg=>by subst hg;exact Q4u hr.2 hr.1 hle)
 refine EOk.value (v:=.pointer (some ⟨w.heap.size,0,none⟩)) (x:=.c (.ptr l 0)) ?_ (ho l hH) hst ?_
 ·simp[execOp,hm,Instr.alloc,Qhc hi hz,newVar,newRow]
 ·exact .c _ _ (.ptr l 0 w.heap.size cells.length 0 (by simp[G.newObj]))
theorem Qbjh {x:Opd}{x':Operand}{t:TypeId}{K:V→Heap→Prop}(hm:o.op=.box t x')(hx:mO x x'=true)
  (hs:Sat H g w) (he:EnvOk w g e a) (hp:p=true) (ho:(EOp.boxm x).eff P p e H K):EOk P H g w a o K:=by
 simp only[EOp.eff]at ho
 obtain⟨h1,h2,h3⟩:=ho
 have hr:=Qaa he hx hp h1
 obtain⟨hz,hc⟩:=Qaei hr h2
 obtain⟨l,hl,hH⟩:=hs.newName
 have hle:=Qi5 hs hl (x.v e).cells.length 0 (.cells (a.eval x').cells t)
 have hst:=Qcl hs hl (x.v e).cells.length 0 (.cells (a.eval x').cells t) (.st (x.v e).cells) (fun g' hg=>by subst hg;exact Q4u hc hz hle)
 refine EOk.value (v:=.pointer (some ⟨w.heap.size,0,none⟩)) (x:=.c (.ptr l 0)) ?_ (h3 l hH) hst ?_
 ·simp[execOp,hm,Instr.box,newVar,newRow]
 ·exact .c _ _ (.ptr l 0 w.heap.size (x.v e).cells.length 0 (by simp[G.newObj]))
def World.putCells (w:World)(b:Nat)(cs:Array Value)(T:TypeId):World:={ w with heap:=w.heap.setIfInBounds b (.cells cs T (0,0)) }
theorem Qbm {w:World}{b:Nat}{cs:Array Value}{T:TypeId}(h:b<w.heap.size):(World.putCells w b cs T).heap[b]? = some (.cells cs T (0,0)):=by
 simp[World.putCells,h]
theorem Qay {w:World}{b b':Nat}{cs:Array Value}{T:TypeId}(h:b'≠b):(World.putCells w b cs T).heap[b']? = w.heap[b']?:=by
 simp only[World.putCells]
 rw[Array.getElem?_setIfInBounds_ne (Ne.symm h)]
theorem Qad5 {w:World}{b k:Nat}{cs:Array Value}{T:TypeId}{v:Value}(h:w.heap[b]? = some (.cells cs T (0,0))) :
  w.setCell ⟨b,k,none⟩ v=World.putCells w b (cs.setIfInBounds k v) T:=by
 simp only[World.setCell,World.putCells]
 congr 1
 apply Array.ext'
 apply List.ext_getElem?
 intro i
 simp only[Array.getElem?_toList,Array.getElem?_modify]
 by_cases hi:b=i
 ·subst hi
  rw[if_pos rfl,h]
  have hlt:b<w.heap.size:=by
   rcases Nat.lt_or_ge b w.heap.size with h'|h'
   ·exact h'
   ·simp[Array.getElem?_eq_none h']at h
  simp[hlt]
 ·rw[if_neg hi,Array.getElem?_setIfInBounds_ne hi]
theorem Q56 (w:World)(b:Nat)(cs cs':Array Value)(T:TypeId):World.putCells (World.putCells w b cs T) b cs' T=World.putCells w b cs' T:=by
 simp only[World.putCells,Array.setIfInBounds_setIfInBounds]
theorem Qfy:∀(vs:List Value) (i:Nat) (w:World) (b k:Nat) (cs:Array Value) (T:TypeId),w.heap[b]? = some (.cells cs T (0,0))→k+i+vs.length≤cs.size→(∀v∈vs,v.oneCell'=true)→
  (storeCells ⟨b,k,none⟩ vs i).run P w=.ok () (World.putCells w b ((vs.zipIdx i).foldl (fun (cs:Array Value) (x:Value×Nat)=>cs.setIfInBounds (k+x.2) x.1) cs) T)
 |[],i,w,b,k,cs,T,h,_,_=>by
  simp only[storeCells,Sem.run_pure,List.zipIdx_nil,List.foldl_nil]
  congr 1
  simp only[World.putCells]
  have hlt:b<w.heap.size:=by
   rcases Nat.lt_or_ge b w.heap.size with h'|h'
   ·exact h'
   ·simp[Array.getElem?_eq_none h']at h
  have:w.heap.setIfInBounds b (.cells cs T (0,0))=w.heap:=by
   apply Array.ext'
   apply List.ext_getElem?
   intro j
   simp only[Array.getElem?_toList]
   by_cases hj:b=j
   ·subst hj;rw[h];simp[hlt]
   ·rw[Array.getElem?_setIfInBounds_ne hj]
  rw[this]
 |v::vs,i,w,b,k,cs,T,h,hb,hv=>by
  simp only[List.length_cons]at hb
  have hlt:k+i<cs.size:=by omega
  have hcell:w.cell? ⟨b,k+i,none⟩=some cs[k+i]:=by rw[Qdy h];exact Array.getElem?_eq_getElem hlt
  have hfr:w.frozen? ⟨b,k+i,none⟩=false:=by simp[World.frozen?,h]
  have h1:=hv v (by simp)
  have hst:(store ⟨b,k+i,none⟩ v).run P w=.ok () (w.setCell ⟨b,k+i,none⟩ v):=by
   rw[run_store _ _ _ _ _ h1]
   simp[hcell,hfr]
  have hblt:b<w.heap.size:=by
   rcases Nat.lt_or_ge b w.heap.size with h'|h'
   ·exact h'
   ·simp[Array.getElem?_eq_none h']at h
  simp only[storeCells,Sem.run_bind,Qba,hst,Result.andThen_ok]
  rw[Qad5 h]
  rw[Qfy vs (i+1) _ b k (cs.setIfInBounds (k+i) v) T (Qbm hblt) (by simp;omega) (fun x hx=>hv x (by simp[hx]))]
  rw[Q56]
  rfl
end Go.AE

namespace Go.AE
variable {P:Program}{H:Heap}{g:G}{w:World}{e:Env}{a:Act}{o:Oper}{p:Bool}
theorem Qa71 (hs:Sat H g w){l b:Nat}(hb:g.own b=some (l,[])){w':World}(hsz:w'.heap.size=w.heap.size)(hot:∀b',b'≠b→w'.heap[b']? = w.heap[b']?)
  (hsh:∀T n,w.shape? b=some (T,n)→w'.shape? b=some (T,n)) (ht:w'.tape=w.tape) (hos:w'.os=w.os) (hou:w'.output=w.output):Le g w g w':=by
 refine⟨fun b' hb'=>⟨hb',hot b' fun h=>?_⟩,fun _ _ h=>h,by omega,fun b' T n hn=>?_,ht,hos,hou⟩
 ·subst h;rw[hs.excl _ _ hb]at hb';simp at hb'
 ·by_cases h:b'=b
  ·subst h;exact hsh T n hn
  ·rw[Qi1 (hot b' h)];exact hn
theorem Qasz {l b:Nat}(hb:g.own b=some (l,[])){w':World}(hot:∀b',b'≠b→w'.heap[b']? = w.heap[b']?){m:Nat}(hm:m≠l):Q2w g w g w' m:=by
 intro b' q hq
 refine⟨hq,hot b' fun h=>?_⟩
 subst h;rw[hb]at hq;simp at hq;exact hm hq.1.symm
theorem Ql9 {l b:Nat}(hb:g.own b=some (l,[])){w':World}(hle:Le g w g w')(hot:∀b',b'≠b→w'.heap[b']? = w.heap[b']?){q:List Nat}(hq:q≠[]){c:C}{v:Value}
  (h:RepO w g l q c v):RepO w' g l q c v:=by
 refine h.move hle fun r b' hb'=>⟨hb',hot b' fun h=>?_⟩
 subst h;rw[hb]at hb'
 simp only[Option.some.injEq,Prod.mk.injEq,true_and]at hb'
 have:=congrArg List.length hb'
 simp at this
 exact hq (List.length_eq_zero_iff.1 (by omega))
theorem Qxo (hs:Sat H g w){l b:Nat}(hb:g.own b=some (l,[])){w':World}(hsz:w'.heap.size=w.heap.size)(hot:∀b',b'≠b→w'.heap[b']? = w.heap[b']?)
  (hsh:∀T n,w.shape? b=some (T,n)→w'.shape? b=some (T,n)) (ht:w'.tape=w.tape) (hos:w'.os=w.os) (hou:w'.output=w.output) (ob:Obj) (hl0:H l≠.none)
  (hob:Le g w g w'→SatObj (H.set l ob) g w' l ob) (hver:∀v es,ob=.map v es→∃v0 es0,H l=.map v0 es0∧v0<v):Stp H g w (H.set l ob) g w':=by
 have hle:=Qa71 hs hb hsz hot hsh ht hos hou
 have hk:=fun (m:Nat) (hm:m≠l)=>Qasz (g:=g) (w:=w) hb hot hm
 refine⟨hle,fun m hm hn=>?_,⟨fun b' hb'=>hs.fresh b' (by omega),hs.names,hs.excl,hs.named,fun m=>?_⟩⟩
 ·have:m≠l:=fun h=>hl0 (h▸hn)
  rw[Heap.set_other _ _ this]
  exact⟨hn,fun b' q hq=>hk m this b' q hq⟩
 ·by_cases hm:m=l
  ·subst hm;rw[Heap.set_same];exact hob hle
  ·have hH':=Heap.set_other H ob hm
   rw[hH',←hH']
   refine SatObj.keep hs hle (hk m hm) hH' fun m' v left cur hc v' es hv=>?_
   by_cases hm':m'=l
   ·subst hm'
    rw[Heap.set_same]at hv
    obtain⟨v0,es0,q1,q2⟩:=hver v' es hv
    exact .inr ⟨v0,es0,q1,q2⟩
   ·rw[Heap.set_other _ _ hm']at hv
    exact .inl ⟨hv,hk m' hm'⟩
theorem Qqf {w:World}{b:Nat}{x:Go.Obj}(h:w.heap[b]? = some x):b<w.heap.size:=by
 rcases Nat.lt_or_ge b w.heap.size with h'|h'
 ·exact h'
 ·simp[Array.getElem?_eq_none h']at h
theorem Qnk (hs:Sat H g w){l b:Nat}(hb:g.own b=some (l,[])){cs cs':Array Value}{T:TypeId}(hw:w.heap[b]? = some (.cells cs T (0,0)))(hsz:cs'.size=cs.size)(ob:Obj)(hl0:H l≠.none)
  (hob:Le g w g (World.putCells w b cs' T)→(World.putCells w b cs' T).heap[b]? = some (.cells cs' T (0,0))→SatObj (H.set l ob) g (World.putCells w b cs' T) l ob)
  (hver:∀v es,ob≠.map v es):Stp H g w (H.set l ob) g (World.putCells w b cs' T):=by
 have hlt:=Qqf hw
 refine Qxo hs hb (by simp[World.putCells]) (fun b' h=>Qay h) (fun T' n hn=>?_) rfl rfl rfl ob hl0 (fun hle=>hob hle (Qbm hlt)) (fun v es h=>absurd h (hver v es))
 simp only[World.shape?,hw,Option.some.injEq,Prod.mk.injEq]at hn
 simp only[World.shape?,Qbm hlt,Option.some.injEq,Prod.mk.injEq]
 rw[hsz];exact hn
theorem Qaoo {row vs:List C}{k j:Nat}(hb:k+vs.length≤row.length):(Qzx row k vs)[j]? = if k≤j∧j<k+vs.length then vs[j-k]? else row[j]?:=by
 unfold Qzx
 by_cases hj:k≤j∧j<k+vs.length
 ·rw[if_pos hj,List.append_assoc,List.getElem?_append_right (by simp;omega),List.getElem?_append_left (by simp;omega)]
  congr 1;simp;omega
 ·rw[if_neg hj]
  by_cases hl:j<k
  ·rw[List.append_assoc,List.getElem?_append_left (by simp;omega),List.getElem?_take,if_pos hl]
  ·rw[List.getElem?_append_right (by simp;omega),List.getElem?_drop]
   congr 1;simp;omega
theorem Qaop {row vs:List C}{k:Nat}(hb:k+vs.length≤row.length):(Qzx row k vs).length=row.length:=by
 simp[Qzx];omega
theorem Qblf {n:Nat}{x y:Opd}{x' y':Operand}{t:TypeId}{i:TypeInfo}{K:V→Heap→Prop}(hm:o.op=.store t x' y')(hi:P.info? t=some i)(hsz:i.size=n)(hx:mO x x'=true)(hy:mO y y'=true)
  (hs:Sat H g w) (he:EnvOk w g e a) (hp:p=true) (ho:(EOp.sto n x y).eff P p e H K):EOk P H g w a o K:=by
 simp only[EOp.eff]at ho
 obtain⟨h1,h2,h3,h4,h5,h6⟩:=ho
 have hr:=Qaa he hx hp h1
 have hry:=Qaa he hy hp h2
 have hcl:=Qlz hry (fun hn=>by rw[hn]at h4;simp at h4;omega)
 rw[Qdd h3]at hr
 have hrc:=hr.c_inv
 generalize hq:a.eval x'=xv at hrc
 generalize hcc:(x.v e).c1=cc at hrc h6
 have hone:∀v∈(a.eval y').cells.toList,v.oneCell'=true:=by
  intro v hv
  obtain⟨j,hj⟩:=List.getElem?_of_mem hv
  have hj':(a.eval y').cells[j]? = some v:=by simpa using hj
  have hlt:j<(y.v e).cells.length:=by
   rw[←hcl.1]
   rcases Nat.lt_or_ge j (a.eval y').cells.size with h|h
   ·exact h
   ·rw[Array.getElem?_eq_none h]at hj';simp at hj'
  exact (hcl.2 j _ v (List.getElem?_eq_getElem hlt) hj').one
 have run:∀(b k:Nat) (cs:Array Value) (T:TypeId),xv=.pointer (some ⟨b,k,none⟩)→w.heap[b]? = some (.cells cs T (0,0))→k+n≤cs.size→
   ∃cs':Array Value,(execOp a.eval o).run P w=.ok .skip (World.putCells w b cs' T)∧cs'.size=cs.size∧
    ∀j,cs'[j]? = if k≤j∧j<k+n then (a.eval y').cells[j-k]? else cs[j]?:=by
  intro b k cs T hv hw hb
  have hlen:(a.eval y').cells.toList.length=n:=by simp[hcl.1,h4]
  have hf:=fun j=>Qqt k (a.eval y').cells.toList 0 cs j (by rw[hlen];omega)
  refine⟨_,?_,(hf 0).1,fun j=>?_⟩
  ·have hzz:(a.eval y').cells.size=n:=by rw[hcl.1,h4]
   simp only[execOp,hm,hq,hv,Instr.storeAt,Instr.sureAddr,Sem.run_bind,Sem.run_pure,Result.andThen_ok,storeVar,Qat hi,hsz]
   rw[if_neg (by simp[hzz])]
   rw[Qfy _ 0 w b k cs T hw (by rw[hlen];omega) hone]
   rfl
  ·rw[(hf j).2]
   simp only[Nat.add_zero,hlen,Array.getElem?_toList]
 cases hrc with
 |ptr l k b sz base hio=>
  simp only[Qajg]at h6
  split at h6
  ·rename_i cells hH
   obtain⟨h7,h8⟩:=h6
   have hob:=hs.objs l
   rw[hH]at hob
   obtain⟨b',sz',T,cs,q1,q2,q3,q4,q5⟩:=hob
   rw[hio]at q1
   simp only[Option.some.injEq,Prod.mk.injEq]at q1
   obtain⟨rfl,rfl,rfl⟩:=q1
   obtain⟨cs',r1,r2,r3⟩:=run b (0+k) cs T rfl q3 (by omega)
   refine EOk.skip (g':=g) r1 h8 ?_
   refine Qnk hs q2 q3 r2 _ (by rw[hH];simp) (fun hle hw'=>?_) (by simp)
   refine⟨b,sz,T,cs',hio,q2,hw',by rw[r2,q4,Qaop h7],fun j c v e1 e2=>?_⟩
   rw[Qaoo h7]at e1
   rw[r3]at e2
   by_cases hj:k≤j∧j<k+(y.v e).cells.length
   ·rw[if_pos hj]at e1
    rw[if_pos (by omega)]at e2
    exact .plain _ _ _ _ ((hcl.2 _ _ _ e1 (by rw[←e2];congr 1;omega)).mono hle)
   ·rw[if_neg hj]at e1
    rw[if_neg (by omega)]at e2
    exact Ql9 q2 hle (fun b' h=>Qay h) (by simp) (q5 j c v e1 e2)
  ·exact h6.elim
 |ep s z i k b off m cap hsl hz hin=>
  simp only[Qajg]at h6
  split at h6
  ·simp_all
  ·rename_i l sz st nn z' i' k' heq
   simp only[C.ep.injEq]at heq
   obtain⟨rfl,rfl,rfl,rfl⟩:=heq
   split at h6
   ·rename_i y' rows hH
    obtain⟨rfl,rfl,h7,h8,h9,h10⟩:=h6
    have hob:=hs.objs l
    rw[hH]at hob
    cases hsl with
    |vslnil=>omega
    |vsl _ _ _ _ _ _ base T mm hio hn hsh hmm=>
     obtain⟨b',base',T',cs,val,q1,q2,q3,q4,q5,q6,q7,q8⟩:=SatVec.of hob hio
     rw[hio]at q1
     simp only[Option.some.injEq,Prod.mk.injEq,true_and]at q1
     obtain⟨rfl,rfl⟩:=q1
     have hrow:rows[st+i]? = some (rows.getD (st+i) []):=by
      rw[List.getD_eq_getElem?_getD,List.getElem?_eq_getElem (by omega)];rfl
     generalize hrw:rows.getD (st+i) []=row at hrow h10
     have hrl:=q6 _ _ hrow
     have hfit:(st+i) * z+z≤rows.length * z:=by
      have:(st+i+1) * z≤rows.length * z:=Nat.mul_le_mul_right _ (by omega)
      rw[Nat.add_mul,Nat.one_mul]at this;exact this
     obtain⟨cs',r1,r2,r3⟩:=run b (base+st * z+i * z+k) cs T' rfl q3 (by
      have:st * z+i * z=(st+i) * z:=by rw[Nat.add_mul]
      omega)
     refine EOk.skip (g':=g) r1 h10 ?_
     refine Qnk hs q2 q3 r2 _ (by rw[hH];simp) (fun hle hw'=>?_) (by simp)
     have hfl:k+(y.v e).cells.length≤row.length:=by omega
     have hnew:∀(i2:Nat) (row2:List C) (j:Nat) (c:C),(rows.set (st+i) (Qzx row k (y.v e).cells))[i2]? = some row2→row2[j]? = some c→
       ∃v,cs'[base+i2 * z+j]? = some v∧RepO (World.putCells w b cs' T') g l [i2,j] c v:=by
      intro i2 row2 j c e1 e2
      have hst:st * z+i * z=(st+i) * z:=by rw[Nat.add_mul]
      rw[List.getElem?_set]at e1
      split at e1
      ·rename_i hii
       subst hii
       rw[if_pos (by omega)]at e1
       simp only[Option.some.injEq]at e1
       subst e1
       rw[Qaoo hfl]at e2
       by_cases hj:k≤j∧j<k+(y.v e).cells.length
       ·rw[if_pos hj]at e2
        have hjl:j-k<(a.eval y').cells.size:=by rw[hcl.1];omega
        refine⟨(a.eval y').cells[j-k],?_,?_⟩
        ·rw[r3,if_pos (by omega)]
         rw[show base+(st+i) * z+j-(base+st * z+i * z+k)=j-k by omega]
         exact Array.getElem?_eq_getElem hjl
        ·exact .plain _ _ _ _ ((hcl.2 _ _ _ e2 (Array.getElem?_eq_getElem hjl)).mono hle)
       ·rw[if_neg hj]at e2
        refine⟨val (st+i) j,?_,Ql9 q2 hle (fun b' h=>Qay h) (by simp) (q8 _ _ _ _ hrow e2)⟩
        rw[r3,if_neg (by omega)]
        exact q7 _ _ _ _ hrow e2
      ·rename_i hii
       have hj2:=q6 _ _ e1
       have hjlt:j<z:=by
        rw[←hj2]
        rcases Nat.lt_or_ge j row2.length with h|h
        ·exact h
        ·rw[List.getElem?_eq_none h]at e2;simp at e2
       refine⟨val i2 j,?_,Ql9 q2 hle (fun b' h=>Qay h) (by simp) (q8 _ _ _ _ e1 e2)⟩
       rw[r3,if_neg ?_]
       ·exact q7 _ _ _ _ e1 e2
       ·intro hcon
        rcases Nat.lt_or_ge i2 (st+i)with h|h
        ·have:(i2+1) * z≤(st+i) * z:=Nat.mul_le_mul_right _ (by omega)
         rw[Nat.add_mul,Nat.one_mul]at this
         omega
        ·have:(st+i+1) * z≤i2 * z:=Nat.mul_le_mul_right _ (by omega)
         rw[Nat.add_mul,Nat.one_mul]at this
         omega
     refine .inr ⟨b,base,T',cs',fun i2 j=>cs'.getD (base+i2 * z+j) undef,hio,q2,hw',by rw[r2];simpa using q4,by simpa using q5,fun i2 row2 e1=>?_,fun i2 row2 j c e1 e2=>?_,fun i2 row2 j c e1 e2=>?_⟩
     ·rw[List.getElem?_set]at e1
      split at e1
      ·rw[if_pos (by omega)]at e1
       simp only[Option.some.injEq]at e1
       subst e1
       rw[Qaop hfl];exact hrl
      ·exact q6 _ _ e1
     ·obtain⟨v,f1,f2⟩:=hnew i2 row2 j c e1 e2
      show _=some (cs'.getD (base+i2 * z+j) undef)
      rw[Array.getD_eq_getD_getElem?,f1];rfl
     ·obtain⟨v,f1,f2⟩:=hnew i2 row2 j c e1 e2
      show RepO _ _ _ _ _ (cs'.getD (base+i2 * z+j) undef)
      rw[Array.getD_eq_getD_getElem?,f1];exact f2
   ·exact h6.elim
  ·exact h6.elim
 |_=>simp[Qajg]at h6
end Go.AE

namespace Go.AE
variable {P:Program}{H:Heap}{g:G}{w:World}{e:Env}{a:Act}{o:Oper}{p:Bool}
theorem Qqk {i j n sz:Nat}(hi:i<n)(hj:j<sz):i * sz+j<n * sz:=by
 have:(i+1) * sz≤n * sz:=Nat.mul_le_mul_right _ (by omega)
 rw[Nat.add_mul,Nat.one_mul]at this
 omega
theorem Qanv {q n sz:Nat}(h:q<n * sz):q / sz<n∧q % sz<sz∧q / sz * sz+q % sz=q:=by
 have hz:0<sz:=by
  rcases Nat.eq_zero_or_pos sz with h0|h0
  ·subst h0;simp at h
  ·exact h0
 exact⟨Nat.div_lt_of_lt_mul (by rw[Nat.mul_comm];exact h),Nat.mod_lt _ hz,by rw[Nat.mul_comm];exact Nat.div_add_mod q sz⟩
theorem Qwz (hs:Sat H g w){s:C}{v:Value}(h:RepC w g s v)(ho:Qy4 H s){sz:Nat}(hz:s.elemSz=sz)(hn:∀r∈Q9 H s,noOw r=true) :
  ∃f:Nat→Value,(Builtin.firstCells sz (lenC s) v).run P w=.ok ((List.range (lenC s * sz)).map f).toArray w∧
   (∀q,q<lenC s * sz→(f q).oneCell'=true)∧
   ∀(i:Nat) (row:List C) (j:Nat) (c:C),(Q9 H s)[i]? = some row→row[j]? = some c→RepC w g c (f (i * sz+j)):=by
 obtain⟨ad,cap,rfl,h1,h2,h3,h4⟩:=Qq5 hs h ho
 by_cases h0:lenC s=0
 ·refine⟨fun _=>undef,?_,fun q hq=>by rw[h0]at hq;simp at hq,fun i row j c e1 _=>?_⟩
  ·rw[h0]
   cases ad with
   |none=>simp[Builtin.firstCells]
   |some x=>simp[Builtin.firstCells,loadCells,loadCellsFrom]
  ·have:(Q9 H s)[i]? = none:=List.getElem?_eq_none (by omega)
   rw[this]at e1;simp at e1
 ·obtain⟨b,off,rfl,h5⟩:=h4 h0
  rw[hz]at h3 h5
  have known:∀(i:Nat) (row:List C) (j:Nat) (c:C),(Q9 H s)[i]? = some row→row[j]? = some c→w.cell? ⟨b,off+(i * sz+j),none⟩=some (getV w b off (i * sz+j))∧RepC w g c (getV w b off (i * sz+j)):=by
   intro i row j c e1 e2
   obtain⟨u,k1,k2⟩:=h5 i row j c e1 e2 (Qa97 (hn row (List.mem_of_getElem? e1)) e2)
   rw[Nat.add_assoc]at k1
   simp only[getV,k1,Option.getD_some]
   exact⟨trivial,k2⟩
  have flat:∀q,q<lenC s * sz→w.cell? ⟨b,off+q,none⟩=some (getV w b off q)∧(getV w b off q).oneCell'=true:=by
   intro q hq
   obtain⟨a1,a2,a3⟩:=Qanv hq
   have e1:(Q9 H s)[q / sz]? = some ((Q9 H s)[q / sz]'(by omega)):=List.getElem?_eq_getElem (by omega)
   have hl:=h3 _ _ e1
   have e2:((Q9 H s)[q / sz]'(by omega))[q % sz]? = some (((Q9 H s)[q / sz]'(by omega))[q % sz]'(by omega)):=List.getElem?_eq_getElem (by omega)
   have:=known _ _ _ _ e1 e2
   rw[a3]at this
   exact⟨this.1,this.2.one⟩
  refine⟨getV w b off,?_,fun q hq=>(flat q hq).2,fun i row j c e1 e2=>(known i row j c e1 e2).2⟩
  simp only[Builtin.firstCells]
  exact run_loadCells w _ _ _ fun j hj=>by rw[Qba];exact (flat j hj).1
theorem Qata (n:Nat):∀(r c:Nat),Builtin.growBy n r c≤max c (n+(n+768) / 4)
 |0,c=>by simp[Builtin.growBy];omega
 |r+1,c=>by
  simp only[Builtin.growBy]
  split
  ·omega
  ·have:=Qata n r (c+(c+768) / 4)
   omega
theorem Qan5 {need cap:Nat}(h:cap<need):Builtin.nextslicecap need cap≤2 * need+512:=by
 unfold Builtin.nextslicecap
 split
 ·omega
 ·split
  ·omega
  ·have:=Qata need 4 cap
   omega
theorem Q57 {ats:Array TypeId}{ty t t2 el el2:TypeId}{i:TypeInfo}{sz:Nat}(h0:ats[0]? = some t)(h1:ats[1]? = some t2)(hu:P.underlying t=some (.slice el))(hu2:P.underlying t2=some (.slice el2))
  (hi:P.info? el=some i) (hz:i.size=sz) {base:Option Addr} {n cap m cap2:Nat} {a2:Option Addr} {f:Nat→Value} (hroom:n+m≤cap)
  (hf:(Builtin.firstCells sz m (.slice a2 m cap2)).run P w=.ok ((List.range (m * sz)).map f).toArray w)
  {w':World} (hst:∀x,base=some x→(storeCells (x.add (n * sz)) ((List.range (m * sz)).map f)).run P w=.ok () w') (hnone:base=none→w'=w) :
  (Builtin.append_ ats ty #[.slice base n cap,.slice a2 m cap2]).run P w=.ok (.slice base (n+m) cap) w':=by
 simp only[Builtin.append_,h0,h1]
 simp[Qx hu,Qx hu2,Qat hi,hz,Builtin.lenOf,hroom,hf]
 cases base with
 |none=>simp[hnone rfl]
 |some x=>simp[hst x rfl]
theorem Qan7 {ats:Array TypeId}{ty t t2 el el2:TypeId}{i:TypeInfo}{sz:Nat}{z:Value}(h0:ats[0]? = some t)(h1:ats[1]? = some t2)(hu:P.underlying t=some (.slice el))(hu2:P.underlying t2=some (.slice el2))
  (hi:P.info? el=some i) (hz:i.size=sz) (hzero:i.zero=some z) (hzs:z.cells.size=sz) (hby:i.bytes≤128) (hby0:i.bytes≠0) {base:Option Addr} {n cap m cap2:Nat} {a2:Option Addr} {f f1:Nat→Value} (hroom:¬n+m≤cap) (hlim:n+m≤LIM)
  (hf2:(Builtin.firstCells sz m (.slice a2 m cap2)).run P w.drew=.ok ((List.range (m * sz)).map f).toArray w.drew)
  (hf1:(Builtin.firstCells sz n (.slice base n cap)).run P w.drew=.ok ((List.range (n * sz)).map f1).toArray w.drew) :
  ∃(newCap:Nat) (rest:Array Value),n+m≤newCap∧rest.size=(newCap-(n+m)) * sz∧
   (Builtin.append_ ats ty #[.slice base n cap,.slice a2 m cap2]).run P w=.ok (.slice (some ⟨w.heap.size,0,none⟩) (n+m) newCap)
    (w.drew.alloc (.cells (((List.range (n * sz)).map f1).toArray++((List.range (m * sz)).map f).toArray++rest) el)):=by
 rw[Ql8]at hlim
 have hnc:=Qan5 (Nat.lt_of_not_le hroom)
 have hmul:Builtin.nextslicecap (n+m) cap * i.bytes≤(2 * (n+m)+512) * 128:=Nat.mul_le_mul hnc hby
 have h48:(2:Nat) ^ 48=281474976710656:=by decide
 generalize hnew:(Question.appendCap (n+m) cap el).cut (w.tape w.drawn (.appendCap (n+m) cap el))=newCap
 refine⟨newCap,Builtin.zeroCells z.cells (newCap-(n+m)),?_,?_,?_⟩
 ·rw[←hnew];simp[Question.cut]
 ·simp[Builtin.zeroCells,hzs]
 ·simp only[Builtin.append_,h0,h1]
  simp[Qx hu,Qx hu2,Qat hi,hz,Builtin.lenOf,hroom,Qij hi,hby0]
  rw[if_neg (by omega)]
  simp[Question.forced,hnew,hf1,hf2,Qhc hi hzero,newRow]
  rw[←Array.append_assoc];simp
def G.handOver (g:G)(l l' st n nb sz base:Nat):G:=
 { g with
  own:=fun b=>if b=nb then some (l',[])else match g.own b with
   |none=>none
   |some (m,[])=>if m=l then none else some (m,[])
   |some (m,i::r)=>if m=l then (if st≤i∧i<st+n then some (l',(i-st)::r)else none)else some (m,i::r)
  io:=fun x=>if x=l' then some (nb,sz,base)else g.io x }
theorem Qajq {l l' st n nb sz base b m:Nat}{q:List Nat}(hb:g.own b=some (m,q))(hm:m≠l)(hnb:b≠nb):(g.handOver l l' st n nb sz base).own b=some (m,q):=by
 simp only[G.handOver,if_neg hnb,hb]
 cases q with
 |nil=>simp[hm]
 |cons i r=>simp[hm]
theorem Qlx {l l' st n nb sz base b i:Nat}{r:List Nat}(hb:g.own b=some (l,(st+i)::r))(hi:i<n)(hnb:b≠nb):(g.handOver l l' st n nb sz base).own b=some (l',i::r):=by
 simp only[G.handOver,if_neg hnb,hb]
 simp[hi]
theorem Qn3 (hs:Sat H g w){l l':Nat}(hl':g.io l'=none)(hl:H l≠.none){st n nb sz base:Nat}{w':World}{rows:List (List C)}
  (hnb:(nb<w.heap.size∧g.own nb=some (l,[]))∨nb=w.heap.size) (hsz:w.heap.size≤w'.heap.size) (hnw:nb<w'.heap.size) (hsz':w'.heap.size≤max w.heap.size (nb+1)) (hot:∀b,b≠nb→b<w.heap.size→w'.heap[b]? = w.heap[b]?)
  (hsh:nb<w.heap.size→∀T k,w.shape? nb=some (T,k)→w'.shape? nb=some (T,k)) (ht:w'.tape=w.tape) (hos:w'.os=w.os) (hou:w'.output=w.output)
  (hob:Le g w (g.handOver l l' st n nb sz base) w'→SatVec (g.handOver l l' st n nb sz base) w' l' sz rows) (hnm:∀v es,H l≠.map v es) :
  Stp H g w ((H.set l .none).set l' (.vec sz rows)) (g.handOver l l' st n nb sz base) w':=by
 have hll:l≠l':=fun h=>by subst h;exact hl (hs.none_of_io hl')
 have hper:g.per nb=false:=by
  rcases hnb with ⟨_,h⟩|h
  ·exact hs.excl _ _ h
  ·exact (hs.fresh nb (by omega)).1
 have hle:Le g w (g.handOver l l' st n nb sz base) w':=by
  refine⟨fun b hb=>⟨hb,hot b (fun h=>by subst h;rw[hper]at hb;simp at hb) (Qbae hs hb)⟩,fun m x hm=>?_,hsz,fun b T k hn=>?_,ht,hos,hou⟩
  ·simp only[G.handOver]
   have:m≠l':=fun h=>by subst h;rw[hl']at hm;simp at hm
   rw[if_neg this];exact hm
  ·have hlt:=Qask hn
   by_cases h:b=nb
   ·subst h;exact hsh hlt T k hn
   ·rw[Qi1 (hot b h hlt)];exact hn
 have hne:∀(m b:Nat) (q:List Nat),g.own b=some (m,q)→m≠l→b≠nb:=by
  intro m b q hb hm h
  subst h
  rcases hnb with ⟨_,h⟩|h
  ·rw[hb]at h;simp at h;exact hm h.1
  ·have:=Qaff hs hb;omega
 have hk:∀m,m≠l→Q2w g w (g.handOver l l' st n nb sz base) w' m:=by
  intro m hm b q hb
  have h1:=hne m b q hb hm
  exact⟨Qajq hb hm h1,hot b h1 (Qaff hs hb)⟩
 refine⟨hle,fun m hm hn=>?_,⟨fun b hb=>?_,?_,fun b y hb=>?_,fun b m q hb=>?_,fun m=>?_⟩⟩
 ·have h1:m≠l':=fun h=>by subst h;exact hm hl'
  have h2:m≠l:=fun h=>by subst h;exact hl hn
  rw[Heap.set_other _ _ h1,Heap.set_other _ _ h2]
  exact⟨hn,fun b q hb=>hk m h2 b q hb⟩
 ·have h1:w.heap.size≤b:=by omega
  have h2:b≠nb:=by omega
  refine⟨(hs.fresh b h1).1,?_⟩
  simp only[G.handOver,if_neg h2,(hs.fresh b h1).2]
 ·obtain⟨N,hN⟩:=hs.names
  refine⟨max N (l'+1),fun m hm=>?_⟩
  simp only[G.handOver]
  rw[if_neg (by omega)]
  exact hN m (by omega)
 ·by_cases h:b=nb
  ·subst h;exact hper
  ·have:∃z,g.own b=some z:=by
    simp only[G.handOver,if_neg h]at hb
    cases ho:g.own b with
    |none=>rw[ho]at hb;simp at hb
    |some z=>exact⟨z,rfl⟩
   obtain⟨z,hz⟩:=this
   exact hs.excl b z hz
 ·simp only[G.handOver]at hb⊢
  split
  ·simp
  ·rename_i hml
   split at hb
   ·simp at hb;exact absurd hb.1.symm hml
   ·split at hb
    ·simp at hb
    ·rename_i m0 ho
     split at hb
     ·simp at hb
     ·simp at hb;obtain⟨rfl,rfl⟩:=hb;exact hs.named _ _ _ ho
    ·rename_i m0 i r ho
     split at hb
     ·split at hb
      ·simp at hb;exact absurd hb.1.symm hml
      ·simp at hb
     ·simp at hb;obtain⟨rfl,rfl⟩:=hb;exact hs.named _ _ _ ho
 ·by_cases hm':m=l'
  ·subst hm';rw[Heap.set_same];exact .inr (hob hle)
  ·rw[Heap.set_other _ _ hm']
   by_cases hm:m=l
   ·subst hm;rw[Heap.set_same];trivial
   ·have hH':((H.set l .none).set l' (.vec sz rows)) m=H m:=by rw[Heap.set_other _ _ hm',Heap.set_other _ _ hm]
    rw[Heap.set_other _ _ hm,←hH']
    refine SatObj.keep hs hle (hk m hm) hH' fun k v left cur hc v' es hv=>?_
    by_cases h1:k=l'
    ·subst h1;rw[Heap.set_same]at hv;simp at hv
    ·rw[Heap.set_other _ _ h1]at hv
     by_cases h2:k=l
     ·subst h2;rw[Heap.set_same]at hv;simp at hv
     ·rw[Heap.set_other _ _ h2]at hv
      exact .inl ⟨hv,hk k h2⟩
theorem Qjl {g':G}{w':World}{l' sz nb base n m:Nat}{T:TypeId}{arr:Array Value}{R1 R2:List (List C)}(hio:g'.io l'=some (nb,sz,base))(hown:g'.own nb=some (l',[]))
  (hw:w'.heap[nb]? = some (.cells arr T (0,0))) (hfit:base+(n+m) * sz≤arr.size) (hlim:n+m≤LIM) (hR1:R1.length=n) (hR2:R2.length=m)
  (hl1:∀(i:Nat) (row:List C),R1[i]? = some row→row.length=sz) (hl2:∀(i:Nat) (row:List C),R2[i]? = some row→row.length=sz)
  (h1:∀(i:Nat) (row:List C) (j:Nat) (c:C),R1[i]? = some row→row[j]? = some c→∃v,arr[base+i * sz+j]? = some v∧RepO w' g' l' [i,j] c v)
  (h2:∀(i:Nat) (row:List C) (j:Nat) (c:C),R2[i]? = some row→row[j]? = some c→∃v,arr[base+(n+i) * sz+j]? = some v∧RepC w' g' c v) :
  SatVec g' w' l' sz (R1++R2):=by
 have hall:∀(i:Nat) (row:List C) (j:Nat) (c:C),(R1++R2)[i]? = some row→row[j]? = some c→∃v,arr[base+i * sz+j]? = some v∧RepO w' g' l' [i,j] c v:=by
  intro i row j c e1 e2
  by_cases hi:i<n
  ·rw[List.getElem?_append_left (by omega)]at e1;exact h1 i row j c e1 e2
  ·rw[List.getElem?_append_right (by omega)]at e1
   obtain⟨v,k1,k2⟩:=h2 (i-R1.length) row j c e1 e2
   rw[hR1,show n+(i-n)=i by omega]at k1
   exact⟨v,k1,.plain _ _ _ _ k2⟩
 refine⟨nb,base,T,arr,fun i j=>arr.getD (base+i * sz+j) undef,hio,hown,hw,by rw[List.length_append,hR1,hR2];exact hfit,by rw[List.length_append,hR1,hR2];exact hlim,fun i row e1=>?_,fun i row j c e1 e2=>?_,fun i row j c e1 e2=>?_⟩
 ·by_cases hi:i<n
  ·rw[List.getElem?_append_left (by omega)]at e1;exact hl1 i row e1
  ·rw[List.getElem?_append_right (by omega)]at e1;exact hl2 _ row e1
 ·obtain⟨v,k1,k2⟩:=hall i row j c e1 e2
  show _=some (arr.getD (base+i * sz+j) undef)
  rw[Array.getD_eq_getD_getElem?,k1];rfl
 ·obtain⟨v,k1,k2⟩:=hall i row j c e1 e2
  show RepO _ _ _ _ _ (arr.getD (base+i * sz+j) undef)
  rw[Array.getD_eq_getD_getElem?,k1];exact k2
theorem Q40 {n m sz:Nat}{f1 f:Nat→Value}{rest:Array Value} :
  (∀i j,i<n→j<sz→(((List.range (n * sz)).map f1).toArray++((List.range (m * sz)).map f).toArray++rest)[0+i * sz+j]? = some (f1 (i * sz+j)))∧
  (∀i j,i<m→j<sz→(((List.range (n * sz)).map f1).toArray++((List.range (m * sz)).map f).toArray++rest)[0+(n+i) * sz+j]? = some (f (i * sz+j))):=by
 constructor
 ·intro i j hi hj
  have:=Qqk hi hj
  rw[Array.append_assoc,Array.getElem?_append_left (by simp;omega)]
  simp only[List.getElem?_toArray,List.getElem?_map,Nat.zero_add]
  rw[List.getElem?_range this];rfl
 ·intro i j hi hj
  have:=Qqk hi hj
  have e0:0+(n+i) * sz+j=n * sz+(i * sz+j):=by rw[Nat.add_mul];omega
  rw[e0,Array.append_assoc,Array.getElem?_append_right (by simp)]
  rw[Array.getElem?_append_left (by simp;omega)]
  simp only[List.getElem?_toArray,List.getElem?_map,List.size_toArray,List.length_map,List.length_range,Nat.add_sub_cancel_left]
  rw[List.getElem?_range this];rfl
def G.newVirt (g:G)(l sz:Nat):G:={ g with io:=fun x=>if x=l then some (0,sz+1,0)else g.io x }
theorem Qrw (hs:Sat H g w){l:Nat}(hl:g.io l=none)(sz:Nat):Stp H g w (H.set l (.vec sz [])) (g.newVirt l sz) w:=by
 have hle:Le g w (g.newVirt l sz) w:=by
  refine⟨fun b hb=>⟨hb,rfl⟩,fun m x hm=>?_,Nat.le_refl _,fun _ _ _ h=>h,rfl,rfl,rfl⟩
  simp only[G.newVirt]
  have:m≠l:=fun h=>by subst h;rw[hl]at hm;simp at hm
  rw[if_neg this];exact hm
 have hk:∀m,Q2w g w (g.newVirt l sz) w m:=fun m b q hb=>⟨hb,rfl⟩
 refine⟨hle,fun m hm hn=>?_,⟨hs.fresh,?_,hs.excl,fun b m q hb=>?_,fun m=>?_⟩⟩
 ·have:m≠l:=fun h=>by subst h;exact hm hl
  rw[Heap.set_other _ _ this]
  exact⟨hn,fun b q hb=>hk m b q hb⟩
 ·obtain⟨N,hN⟩:=hs.names
  refine⟨max N (l+1),fun m hm=>?_⟩
  simp only[G.newVirt]
  rw[if_neg (by omega)]
  exact hN m (by omega)
 ·simp only[G.newVirt]
  split
  ·simp
  ·exact hs.named b m q hb
 ·by_cases hm:m=l
  ·subst hm;rw[Heap.set_same];exact .inl ⟨rfl,_,by simp[G.newVirt];rfl,by simp⟩
  ·have hH':=Heap.set_other H (.vec sz []) hm
   rw[hH',←hH']
   refine SatObj.keep hs hle (hk m) hH' fun m' v left cur hc v' es hv=>?_
   by_cases hm':m'=l
   ·subst hm';rw[Heap.set_same]at hv;simp at hv
   ·rw[Heap.set_other _ _ hm']at hv
    exact .inl ⟨hv,hk m'⟩
theorem Qa33 (hs:Sat H g w)(l:Nat)(hm:∀v es,H l≠.map v es):Stp H g w (H.set l .none) g w:=by
 refine⟨.refl _ _,fun m hm hn=>?_,⟨hs.fresh,hs.names,hs.excl,hs.named,fun m=>?_⟩⟩
 ·by_cases h:m=l
  ·subst h;rw[Heap.set_same];exact⟨rfl,fun b q hb=>⟨hb,rfl⟩⟩
  ·rw[Heap.set_other _ _ h];exact⟨hn,fun b q hb=>⟨hb,rfl⟩⟩
 ·by_cases h:m=l
  ·subst h;rw[Heap.set_same];trivial
  ·have hH':=Heap.set_other H .none h
   rw[hH',←hH']
   refine SatObj.keep hs (.refl _ _) (fun b q hb=>⟨hb,rfl⟩) hH' fun m' v left cur hc v' es hv=>?_
   by_cases hm':m'=l
   ·subst hm';rw[Heap.set_same]at hv;simp at hv
   ·rw[Heap.set_other _ _ hm']at hv
    exact .inl ⟨hv,fun b q hb=>⟨hb,rfl⟩⟩
theorem Qbk6 {sz:Nat}{x y:Opd}{x' y':Operand}{ats:Array TypeId}{t t2 el el2:TypeId}{i:TypeInfo}{z:Value}{K:V→Heap→Prop}
  (hm:o.op=.call { callee:=.builtin .append,args:=#[x',y'],argTypes:=ats }) (h0:ats[0]? = some t) (h1:ats[1]? = some t2) (hu:P.underlying t=some (.slice el)) (hu2:P.underlying t2=some (.slice el2))
  (hi:P.info? el=some i) (hz:i.size=sz) (hzero:i.zero=some z) (hzs:z.cells.size=sz) (hby:i.bytes≤128) (hby0:i.bytes≠0) (hx:mO x x'=true) (hy:mO y y'=true)
  (hs:Sat H g w) (he:EnvOk w g e a) (hp:p=true) (ho:(EOp.app sz x y).eff P p e H K):EOk P H g w a o K:=by
 simp only[EOp.eff]at ho
 obtain⟨q1,q2,q3,q4,q5⟩:=ho
 have hrx:=Qaa he hx hp q1
 have hry:=Qaa he hy hp q2
 rw[Qdd q3]at hrx
 rw[Qdd q4]at hry
 have hcx:=hrx.c_inv
 have hcy:=hry.c_inv
 generalize hqx:a.eval x'=xv at hcx
 generalize hqy:a.eval y'=yv at hcy
 generalize (x.v e).c1=A at hcx q5
 generalize (y.v e).c1=B at hcy q5
 have hexec:(execOp a.eval o).run P w=((Builtin.append_ ats o.type #[xv,yv]).run P w).andThen fun v w'=>.ok (.value v) w':=by
  simp[execOp,hm,resolve,invoke,builtin,hqx,hqy]
 unfold appT at q5
 obtain⟨b1,b2,q5⟩:=q5
 obtain⟨ady,capy,hyv,by1,by2,by3,by4⟩:=Qq5 hs hcy b1
 rw[b2]at by3
 have hsd:=Qasn hs
 split at q5
 ·
  rename_i z' rows
  obtain⟨rfl,c2,c3,c4,c5⟩:=q5
  have hnB:∀r∈Q9 H B,noOw r=true:=fun r hr=>c3 r (List.mem_append_right _ hr)
  have hxv:∃ad,xv=.slice ad rows.length rows.length:=by
   cases hcx with
   |slnil _ _ ad=>exact⟨ad,rfl⟩
   |sl _ _ _ b off cap val hl hf hcap hper hrw hce hva=>rw[hf rfl];exact⟨_,rfl⟩
  obtain⟨ad,rfl⟩:=hxv
  by_cases hm0:lenC B=0
  ·have hrows:rows=[]:=by
    rcases c2 with h|h
    ·exact h
    ·exact absurd (List.length_eq_zero_iff.1 (by omega)) h
   subst hrows
   obtain⟨l,hl,hHl⟩:=hs.newName
   obtain⟨f,f1,f2,f3⟩:=Qwz hs hcy b1 b2 hnB
   rw[hyv]at f1
   have hrun:=Q57 (P:=P) (w:=w) (ty:=o.type) (base:=ad) (n:=0) (cap:=0) (m:=lenC B) h0 h1 hu hu2 hi hz (by omega) f1 (w':=w)
    (fun x _=>by rw[hm0];simp[storeCells]) (fun _=>rfl)
   refine EOk.value (v:=.slice ad (0+lenC B) 0) (by rw[hexec,hyv];simp only[List.length_nil];rw[hrun];rfl) (c5 l hHl) ?_ ?_ (g':=g.newVirt l z')
   ·have hrB:Q9 H B=[]:=List.length_eq_zero_iff.1 (by omega)
    rw[hrB]
    exact Qrw hs hl z'
   ·simp only[List.length_nil,hm0,Nat.add_zero]
    exact .c _ _ (.vslnil _ _ _ _)
  ·obtain⟨l,hl,hHl⟩:=hsd.sat.newName
   have hcxd:=hcx.mono hsd.le
   have hcyd:=hcy.mono hsd.le
   have hA:∀r∈Q9 H (C.sl true z' rows),noOw r=true:=fun r hr=>c3 r (List.mem_append_left _ hr)
   obtain⟨f,f1,f2,f3⟩:=Qwz hsd.sat hcyd b1 b2 hnB
   obtain⟨f',f1',f2',f3'⟩:=Qwz hsd.sat hcxd (s:=.sl true z' rows) trivial (sz:=z') rfl hA
   rw[hyv]at f1
   simp only[lenC]at f1'
   obtain⟨newCap,rest,k1,k2,k3⟩:=Qan7 (P:=P) (w:=w) (ty:=o.type) h0 h1 hu hu2 hi hz hzero hzs hby hby0 (base:=ad) (n:=rows.length) (cap:=rows.length) (m:=lenC B) (by omega) c4 f1 f1'
   have hget:=Q40 (n:=rows.length) (m:=lenC B) (sz:=z') (f1:=f') (f:=f) (rest:=rest)
   generalize harr:(((List.range (rows.length * z')).map f').toArray++((List.range (lenC B * z')).map f).toArray++rest)=arr at k3 hget
   have hasz:arr.size=newCap * z':=by
    rw[←harr];simp[k2]
    rw[←Nat.add_mul,←Nat.add_mul];congr 1;omega
   have hst:=Qcl hsd.sat hl z' 0 (.cells arr el) (.vec z' (rows++Q9 H B)) (fun g' hg=>by
    subst hg
    have hle:=Qi5 hsd.sat hl z' 0 (.cells arr el)
    refine .inr (Qjl (nb:=w.drew.heap.size) (base:=0) (T:=el) (arr:=arr) (n:=rows.length) (m:=lenC B) (by simp[G.newObj]) (by simp[G.newObj]) (Qa3 _ _)
     (by rw[hasz,Nat.zero_add];exact Nat.mul_le_mul_right _ k1) c4 rfl (by omega) ?_ by3 ?_ ?_)
    ·cases hcx with
     |slnil=>simp
     |sl _ _ _ b off cap val hl hf hcap hper hrw hce hva=>exact hrw
    ·intro i row j c e1 e2
     have hlr:row.length=z':=by
      cases hcx with
      |slnil=>simp at e1
      |sl _ _ _ b off cap val hl hf hcap hper hrw hce hva=>exact hrw _ _ e1
     refine⟨f' (i * z'+j),hget.1 i j ?_ ?_,.plain _ _ _ _ ((f3' i row j c e1 e2).mono hle)⟩
     ·rcases Nat.lt_or_ge i rows.length with h|h
      ·exact h
      ·rw[List.getElem?_eq_none h]at e1;simp at e1
     ·rw[←hlr]
      rcases Nat.lt_or_ge j row.length with h|h
      ·exact h
      ·rw[List.getElem?_eq_none h]at e2;simp at e2
    ·intro i row j c e1 e2
     refine⟨f (i * z'+j),hget.2 i j ?_ ?_,(f3 i row j c e1 e2).mono hle⟩
     ·rcases Nat.lt_or_ge i (Q9 H B).length with h|h
      ·omega
      ·rw[List.getElem?_eq_none h]at e1;simp at e1
     ·rw[←by3 i row e1]
      rcases Nat.lt_or_ge j row.length with h|h
      ·exact h
      ·rw[List.getElem?_eq_none h]at e2;simp at e2)
   refine EOk.value (v:=.slice (some ⟨w.heap.size,0,none⟩) (rows.length+lenC B) newCap) (by rw[hexec,hyv,k3];rfl) (c5 l hHl) (hsd.trans hst) ?_
   have:=RepC.vsl (w:=w.drew.alloc (.cells arr el)) (g:=g.newObj l w.drew.heap.size z' 0) l z' 0 (rows.length+lenC B) newCap w.heap.size 0 el arr.size (by simp[G.newObj]) k1
    (by simp only[World.shape?];rw[show w.heap.size=w.drew.heap.size from rfl,Qa3]) (by rw[hasz];simp)
   simpa using RepV.c _ _ this
 ·
  rename_i l z' st n
  split at q5
  ·rename_i y0 rows hH
   obtain⟨hzz1,hyy1,c2,hnB,c4,c5⟩:=q5
   subst hyy1
   subst hzz1
   have hob:=hs.objs l
   rw[hH]at hob
   have hlne:H l≠.none:=by rw[hH];simp
   have hnomap:∀v es,H l≠.map v es:=by rw[hH];simp
   have hcases:(∃ad,xv=.slice ad 0 0∧n=0)∨∃b base cap T mm,xv=.slice (some ⟨b,base+st * z',none⟩) n cap∧g.io l=some (b,z',base)∧n≤cap∧w.shape? b=some (T,mm)∧base+(st+cap) * z'≤mm:=by
    cases hcx with
    |vslnil _ _ _ ad=>exact .inl ⟨ad,rfl,rfl⟩
    |vsl _ _ _ _ cap b base T mm hio hn hsh hmm=>exact .inr ⟨b,base,cap,T,mm,rfl,hio,hn,hsh,hmm⟩
   have htk:((rows.drop st).take n).length=n:=by simp;omega
   have hrowt:∀(i:Nat) (row:List C),((rows.drop st).take n)[i]? = some row→i<n∧rows[st+i]? = some row:=by
    intro i row h
    simp only[List.getElem?_take,List.getElem?_drop]at h
    split at h
    ·exact⟨by assumption,h⟩
    ·simp at h
   have jlt:∀{row:List C} {j:Nat} {c:C} {k:Nat},row.length=k→row[j]? = some c→j<k:=by
    intro row j c k hk hj
    rw[←hk]
    rcases Nat.lt_or_ge j row.length with h|h
    ·exact h
    ·rw[List.getElem?_eq_none h]at hj;simp at hj
   have grow:∀(ad:Option Addr) (cap:Nat),xv=.slice ad n cap→¬n+lenC B≤cap→EOk P H g w a o K:=by
    intro ad cap hxv hng
    have hcyd:=hcy.mono hsd.le
    obtain⟨f,f1,f2,f3⟩:=Qwz hsd.sat hcyd b1 b2 hnB
    rw[hyv]at f1
    have hold:∃f':Nat→Value,(Builtin.firstCells z' n (.slice ad n cap)).run P w.drew=.ok ((List.range (n * z')).map f').toArray w.drew∧
      ∀(i:Nat) (row:List C) (j:Nat) (c:C),((rows.drop st).take n)[i]? = some row→row[j]? = some c→RepO w g l [st+i,j] c (f' (i * z'+j)):=by
     rcases hcases with ⟨ad',h1,h2⟩|⟨b,base,cap',T,mm,h1,h2,h3,h4,h5⟩
     ·rw[hxv]at h1;simp only[Value.slice.injEq]at h1
      subst h2
      refine⟨fun _=>undef,?_,fun i row j c e1 _=>by simp at e1⟩
      cases ad with
      |none=>simp[Builtin.firstCells]
      |some q=>simp[Builtin.firstCells,loadCells,loadCellsFrom]
     ·rw[hxv]at h1;simp only[Value.slice.injEq]at h1
      obtain⟨rfl,_,rfl⟩:=h1
      obtain⟨b',base',T',cs,val,r1,r2,r3,r4,r5,r6,r7,r8⟩:=SatVec.of hob h2
      rw[h2]at r1
      simp only[Option.some.injEq,Prod.mk.injEq,true_and]at r1
      obtain⟨rfl,rfl⟩:=r1
      have hfit:(st+n) * z'≤rows.length * z':=Nat.mul_le_mul_right _ c2
      rw[Nat.add_mul]at hfit
      refine⟨fun q=>cs.getD (base+st * z'+q) undef,?_,fun i row j c e1 e2=>?_⟩
      ·simp only[Builtin.firstCells]
       refine run_loadCells _ _ _ _ fun j hj=>?_
       rw[Qba]
       rw[show w.drew.cell? ⟨b,base+st * z'+j,none⟩=w.cell? ⟨b,base+st * z'+j,none⟩ from rfl,Qdy r3]
       rw[Array.getD_eq_getD_getElem?,Array.getElem?_eq_getElem (by omega)];rfl
      ·obtain⟨hi,e1'⟩:=hrowt i row e1
       have:=r7 _ _ _ _ e1' e2
       rw[Nat.add_mul]at this
       have e3:base+st * z'+(i * z'+j)=base+(st * z'+i * z')+j:=by omega
       show RepO _ _ _ _ _ (cs.getD (base+st * z'+(i * z'+j)) undef)
       rw[e3,Array.getD_eq_getD_getElem?,this]
       exact r8 _ _ _ _ e1' e2
    obtain⟨f',f1',f3'⟩:=hold
    obtain⟨newCap,rest,k1,k2,k3⟩:=Qan7 (P:=P) (w:=w) (ty:=o.type) h0 h1 hu hu2 hi hz hzero hzs hby hby0 (base:=ad) (n:=n) (cap:=cap) (m:=lenC B) hng c4 f1 f1'
    have hget:=Q40 (n:=n) (m:=lenC B) (sz:=z') (f1:=f') (f:=f) (rest:=rest)
    generalize harr:(((List.range (n * z')).map f').toArray++((List.range (lenC B * z')).map f).toArray++rest)=arr at k3 hget
    have hasz:arr.size=newCap * z':=by
     rw[←harr];simp[k2]
     rw[←Nat.add_mul,←Nat.add_mul];congr 1;omega
    obtain⟨l',hl',hHl'⟩:=hsd.sat.newName
    have hll:l'≠l:=fun h=>by subst h;exact hlne (hs.none_of_io hl')
    have hst:=Qn3 hsd.sat (l:=l) (l':=l') hl' hlne (st:=st) (n:=n) (nb:=w.drew.heap.size) (sz:=z') (base:=0) (w':=w.drew.alloc (.cells arr el)) (rows:=(rows.drop st).take n++Q9 H B)
     (.inr rfl) (by simp) (by simp) (by simp) (fun b hb hlt=>Qdx _ _ hlt) (fun h=>absurd h (Nat.lt_irrefl _)) rfl rfl rfl (fun hle=>by
      refine Qjl (nb:=w.drew.heap.size) (base:=0) (T:=el) (arr:=arr) (n:=n) (m:=lenC B) (by simp[G.handOver]) (by simp[G.handOver]) (Qa3 _ _)
       (by rw[hasz,Nat.zero_add];exact Nat.mul_le_mul_right _ k1) c4 htk (by omega) (fun i row h=>?_) by3 (fun i row j c e1 e2=>?_) (fun i row j c e1 e2=>?_)
      ·obtain⟨hi,h'⟩:=hrowt i row h
       rcases hob with ⟨r1,_⟩|⟨b',base',T',cs,val,r1,r2,r3,r4,r5,r6,r7,r8⟩
       ·rw[r1]at h';simp at h'
       ·exact r6 _ _ h'
      ·obtain⟨hi,h'⟩:=hrowt i row e1
       have hrl:row.length=z':=by
        rcases hob with ⟨r1,_⟩|⟨b',base',T',cs,val,r1,r2,r3,r4,r5,r6,r7,r8⟩
        ·rw[r1]at h';simp at h'
        ·exact r6 _ _ h'
       refine⟨f' (i * z'+j),hget.1 i j hi (jlt hrl e2),?_⟩
       refine (f3' i row j c e1 e2).move (hsd.le.trans hle) fun q b hb=>?_
       have hbl:=Qaff hs hb
       have hbn:b≠w.drew.heap.size:=by simp only[World.size_drew];omega
       exact⟨Qlx hb hi hbn,Qdx _ _ hbl⟩
      ·refine⟨f (i * z'+j),hget.2 i j ?_ (jlt (by3 i row e1) e2),(f3 i row j c e1 e2).mono hle⟩
       rcases Nat.lt_or_ge i (Q9 H B).length with h|h
       ·omega
       ·rw[List.getElem?_eq_none h]at e1;simp at e1) hnomap
    refine EOk.value (v:=.slice (some ⟨w.heap.size,0,none⟩) (n+lenC B) newCap) (by rw[hexec,hxv,hyv,k3];rfl) (c5 l' (by rw[Heap.set_other _ _ hll];exact hHl')) (hsd.trans hst) ?_
    have:=RepC.vsl (w:=w.drew.alloc (.cells arr el)) (g:=g.handOver l l' st n w.drew.heap.size z' 0) l' z' 0 (n+lenC B) newCap w.heap.size 0 el arr.size (by simp[G.handOver]) k1
     (by simp only[World.shape?];rw[show w.heap.size=w.drew.heap.size from rfl,Qa3]) (by rw[hasz];simp)
    simpa using RepV.c _ _ this
   rcases hcases with ⟨ad,hxv,rfl⟩|⟨b,base,cap,T,mm,hxv,hio,hncap,hsh,hmm⟩
   ·by_cases hm0:lenC B=0
    ·
     obtain⟨f,f1,f2,f3⟩:=Qwz hs hcy b1 b2 hnB
     rw[hyv]at f1
     have hrun:=Q57 (P:=P) (w:=w) (ty:=o.type) (base:=ad) (n:=0) (cap:=0) (m:=lenC B) h0 h1 hu hu2 hi hz (by omega) f1 (w':=w)
      (fun x _=>by rw[hm0];simp[storeCells]) (fun _=>rfl)
     have hd:=Qa33 hs l hnomap
     obtain⟨l',hl',hHl'⟩:=hd.sat.newName
     refine EOk.value (v:=.slice ad (0+lenC B) 0) (by rw[hexec,hxv,hyv,hrun];rfl) (c5 l' hHl') ?_ ?_ (g':=g.newVirt l' z')
     ·have hrB:Q9 H B=[]:=List.length_eq_zero_iff.1 (by omega)
      rw[hrB]
      simp only[List.take_zero,List.append_nil]
      exact hd.trans (Qrw hd.sat hl' z')
     ·simp only[hm0,Nat.add_zero]
      exact .c _ _ (.vslnil _ _ _ _)
    ·exact grow ad 0 hxv (by omega)
   ·by_cases hroom:n+lenC B≤cap
    ·
     obtain⟨b',base',T',cs,val,r1,r2,r3,r4,r5,r6,r7,r8⟩:=SatVec.of hob hio
     rw[hio]at r1
     simp only[Option.some.injEq,Prod.mk.injEq,true_and]at r1
     obtain⟨rfl,rfl⟩:=r1
     have hmms:mm=cs.size∧T=T':=by
      simp only[World.shape?,r3,Option.some.injEq,Prod.mk.injEq]at hsh
      exact⟨hsh.2.symm,hsh.1.symm⟩
     obtain⟨rfl,rfl⟩:=hmms
     obtain⟨f,f1,f2,f3⟩:=Qwz hs hcy b1 b2 hnB
     rw[hyv]at f1
     have hcapz:(st+(n+lenC B)) * z'≤(st+cap) * z':=Nat.mul_le_mul_right _ (by omega)
     rw[Nat.add_mul,Nat.add_mul]at hcapz
     have hfit:base+st * z'+n * z'+lenC B * z'≤cs.size:=by
      rw[Nat.add_mul]at hmm hcapz
      omega
     have hfold:=fun k=>Qqt (base+st * z'+n * z') ((List.range (lenC B * z')).map f) 0 cs k (by simp;omega)
     generalize hcs':(((List.range (lenC B * z')).map f).zipIdx 0).foldl (fun (cs:Array Value) (x:Value×Nat)=>cs.setIfInBounds (base+st * z'+n * z'+x.2) x.1) cs=cs' at hfold
     have hstore:=Qfy (P:=P) ((List.range (lenC B * z')).map f) 0 w b (base+st * z'+n * z') cs T r3 (by simp;omega) (by
      intro v hv
      simp only[List.mem_map,List.mem_range]at hv
      obtain⟨q,hq,rfl⟩:=hv
      exact f2 q hq)
     rw[hcs']at hstore
     have hrun:=Q57 (P:=P) (w:=w) (ty:=o.type) (base:=some ⟨b,base+st * z',none⟩) (n:=n) (cap:=cap) (m:=lenC B) h0 h1 hu hu2 hi hz hroom f1 (w':=World.putCells w b cs' T)
      (fun x hx=>by simp only[Option.some.injEq]at hx;subst hx;rw[Qba];exact hstore) (fun h=>by simp at h)
     have hblt:=Qqf r3
     obtain⟨l',hl',hHl'⟩:=hs.newName
     have hll:l'≠l:=fun h=>by subst h;exact hlne (hs.none_of_io hl')
     have hsz':cs'.size=cs.size:=(hfold 0).1
     have hst:=Qn3 hs (l:=l) (l':=l') hl' hlne (st:=st) (n:=n) (nb:=b) (sz:=z') (base:=base+st * z') (w':=World.putCells w b cs' T) (rows:=(rows.drop st).take n++Q9 H B)
      (.inl ⟨hblt,r2⟩) (by simp[World.putCells]) (by simp[World.putCells];exact hblt) (by simp[World.putCells];omega) (fun b' hb' _=>Qay hb')
      (fun _ T0 k hk=>by
       simp only[World.shape?,r3,Option.some.injEq,Prod.mk.injEq]at hk
       simp only[World.shape?,Qbm hblt,hsz',Option.some.injEq,Prod.mk.injEq]
       exact hk) rfl rfl rfl (fun hle=>by
       refine Qjl (nb:=b) (base:=base+st * z') (T:=T) (arr:=cs') (n:=n) (m:=lenC B) (by simp[G.handOver]) (by simp[G.handOver]) (Qbm hblt)
        (by rw[hsz',Nat.add_mul];omega) c4 htk (by omega) (fun i row h=>r6 _ _ (hrowt i row h).2) by3 (fun i row j c e1 e2=>?_) (fun i row j c e1 e2=>?_)
       ·obtain⟨hi,h'⟩:=hrowt i row e1
        have hj:=jlt (r6 _ _ h') e2
        have hlt:=Qqk hi hj
        refine⟨val (st+i) j,?_,?_⟩
        ·rw[(hfold _).2,if_neg (by omega),←r7 _ _ _ _ h' e2]
         congr 1;rw[Nat.add_mul];omega
        ·refine (r8 _ _ _ _ h' e2).move hle fun q b2 hb2=>?_
         have hbn:b2≠b:=fun h=>by subst h;rw[r2]at hb2;simp at hb2
         exact⟨Qlx hb2 hi hbn,Qay hbn⟩
       ·have hj:=jlt (by3 i row e1) e2
        have hi:i<lenC B:=by
         rcases Nat.lt_or_ge i (Q9 H B).length with h|h
         ·omega
         ·rw[List.getElem?_eq_none h]at e1;simp at e1
        have hlt:=Qqk hi hj
        refine⟨f (i * z'+j),?_,(f3 i row j c e1 e2).mono hle⟩
        have hmul:(n+i) * z'=n * z'+i * z':=by rw[Nat.add_mul]
        rw[(hfold _).2,if_pos (by simp;omega)]
        rw[show base+st * z'+(n+i) * z'+j-(base+st * z'+n * z'+0)=i * z'+j by omega]
        simp only[List.getElem?_map]
        rw[List.getElem?_range hlt];rfl) hnomap
     refine EOk.value (v:=.slice (some ⟨b,base+st * z',none⟩) (n+lenC B) cap) (by rw[hexec,hxv,hyv,hrun];rfl) (c5 l' (by rw[Heap.set_other _ _ hll];exact hHl')) hst ?_
     have:=RepC.vsl (w:=World.putCells w b cs' T) (g:=g.handOver l l' st n b z' (base+st * z')) l' z' 0 (n+lenC B) cap b (base+st * z') T cs.size (by simp[G.handOver]) hroom
      (by simp only[World.shape?,Qbm hblt,hsz']) (by rw[Nat.zero_add];rw[Nat.add_mul]at hmm;omega)
     simpa using RepV.c _ _ this
    ·exact grow _ cap hxv hroom
  ·exact q5.elim
 ·exact q5.elim
end Go.AE

namespace Go.AE
open Go.MapKept (IsKey findNow_spec run_checkKey run_findKey run_keyThatStays)
variable {P:Program}{H:Heap}{g:G}{w:World}{e:Env}{a:Act}{o:Oper}{p:Bool}
theorem Qblc {sz:Nat}{zero:List C}{x:Opd}{x' y':Operand}{t el:TypeId}{i:TypeInfo}{z:Value}{K:V→Heap→Prop}(hm:o.op=.makeSlice t x' y')(hu:P.underlying t=some (.slice el))
  (hi:P.info? el=some i) (hz:i.size=sz) (hz0:sz≠0) (hzero:i.zero=some z) (hzl:Qani zero z=true) (hzs:zero.length=sz) (hby:i.bytes≤128) (hx:mO x x'=true) (hy:mO x y'=true)
  (hs:Sat H g w) (he:EnvOk w g e a) (hp:p=true) (ho:(EOp.mks sz zero x).eff P p e H K):EOk P H g w a o K:=by
 simp only[EOp.eff]at ho
 obtain⟨q1,q2,q3,q4,q5⟩:=ho
 have e1:=Qnj he hx hp q1 q2
 have e2:=Qnj he hy hp q1 q2
 generalize hk:Q0 (x.v e)=k at *
 have hr:=Qm7 (w:=w) (g:=g) hzl
 rw[Ql8]at q4
 have hwr:IntKind.i64.wrap k=k:=Q8h (by unfold inR;simp[IntKind.min,IntKind.max,IntKind.signed,IntKind.bits];omega)
 have hbk:(i.bytes:Int) * k≤128 * 549755813888:=by
  have h1:(i.bytes:Int) * k≤128 * k:=Int.mul_le_mul_of_nonneg_right (by omega) q3
  omega
 have h48:(2:Int) ^ 48=281474976710656:=by decide
 obtain⟨l,hl,hH⟩:=hs.newName
 have hzc:z.cells.size=sz:=by rw[hr.1,hzs]
 have hn0:k.toNat * sz=0∨k.toNat * sz≠0:=by omega
 have hrun:∃arr:Array Value,(execOp a.eval o).run P w=.ok (.value (.slice (some ⟨w.heap.size,0,none⟩) k.toNat k.toNat)) (w.alloc (.cells arr el))∧arr.size=k.toNat * sz∧
   ∀q,q<k.toNat * sz→arr[q]? = z.cells[q % sz]?:=by
  by_cases hn:k.toNat * sz=0
  ·refine⟨(Array.range 0).map (fun _=>default),?_,by simp[hn],fun q hq=>by omega⟩
   simp only[execOp,hm,e1,e2,Instr.makeSlice,Sem.run_bind,Qx hu,Result.andThen_ok,asInt,asIntOf,Sem.run_pure,Qij hi,hwr]
   rw[if_neg (by simp;omega)]
   simp[Qat hi,hz,hn,newRow]
  ·refine⟨(Array.range (k.toNat * sz)).map (z.cells[· % z.cells.size]!),?_,by simp,fun q hq=>?_⟩
   ·simp only[execOp,hm,e1,e2,Instr.makeSlice,Sem.run_bind,Qx hu,Result.andThen_ok,asInt,asIntOf,Sem.run_pure,Qij hi,hwr]
    rw[if_neg (by simp;omega)]
    simp only[Sem.run_bind,run_askRoom,Result.andThen_ok,Qat hi,hz,if_neg hn,Qhc hi hzero,Sem.run_pure]
    simp[newRow]
   ·have hlt:q % sz<z.cells.size:=by rw[hzc];exact Nat.mod_lt _ (by omega)
    simp only[Array.getElem?_map,hzc]
    rw[Array.getElem?_range,if_pos hq]
    simp[hlt]
 obtain⟨arr,h1,h2,h3⟩:=hrun
 have hle:=Qi5 hs hl sz 0 (.cells arr el)
 have hst:=Qcl hs hl sz 0 (.cells arr el) (.vec sz (List.replicate k.toNat zero)) (fun g' hg=>by
  subst hg
  have hrep:∀(i:Nat) (row:List C),(List.replicate k.toNat zero)[i]? = some row→i<k.toNat∧row=zero:=by
   intro i row h
   rw[List.getElem?_replicate]at h
   split at h
   ·exact⟨by assumption,by simpa using h.symm⟩
   ·simp at h
  have:=Qjl (g':=g.newObj l w.heap.size sz 0) (w':=w.alloc (.cells arr el)) (l':=l) (sz:=sz) (nb:=w.heap.size) (base:=0) (n:=k.toNat) (m:=0) (T:=el) (arr:=arr) (R1:=List.replicate k.toNat zero) (R2:=[])
   (by simp[G.newObj]) (by simp[G.newObj]) (Qa3 _ _) (by rw[h2];simp) (by rw[Ql8];omega) (by simp) rfl (fun i row h=>by rw[(hrep i row h).2,hzs]) (by simp)
   (fun i row j c h h'=>by
    obtain⟨hi',rfl⟩:=hrep i row h
    have hj:j<sz:=by
     rw[←hzs]
     rcases Nat.lt_or_ge j row.length with h0|h0
     ·exact h0
     ·rw[List.getElem?_eq_none h0]at h';simp at h'
    have hfl:=Qqk hi' hj
    have hmod:(i * sz+j) % sz=j:=by rw[Nat.mul_comm,Nat.mul_add_mod];exact Nat.mod_eq_of_lt hj
    have hjz:j<z.cells.size:=by rw[hzc];exact hj
    refine⟨z.cells[j],?_,.plain _ _ _ _ ((hr.2 j c _ h' (Array.getElem?_eq_getElem hjz)).mono hle)⟩
    rw[Nat.zero_add,h3 _ hfl,hmod];exact Array.getElem?_eq_getElem hjz) (by simp)
  rw[List.append_nil]at this
  exact .inr this)
 refine EOk.value h1 (q5 l hH) hst ?_
 have:=RepC.vsl (w:=w.alloc (.cells arr el)) (g:=g.newObj l w.heap.size sz 0) l sz 0 k.toNat k.toNat w.heap.size 0 el arr.size (by simp[G.newObj]) (Nat.le_refl _)
  (by simp only[World.shape?,Qa3]) (by rw[h2];simp)
 simpa using RepV.c _ _ this
theorem Qbji {K:V→Heap→Prop}{sz:Nat}{parts:List Opd}{t el:TypeId}{n:Nat}{parts':Array (Nat×Operand)}{i:TypeInfo}{z:Value}
  (hm:o.op=.buildSlice t n parts') (hu:P.underlying t=some (.slice el)) (hi:P.info? el=some i) (hz:i.zero=some z) (hsz:i.size=sz) (hsz0:sz≠0)
  (hn:n=parts'.size) (hbig:n * sz≤2 ^ 24) (hl0:parts.length=parts'.size)
  (hx:∀(j:Nat) (x:Opd) (y:Nat×Operand),parts[j]? = some x→parts'[j]? = some y→y.1=j∧mO x y.2=true)
  (hs:Sat H g w) (he:EnvOk w g e a) (hp:p=true) (hK:(EOp.bslm sz parts).eff P p e H K):EOk P H g w a o K:=by
 simp only[EOp.eff]at hK
 obtain⟨ho,hK⟩:=hK
 have hpt:(parts'.map fun (x:Nat×Operand)=>(x.1,a.eval x.2)).toList=parts'.toList.map fun (x:Nat×Operand)=>(x.1,a.eval x.2):=by simp
 have hget:∀(j:Nat) (y:Nat×Value),(parts'.toList.map fun (x:Nat×Operand)=>(x.1,a.eval x.2))[j]? = some y→
   ∃x y',parts[j]? = some x∧parts'[j]? = some y'∧y=(y'.1,a.eval y'.2):=by
  intro j y hj
  simp only[List.getElem?_map]at hj
  cases hj':parts'.toList[j]? with
  |none=>rw[hj']at hj;simp at hj
  |some y'=>
   rw[hj']at hj;simp at hj
   have hlt:j<parts.length:=by
    rw[hl0]
    rcases Nat.lt_or_ge j parts'.size with h|h
    ·exact h
    ·simp[Array.getElem?_eq_none h]at hj'
   exact⟨_,y',List.getElem?_eq_getElem hlt,by simpa using hj',hj.symm⟩
 have hrow:∀x∈parts,x.fine p e∧(x.v e).cells.length=sz∧(x.v e).cells≠[]:=fun x hx=>by
  obtain⟨q1,q2⟩:=ho x hx
  exact⟨q1,q2,fun hn=>hsz0 (by rw[←q2,hn];rfl)⟩
 have hlen0:(parts'.toList.map fun (x:Nat×Operand)=>(x.1,a.eval x.2)).length=n:=by simp[hn]
 obtain⟨out,f1,f2,f3,f4⟩:=Qaer sz (parts'.toList.map fun (x:Nat×Operand)=>(x.1,a.eval x.2)) 0
  ((Array.range (n * sz)).map ((if n * sz=0 then #[]else z.cells)[· % (if n * sz=0 then #[]else z.cells).size]!)) (fun j y hj=>by
   obtain⟨x,y',e1,e2,rfl⟩:=hget j y hj
   obtain⟨q1,q2⟩:=hx j x y' e1 e2
   obtain⟨q3,q4,q5⟩:=hrow x (List.mem_of_getElem? e1)
   refine⟨by simp[q1],?_⟩
   rw[(Qlz (Qaa he q2 hp q3) q5).1,q4]) (by rw[hlen0];simp)
 obtain⟨l,hl,hH⟩:=hs.newName
 have hrun:(execOp a.eval o).run P w=.ok (.value (.slice (some ⟨w.heap.size,0,none⟩) n n)) (w.alloc (.cells out el)):=by
  simp only[execOp,hm,Instr.buildSlice,Sem.run_bind,Qx hu,Result.andThen_ok,Qat hi,hsz,hpt]
  rw[if_neg (by omega)]
  by_cases h0:n * sz=0
  ·simp only[if_pos h0]at f1⊢
   simp only[Sem.run_bind,Sem.run_pure,Result.andThen_ok]
   rw[f1]
   simp[newRow]
  ·simp only[if_neg h0]at f1⊢
   simp only[Sem.run_bind,Sem.run_pure,Result.andThen_ok,Qhc hi hz]
   rw[f1]
   simp[newRow]
 have hlenp:(parts.map fun x=>(x.v e).cells).length=n:=by simp[hl0,hn]
 have hgl:∀(k:Nat) (row:List C),(parts.map fun x=>(x.v e).cells)[k]? = some row→∃x y,parts[k]? = some x∧parts'[k]? = some y∧row=(x.v e).cells:=by
  intro k row hk
  simp only[List.getElem?_map]at hk
  cases hj:parts[k]? with
  |none=>rw[hj]at hk;simp at hk
  |some x=>
   rw[hj]at hk;simp at hk
   have hlt:k<parts'.size:=by
    rw[←hl0]
    rcases Nat.lt_or_ge k parts.length with h|h
    ·exact h
    ·rw[List.getElem?_eq_none h]at hj;simp at hj
   exact⟨x,parts'[k],rfl,Array.getElem?_eq_getElem hlt,hk.symm⟩
 have hcell:∀(k:Nat) (row:List C) (j:Nat) (c:C),(parts.map fun x=>(x.v e).cells)[k]? = some row→row[j]? = some c→∃u,out[0+k * sz+j]? = some u∧RepC w g c u:=by
  intro k row j c hk hj
  obtain⟨x,y,e1,e2,rfl⟩:=hgl k row hk
  obtain⟨q1,q2⟩:=hx k x y e1 e2
  obtain⟨q3,q4,q5⟩:=hrow x (List.mem_of_getElem? e1)
  have hr:=Qlz (Qaa he q2 hp q3) q5
  have hjlt:j<sz:=by
   rw[←q4]
   rcases Nat.lt_or_ge j (x.v e).cells.length with h|h
   ·exact h
   ·rw[List.getElem?_eq_none h]at hj;simp at hj
  have hj2:j<(a.eval y.2).cells.size:=by rw[hr.1,q4];exact hjlt
  have:=f4 k (y.1,a.eval y.2) j (by simp only[List.getElem?_map,Array.getElem?_toList,e2,Option.map_some]) hjlt
  simp only[Nat.zero_add]at this⊢
  rw[this]
  exact⟨_,Array.getElem?_eq_getElem hj2,hr.2 j c _ hj (Array.getElem?_eq_getElem hj2)⟩
 have hout:out.size=n * sz:=by
  rw[f2];simp
 have hn24:n≤16777216:=by
  have hn1:n * 1≤n * sz:=Nat.mul_le_mul_left _ (by omega)
  have h24:(2:Nat) ^ 24=16777216:=by decide
  rw[h24]at hbig
  omega
 have hle:=Qi5 hs hl sz 0 (.cells out el)
 have hst:=Qcl hs hl sz 0 (.cells out el) (.vec sz (parts.map fun x=>(x.v e).cells)) (fun g' hg=>by
  subst hg
  have:=Qjl (g':=g.newObj l w.heap.size sz 0) (w':=w.alloc (.cells out el)) (l':=l) (sz:=sz) (nb:=w.heap.size) (base:=0) (n:=n) (m:=0) (T:=el) (arr:=out) (R1:=parts.map fun x=>(x.v e).cells) (R2:=[])
   (by simp[G.newObj]) (by simp[G.newObj]) (Qa3 _ _) (by rw[hout];simp) (by rw[Ql8];omega) hlenp rfl
   (fun k row hk=>by obtain⟨x,y,e1,e2,rfl⟩:=hgl k row hk;exact (hrow x (List.mem_of_getElem? e1)).2.1) (by simp)
   (fun k row j c hk hj=>by
    obtain⟨u,e1,e2⟩:=hcell k row j c hk hj
    exact⟨u,e1,.plain _ _ _ _ (e2.mono hle)⟩) (by simp)
  rw[List.append_nil]at this
  exact .inr this)
 have hpl:parts.length=n:=by rw[hl0,hn]
 refine EOk.value hrun (hK l hH) hst ?_
 rw[hpl]
 have:=RepC.vsl (w:=w.alloc (.cells out el)) (g:=g.newObj l w.heap.size sz 0) l sz 0 n n w.heap.size 0 el out.size (by simp[G.newObj]) (Nat.le_refl _)
  (by simp only[World.shape?,Qa3]) (by rw[hout];simp)
 simpa using RepV.c _ _ this
theorem Qblb {t:TypeId}{K:V→Heap→Prop}(hm:o.op=.makeMap t none)(hs:Sat H g w)(ho:EOp.mkm.eff P p e H K):EOk P H g w a o K:=by
 simp only[EOp.eff]at ho
 obtain⟨l,hl,hH⟩:=hs.newName
 have hst:=Qcl hs hl 0 0 (.map #[] 0) (.map 0 []) (fun g' hg=>by
  subst hg
  exact⟨w.heap.size,#[],0,by simp[G.newObj],by simp[G.newObj],Qa3 _ _,rfl,by simp[Ql8],by simp,by simp,by simp⟩)
 refine EOk.value (v:=.map (some w.heap.size)) (w':=w.alloc (.map #[] 0)) (by simp[execOp,hm,Instr.makeMap]) (ho l hH) hst (.c _ _ (.mp l w.heap.size (by simp[G.newObj])))
def World.putObj' (w:World)(b:Nat)(x:Go.Obj):World:={ w with heap:=w.heap.setIfInBounds b x }
theorem Q0f {w:World}{b:Nat}{x:Go.Obj}(h:b<w.heap.size):(World.putObj' w b x).heap[b]? = some x:=by simp[World.putObj',h]
theorem Qnl {w:World}{b b':Nat}{x:Go.Obj}(h:b'≠b):(World.putObj' w b x).heap[b']? = w.heap[b']?:=by
 simp only[World.putObj']
 rw[Array.getElem?_setIfInBounds_ne (Ne.symm h)]
theorem Qq3 {b:Nat}{x y:Go.Obj}(h:w.heap[b]? = some x)(hx:∀c T f,x≠.cells c T f):(setObj b y).run P w=.ok () (World.putObj' w b y):=by
 simp only[setObj,Sem.run,h]
 cases x <;> first|rfl|exact absurd rfl (hx _ _ _)
theorem Qow (hs:Sat H g w){l b:Nat}(hb:g.own b=some (l,[])){ms ms':Array MapEntry}{clock clock':Nat}(hw:w.heap[b]? = some (.map ms clock)){n:Nat}{es es':List (C×V)}(hH:H l=.map n es)
  (hob:Le g w g (World.putObj' w b (.map ms' clock'))→(World.putObj' w b (.map ms' clock')).heap[b]? = some (.map ms' clock')→SatObj (H.set l (.map (n+1) es')) g (World.putObj' w b (.map ms' clock')) l (.map (n+1) es')) :
  Stp H g w (H.set l (.map (n+1) es')) g (World.putObj' w b (.map ms' clock')):=by
 have hlt:=Qqf hw
 refine Qxo hs hb (by simp[World.putObj']) (fun b' h=>Qnl h) (fun T' k hk=>?_) rfl rfl rfl _ (by rw[hH];simp) (fun hle=>hob hle (Q0f hlt)) (fun v x h=>?_)
 ·simp[World.shape?,hw]at hk
 ·simp at h;exact⟨n,es,hH,by omega⟩
theorem Qaov:∀(es:List (C×V)) (k:C) (v:V) (j:Nat) (x:C×V),es[j]? = some x→Qgs k x.1=true→(∀i y,i<j→es[i]? = some y→Qgs k y.1=false)→updE k v es=es.set j (k,v)
 |[],_,_,_,_,h,_,_=>by simp at h
 |y::es,k,v,0,x,h,hk,_=>by simp at h;subst h;simp[updE,hk]
 |y::es,k,v,j+1,x,h,hk,hh=>by
  have h0:=hh 0 y (by omega) rfl
  simp only[updE,h0,Bool.false_eq_true,if_false,List.set_cons_succ]
  rw[Qaov es k v j x (by simpa using h) hk fun i z hi hz=>hh (i+1) z (by omega) (by simpa using hz)]
theorem Qaxd:∀(es:List (C×V)) (k:C) (v:V),(∀x∈es,Qgs k x.1=false)→updE k v es=es++[(k,v)]
 |[],_,_,_=>rfl
 |y::es,k,v,h=>by
  simp only[updE,h y (by simp),Bool.false_eq_true,if_false,List.cons_append]
  rw[Qaxd es k v fun x hx=>h x (by simp[hx])]
theorem Qanp:∀(es:List (C×V)) (k:C) (j:Nat) (x:C×V),es[j]? = some x→Qgs k x.1=true→(∀i y,i<j→es[i]? = some y→Qgs k y.1=false)→delE k es=es.eraseIdx j
 |[],_,_,_,h,_,_=>by simp at h
 |y::es,k,0,x,h,hk,_=>by simp at h;subst h;simp[delE,hk]
 |y::es,k,j+1,x,h,hk,hh=>by
  have h0:=hh 0 y (by omega) rfl
  simp only[delE,h0,Bool.false_eq_true,if_false,List.eraseIdx_cons_succ]
  rw[Qanp es k j x (by simpa using h) hk fun i z hi hz=>hh (i+1) z (by omega) (by simpa using hz)]
theorem Qas3:∀(es:List (C×V)) (k:C),(∀x∈es,Qgs k x.1=false)→delE k es=es
 |[],_,_=>rfl
 |y::es,k,h=>by
  simp only[delE,h y (by simp),Bool.false_eq_true,if_false]
  rw[Qas3 es k fun x hx=>h x (by simp[hx])]
theorem Qa3o {c:C}{v:Value}{l:Nat}(h:RepC w g (.mp l) v):∃b,v=.map (some b)∧g.io l=some (b,0,0):=by
 cases h with
 |mp _ b hio=>exact⟨b,rfl,hio⟩
theorem Qbjp {tag:Nat}{x k y:Opd}{x' k' y':Operand}{t kt et:TypeId}{K:V→Heap→Prop}(hm:o.op=.mapUpdate t x' k' y'∨o.op=.insert t x' k' y')(hu:P.underlying t=some (.map kt et))
  (hkt:P.underlying kt=some (tagD tag)) (hx:mO x x'=true) (hk:mO k k'=true) (hy:mO y y'=true)
  (hs:Sat H g w) (he:EnvOk w g e a) (hp:p=true) (ho:(EOp.upd tag x k y).eff P p e H K):EOk P H g w a o K:=by
 simp only[EOp.eff]at ho
 obtain⟨q1,q2,q3,q4,q5,_,q6⟩:=ho
 have hrx:=Qaa he hx hp q1
 have hrk:=Qaa he hk hp q2
 have hry:=Qaa he hy hp q3
 rw[Qdd q4]at hrx
 rw[Qdd q5]at hrk
 have hcx:=hrx.c_inv
 have hck:=hrk.c_inv
 generalize hqx:a.eval x'=xv at hcx
 generalize hqk:a.eval k'=kv at hck
 generalize hqy:a.eval y'=yv at hry
 generalize (x.v e).c1=A at hcx q6
 generalize (k.v e).c1=kc at hck q6
 generalize y.v e=yc at hry q6
 have hexec:(execOp a.eval o).run P w=((Instr.mapUpdate t xv kv yv).run P w).andThen fun _ w'=>.ok .skip w':=by
  rcases hm with hm|hm <;> simp[execOp,hm,hqx,hqk,hqy]
 unfold updT at q6
 split at q6
 ·rename_i l
  split at q6
  ·rename_i n es hH
   obtain⟨c1,c2,c3⟩:=q6
   obtain⟨b,rfl,hio⟩:=Qa3o (c:=.unk) hcx
   have hob:=hs.objs l
   rw[hH]at hob
   obtain⟨b',ms,clock,r1,r2,r3,r4,r5,r6,r7,r8⟩:=hob
   rw[hio]at r1
   simp only[Option.some.injEq,Prod.mk.injEq,and_true]at r1
   subst r1
   have hkey:=Q5l c1 hck
   have hgo:(getObj b).run P w=.ok (.map ms clock) w:=by simp[getObj,Sem.run,r3]
   rcases Qxb c1 hck r4 r6 r8 with ⟨f1,f2,f3⟩|⟨j,m,ent,f1,f2,f3,f4,f5,f6,f7⟩
   ·
    rw[Qaxd es kc yc f3]at c3
    refine EOk.skip (g':=g) (w':=World.putObj' w b (.map (ms.push { key:=kv,val:=yv,born:=clock }) (clock+1))) ?_ c3 ?_
    ·rw[hexec]
     simp only[Instr.mapUpdate,Sem.run_bind,Qx hu,Result.andThen_ok,hgo,run_checkKey hkt hkey _ 9999,run_findKey hkt f1,Qq3 r3 (by simp)]
    ·refine Qow hs r2 r3 hH fun hle hw'=>?_
     refine⟨b,_,_,hle.io _ _ hio,r2,hw',by simp[r4],by simp;omega,fun i' x' m' e1 e2=>?_,fun i' m' e1=>?_,fun i' j' m1 m2 e1 e2 hor=>?_⟩
     ·rw[Array.getElem?_push]at e2
      split at e2
      ·rename_i hi';simp at e2;subst e2
       rw[List.getElem?_append_right (by omega)]at e1
       rw[hi',r4]at e1;simp at e1;subst e1
       exact⟨hck.mono hle,hry.mono hle⟩
      ·rename_i hi'
       have:i'<es.length:=by
        rw[←r4]
        rcases Nat.lt_or_ge i' ms.size with h|h
        ·exact h
        ·rw[Array.getElem?_eq_none h]at e2;simp at e2
       rw[List.getElem?_append_left this]at e1
       exact (r6 i' x' m' e1 e2).mono hle
     ·rw[Array.getElem?_push]at e1
      split at e1
      ·simp at e1;subst e1;simp
      ·have:=r7 i' m' e1;omega
     ·have old:∀(i':Nat) (m1:MapEntry),ms[i']? = some m1→m1.born<clock∧m1.key≠kv:=by
       intro i' m1 h1
       refine⟨r7 _ _ h1,fun hkk=>?_⟩
       have hlt:i'<es.length:=by
        rw[←r4]
        rcases Nat.lt_or_ge i' ms.size with h|h
        ·exact h
        ·rw[Array.getElem?_eq_none h]at h1;simp at h1
       have he1:=List.getElem?_eq_getElem hlt
       have:=(Qa3f c1 (List.mem_of_getElem? he1) hck (r6 _ _ _ he1 h1).1).2 hkk
       rw[f3 _ (List.mem_of_getElem? he1)]at this;simp at this
      rw[Array.getElem?_push]at e1 e2
      split at e1 <;> split at e2
      ·omega
      ·simp at e1;subst e1
       have:=old _ _ e2
       rcases hor with h|h
       ·simp at h;omega
       ·simp at h;exact absurd h.symm this.2
      ·simp at e2;subst e2
       have:=old _ _ e1
       rcases hor with h|h
       ·simp at h;omega
       ·simp at h;exact absurd h this.2
      ·exact r8 _ _ _ _ e1 e2 hor
   ·
    rw[Qaov es kc yc j ent f4 f6 f7]at c3
    have hjlt:j<ms.size:=by
     rcases Nat.lt_or_ge j ms.size with h|h
     ·exact h
     ·rw[Array.getElem?_eq_none h]at f2;simp at f2
    refine EOk.skip (g':=g) (w':=World.putObj' w b (.map (ms.modify j fun e=>{ e with key:=kv,val:=yv }) clock)) ?_ c3 ?_
    ·rw[hexec]
     simp only[Instr.mapUpdate,Sem.run_bind,Qx hu,Result.andThen_ok,hgo,run_checkKey hkt hkey _ 9999,run_findKey hkt f1,f2,Option.map_some,Option.getD_some,f3,run_keyThatStays hkey]
     rw[Qq3 r3 (by simp)]
     rfl
    ·refine Qow hs r2 r3 hH fun hle hw'=>?_
     refine⟨b,_,_,hle.io _ _ hio,r2,hw',by simp[r4],by simpa using r5,fun i' x' m' e1 e2=>?_,fun i' m' e1=>?_,fun i' j' m1 m2 e1 e2 hor=>?_⟩
     ·rw[Array.getElem?_modify]at e2
      rw[List.getElem?_set]at e1
      split at e2
      ·rename_i hj
       subst hj
       rw[if_pos rfl,if_pos (by omega)]at e1
       simp at e1;subst e1
       rw[f2]at e2;simp at e2;subst e2
       exact⟨hck.mono hle,hry.mono hle⟩
      ·rename_i hj
       rw[if_neg hj]at e1
       exact (r6 i' x' m' e1 e2).mono hle
     ·rw[Array.getElem?_modify]at e1
      split at e1
      ·rename_i hj;subst hj;rw[f2]at e1;simp at e1;subst e1;exact r7 j m f2
      ·exact r7 _ _ e1
     ·have old:∀(i':Nat) (m1:MapEntry),(ms.modify j fun e=>{ e with key:=kv,val:=yv })[i']? = some m1→∃m0,ms[i']? = some m0∧m0.born=m1.born∧m0.key=m1.key:=by
       intro i' m1 h1
       rw[Array.getElem?_modify]at h1
       split at h1
       ·rename_i hj;subst hj;rw[f2]at h1;simp at h1;subst h1;exact⟨m,f2,rfl,f3⟩
       ·exact⟨m1,h1,rfl,rfl⟩
      obtain⟨n1,k1,k2,k3⟩:=old _ _ e1
      obtain⟨n2,k4,k5,k6⟩:=old _ _ e2
      refine r8 _ _ _ _ k1 k4 ?_
      rcases hor with h|h
      ·exact .inl (by rw[k2,k5,h])
      ·exact .inr (by rw[k3,k6,h])
  ·exact q6.elim
 ·exact q6.elim
theorem Qbk9 {tag:Nat}{x k:Opd}{x' k':Operand}{ats:Array TypeId}{t kt et:TypeId}{K:V→Heap→Prop}(hm:o.op=.call { callee:=.builtin .delete,args:=#[x',k'],argTypes:=ats })(hat:ats[0]? = some t)(hd:o.dst=none)(hu:P.underlying t=some (.map kt et))
  (hkt:P.underlying kt=some (tagD tag)) (hx:mO x x'=true) (hk:mO k k'=true)
  (hs:Sat H g w) (he:EnvOk w g e a) (hp:p=true) (ho:(EOp.del tag x k).eff P p e H K):EOk P H g w a o K:=by
 simp only[EOp.eff]at ho
 obtain⟨q1,q2,q4,q5,q6⟩:=ho
 have hrx:=Qaa he hx hp q1
 have hrk:=Qaa he hk hp q2
 rw[Qdd q4]at hrx
 rw[Qdd q5]at hrk
 have hcx:=hrx.c_inv
 have hck:=hrk.c_inv
 generalize hqx:a.eval x'=xv at hcx
 generalize hqk:a.eval k'=kv at hck
 generalize (x.v e).c1=A at hcx q6
 generalize (k.v e).c1=kc at hck q6
 have hexec:(execOp a.eval o).run P w=((Builtin.delete_ ats o.type #[xv,kv]).run P w).andThen fun v w'=>.ok (.value v) w':=by
  simp[execOp,hm,resolve,invoke,builtin,hqx,hqk]
 unfold delT at q6
 split at q6
 ·rename_i l
  split at q6
  ·rename_i n es hH
   obtain⟨c1,c3⟩:=q6
   obtain⟨b,rfl,hio⟩:=Qa3o (c:=.unk) hcx
   have hob:=hs.objs l
   rw[hH]at hob
   obtain⟨b',ms,clock,r1,r2,r3,r4,r5,r6,r7,r8⟩:=hob
   rw[hio]at r1
   simp only[Option.some.injEq,Prod.mk.injEq,and_true]at r1
   subst r1
   have hkey:=Q5l c1 hck
   have hgo:(getObj b).run P w=.ok (.map ms clock) w:=by simp[getObj,Sem.run,r3]
   rcases Qxb c1 hck r4 r6 r8 with ⟨f1,f2,f3⟩|⟨j,m,ent,f1,f2,f3,f4,f5,f6,f7⟩
   ·rw[Qas3 es kc f3]at c3
    refine EOk.value (g':=g) (v:=.tuple #[]) (w':=World.putObj' w b (.map ms clock)) ?_ c3 ?_ (.unk _)
    ·rw[hexec]
     simp only[Builtin.delete_,hat]
     simp[Qx hu,hgo,run_checkKey hkt hkey _ 9999,run_findKey hkt f1,Qq3 r3]
    ·refine Qow hs r2 r3 hH fun hle hw'=>?_
     exact⟨b,_,_,hle.io _ _ hio,r2,hw',r4,r5,fun i' x' m' e1 e2=>(r6 i' x' m' e1 e2).mono hle,r7,r8⟩
   ·rw[Qanp es kc j ent f4 f6 f7]at c3
    have hjlt:j<ms.size:=by
     rcases Nat.lt_or_ge j ms.size with h|h
     ·exact h
     ·rw[Array.getElem?_eq_none h]at f2;simp at f2
    have her:∀q,(ms.eraseIdxIfInBounds j)[q]? = if q<j then ms[q]? else ms[q+1]?:=by
     intro q
     unfold Array.eraseIdxIfInBounds
     rw[dif_pos hjlt,Array.getElem?_eraseIdx]
    refine EOk.value (g':=g) (v:=.tuple #[]) (w':=World.putObj' w b (.map (ms.eraseIdxIfInBounds j) clock)) ?_ c3 ?_ (.unk _)
    ·rw[hexec]
     simp only[Builtin.delete_,hat]
     simp[Qx hu,hgo,run_checkKey hkt hkey _ 9999,run_findKey hkt f1,Qq3 r3]
    ·refine Qow hs r2 r3 hH fun hle hw'=>?_
     have hel:es.length-1=(es.eraseIdx j).length:=by rw[List.length_eraseIdx];simp;omega
     refine⟨b,_,_,hle.io _ _ hio,r2,hw',?_,by omega,fun i' x' m' e1 e2=>?_,fun i' m' e1=>?_,fun i' j' m1 m2 e1 e2 hor=>?_⟩
     ·unfold Array.eraseIdxIfInBounds
      rw[dif_pos hjlt];simp;omega
     ·rw[her]at e2
      rw[List.getElem?_eraseIdx]at e1
      split at e1
      ·rename_i h;rw[if_pos h]at e2;exact (r6 _ _ _ e1 e2).mono hle
      ·rename_i h;rw[if_neg h]at e2;exact (r6 _ _ _ e1 e2).mono hle
     ·rw[her]at e1
      split at e1
      ·exact r7 _ _ e1
      ·exact r7 _ _ e1
     ·rw[her]at e1 e2
      split at e1 <;> split at e2 <;> have:=r8 _ _ _ _ e1 e2 hor <;> omega
  ·exact q6.elim
 ·obtain⟨c1,c2⟩:=q6
  have hv:xv=.map none:=by cases hcx;rfl
  subst hv
  have hkey:=Q5l c1 hck
  refine EOk.value (g':=g) (v:=.tuple #[]) (w':=w) ?_ c2 (.refl hs) (.unk _)
  rw[hexec]
  simp only[Builtin.delete_,hat]
  simp[Qx hu,run_checkKey hkt hkey _ 9999]
 ·exact q6.elim
theorem Qbjk {x:Opd}{x':Operand}{ats:Array TypeId}{t kt et:TypeId}{K:V→Heap→Prop}(hm:o.op=.call { callee:=.builtin .clear,args:=#[x'],argTypes:=ats })(hat:ats[0]? = some t)(hu:P.underlying t=some (.map kt et))(hx:mO x x'=true)
  (hs:Sat H g w) (he:EnvOk w g e a) (hp:p=true) (ho:(EOp.clrm x).eff P p e H K):EOk P H g w a o K:=by
 simp only[EOp.eff]at ho
 obtain⟨q1,q2⟩:=ho
 have hrx:=Qaa he hx hp q1
 split at q2
 ·rename_i l hv
  split at q2
  ·rename_i n es hH
   rw[hv]at hrx
   obtain⟨b,hq,hio⟩:=Qa3o (c:=.unk) hrx.c_inv
   have hob:=hs.objs l
   rw[hH]at hob
   obtain⟨b',ms,clock,r1,r2,r3,r4,r5,r6,r7,r8⟩:=hob
   rw[hio]at r1
   simp only[Option.some.injEq,Prod.mk.injEq,and_true]at r1
   subst r1
   have hgo:(getObj b).run P w=.ok (.map ms clock) w:=by simp[getObj,Sem.run,r3]
   refine EOk.value (g':=g) (v:=.tuple #[]) (w':=World.putObj' w b (.map #[] clock)) ?_ q2 ?_ (.unk _)
   ·simp[execOp,hm,resolve,invoke,builtin,hq,Builtin.clear_,hat,Qx hu,hgo,Qq3 r3]
   ·refine Qow hs r2 r3 hH fun hle hw'=>?_
    exact⟨b,_,_,hle.io _ _ hio,r2,hw',rfl,by simp[Ql8],by simp,by simp,by simp⟩
  ·exact q2.elim
 ·exact q2.elim
end Go.AE

namespace Go.AE
variable {P:Program}{H:Heap}{g:G}{w:World}{e:Env}{a:Act}{o:Oper}{p:Bool}
theorem Q8j {f:FuncId}(h:fnOk P f=true)(args:Array Value)(w:World):(callFunc f args).run P w=.ok (.enter f args) w:=by
 unfold fnOk at h
 split at h
 ·rename_i fn hf
  simp only[Bool.and_eq_true,bne_iff_ne,ne_eq]at h
  obtain⟨h1,h2⟩:=h
  have hn:fn.body≠none:=by intro hb;rw[hb]at h1;simp at h1
  simp[callFunc,hf,h2,hn]
 ·simp at h
theorem Qanl {f:FuncId}{args:List V}{K:V→Heap→Prop}(hc:Ql P f args H K)(hs:Sat H g w){vs:List Value}(hl:vs.length=args.length)
  (hv:∀(j:Nat) (x:V) (u:Value),args[j]? = some x→vs[j]? = some u→RepV w g x u) (hr:(execOp a.eval o).run P w=.ok (.enter f vs.toArray) w):EOk P H g w a o K:=by
 intro Q next hn hpan
 unfold Oper.wp
 rw[hr,Oper.upon_enter]
 refine (hc.2 g w vs hs hl hv).mono fun en w' h=>?_
 rcases h with ⟨v,x,H',g',rfl,hk,hst,hrep⟩|⟨v,H',g',rfl,hk,hst⟩
 ·exact hn x v w' H' g' hk hst hrep
 ·exact hpan v w' H' g' hk hst
theorem Qa20 (he:EnvOk w g e a)(hp:p=true){xs:List Opd}{ys:List Operand}(hm:mOs xs ys=true)(hf:∀x∈xs,x.fine p e) :
  (ys.map a.eval).length=(xs.map fun x=>x.v e).length∧∀(j:Nat) (x:V) (u:Value),(xs.map fun x=>x.v e)[j]? = some x→(ys.map a.eval)[j]? = some u→RepV w g x u:=by
 obtain⟨h1,h2⟩:=Qapm xs ys hm
 refine⟨by simp[h1],fun j x u e1 e2=>?_⟩
 simp only[List.getElem?_map]at e1 e2
 cases hj:xs[j]? with
 |none=>rw[hj]at e1;simp at e1
 |some x0=>
  cases hj':ys[j]? with
  |none=>rw[hj']at e2;simp at e2
  |some y0=>
   rw[hj]at e1;rw[hj']at e2
   simp at e1 e2;subst e1;subst e2
   exact Qaa he (h2 j x0 y0 hj hj') hp (hf x0 (List.mem_of_getElem? hj))
theorem Qbjj {f:Nat}{xs:List Opd}{aS:Array Operand}{ats:Array TypeId}{K:V→Heap→Prop}(hm:o.op=.call { callee:=.value (.func f),args:=aS,argTypes:=ats })(hx:mOs xs aS.toList=true)
  (hs:Sat H g w) (he:EnvOk w g e a) (hp:p=true) (hf:∀x∈xs,x.fine p e) (hc:Ql P f (xs.map fun x=>x.v e) H K):EOk P H g w a o K:=by
 obtain⟨h1,h2⟩:=Qa20 he hp hx hf
 refine Qanl hc hs h1 h2 ?_
 have harr:aS.map a.eval=(aS.toList.map a.eval).toArray:=by apply Array.ext';simp
 simp only[execOp,hm,resolve,Deferred.ofValue,Act.eval,Sem.run_bind,Sem.run_pure,Result.andThen_ok,invoke]
 have:(#[]++aS.map a.eval++#[]:Array Value)=(aS.toList.map a.eval).toArray:=by rw[harr];simp
 rw[this]
 exact Q8j hc.1 _ w
theorem Qbg3 {x:Opd}{y:Operand}{xs:List Opd}{aS:Array Operand}{ats:Array TypeId}{K:V→Heap→Prop}(hm:o.op=.call { callee:=.value y,args:=aS,argTypes:=ats })(hy:mO x y=true)(hx:mOs xs aS.toList=true)
  (hs:Sat H g w) (he:EnvOk w g e a) (hp:p=true) (ho:(EOp.callv x xs).eff P p e H K):EOk P H g w a o K:=by
 simp only[EOp.eff]at ho
 obtain⟨q1,hf,q2⟩:=ho
 have hr:=Qaa he hy hp q1
 split at q2
 ·rename_i n caps hv
  rw[hv]at hr
  obtain⟨cv,hq,hcl,hcr⟩:=hr.c_inv.fn_inv
  obtain⟨h1,h2⟩:=Qa20 he hp hx hf
  refine Qanl (vs:=aS.toList.map a.eval++cv) q2 hs (by rw[List.length_append,List.length_append,h1];simp[hcl]) (fun j z u e1 e2=>?_) ?_
  ·by_cases hj:j<(xs.map fun x=>x.v e).length
   ·rw[List.getElem?_append_left hj]at e1
    rw[List.getElem?_append_left (by rw[h1];exact hj)]at e2
    exact h2 j z u e1 e2
   ·rw[List.getElem?_append_right (by omega)]at e1 e2
    rw[h1]at e2
    simp only[List.getElem?_map]at e1
    cases hc:caps[j-(xs.map fun x=>x.v e).length]? with
    |none=>rw[hc]at e1;simp at e1
    |some c=>
     rw[hc]at e1;simp at e1;subst e1
     exact .c _ _ (hcr _ c u hc e2)
  ·have harr:aS.map a.eval=(aS.toList.map a.eval).toArray:=by apply Array.ext';simp
   simp only[execOp,hm,resolve,hq,Deferred.ofValue,Sem.run_bind,Sem.run_pure,Result.andThen_ok,invoke]
   have:(#[]++aS.map a.eval++cv.toArray:Array Value)=(aS.toList.map a.eval++cv).toArray:=by rw[harr];simp
   rw[this]
   exact Q8j q2.1 _ w
 ·exact q2.elim
theorem Qao3 {t el:TypeId}(h:P.underlying t=some (.slice el))(d:Nat)(b:Option Addr)(n c:Nat)(w:World):(Op.equalIn (d+1) t (.slice b n c) (.slice none 0 0)).run P w=.ok b.isNone w:=by
 cases b <;> simp[Op.equalIn,Qx h]
theorem Qanq {α:Type}:∀(l:List α) (i:Nat) (h:i<l.length),(l[i]::l.eraseIdx i).Perm l
 |x::l,0,_=>by simp
 |x::l,i+1,h=>by
  simp only[List.getElem_cons_succ,List.eraseIdx_cons_succ]
  exact (List.Perm.swap x _ _).trans ((Qanq l i (by simpa using h)).cons x)
theorem Qbjm {x:Opd}{x' y':Operand}{t t' el:TypeId}{K:V→Heap→Prop}(hm:o.op=.binOp .eql t x' y' t')(hu:P.underlying t=some (.slice el))(hx:mO x x'=true)(hy:a.eval y'=.slice none 0 0)
  (hs:Sat H g w) (he:EnvOk w g e a) (hp:p=true) (ho:(EOp.nilq x).eff P p e H K):EOk P H g w a o K:=by
 simp only[EOp.eff]at ho
 obtain⟨q1,q2⟩:=ho
 have hr:=Qaa he hx hp q1
 split at q2
 ·rename_i fl sz rows hv
  rw[hv]at hr
  have hcr:=hr.c_inv
  generalize hq:a.eval x'=xv at hcr
  have hex:(execOp a.eval o).run P w=((binOp .eql t xv (.slice none 0 0)).run P w).andThen fun v w'=>.ok (.value v) w':=by
   simp only[execOp,hm,hq,hy,Sem.run_bind]
   rw[Qar]
   ·simp
   ·intro cs ds h;simp at h
   ·intro h;simp at h
  have heq:∀b:Option Addr,∀n c,(Op.equal t (.slice b n c) (.slice none 0 0)).run P w=.ok b.isNone w:=by
   intro b n c
   exact Qao3 hu 9999 b n c w
  cases hcr with
  |slnil _ _ ad=>
   refine EOk.value (g':=g) (v:=.bool ad.isNone) (w':=w) ?_ (q2 ad.isNone (fun _=>rfl)) (.refl hs) (.c _ _ (.bool _))
   rw[hex];simp only[binOp,Sem.run_bind,heq,Result.andThen_ok,Sem.run_pure]
  |sl=>
   refine EOk.value (g':=g) (v:=.bool false) (w':=w) ?_ (q2 false (by simp)) (.refl hs) (.c _ _ (.bool _))
   rw[hex];simp only[binOp,Sem.run_bind,heq,Result.andThen_ok,Sem.run_pure];rfl
 ·exact q2.elim
theorem Qble {x:Opd}{x':Operand}{t kt et:TypeId}{K:V→Heap→Prop}(hm:o.op=.range t x')(hu:P.underlying t=some (.map kt et))(hx:mO x x'=true)
  (hs:Sat H g w) (he:EnvOk w g e a) (hp:p=true) (ho:(EOp.rng x).eff P p e H K):EOk P H g w a o K:=by
 simp only[EOp.eff]at ho
 obtain⟨q1,q2⟩:=ho
 have hr:=Qaa he hx hp q1
 obtain⟨l',hl',hHl'⟩:=hs.newName
 split at q2
 ·rename_i l hv
  rw[hv]at hr
  split at q2
  ·rename_i n es hH
   obtain⟨c1,c2⟩:=q2
   obtain⟨b,hq,hio⟩:=Qa3o (c:=.unk) hr.c_inv
   have hob:=hs.objs l
   rw[hH]at hob
   obtain⟨b',ms,clock,r1,r2,r3,r4,r5,r6,r7,r8⟩:=hob
   rw[hio]at r1
   simp only[Option.some.injEq,Prod.mk.injEq,and_true]at r1
   subst r1
   have hgo:(getObj b).run P w=.ok (.map ms clock) w:=by simp[getObj,Sem.run,r3]
   have hll:l≠l':=fun h=>by subst h;rw[hl']at hio;simp at hio
   have hst:=Qcl hs hl' 0 0 (.mapIter (some b) clock #[] clock) (.iter (some (l,n)) es none) (fun g' hg=>by
    subst hg
    refine⟨w.heap.size,b,clock,#[],by simp[G.newObj],by simp[G.newObj],Qa3 _ _,by simp[G.newObj,hll,hio],fun v es' hv'=>?_⟩
    rw[Heap.set_other _ _ hll,hH]at hv'
    simp only[Obj.map.injEq]at hv'
    obtain⟨rfl,rfl⟩:=hv'
    refine⟨Nat.le_refl _,fun _=>⟨ms,(Qdx _ _ (Qqf r3)).trans r3,r4,c1,c1,fun x=>⟨fun hx=>?_,fun hx=>?_⟩,by simp⟩⟩
    ·obtain⟨i,hi⟩:=List.getElem?_of_mem hx
     have hlt:i<ms.size:=by
      rw[r4]
      rcases Nat.lt_or_ge i es.length with h|h
      ·exact h
      ·rw[List.getElem?_eq_none h]at hi;simp at hi
     exact⟨i,ms[i],hi,Array.getElem?_eq_getElem hlt,by simp⟩
    ·obtain⟨i,m,h1,_⟩:=hx
     exact List.mem_of_getElem? h1)
   refine EOk.value (v:=.pointer (some ⟨w.heap.size,0,none⟩)) (w':=w.alloc (.mapIter (some b) clock #[] clock)) ?_ (c2 l' hHl') hst (.c _ _ (.itr l' w.heap.size (by simp[G.newObj])))
   simp[execOp,hm,hq,Instr.range,Qx hu,hgo]
  ·exact q2.elim
 ·rename_i hv
  rw[hv]at hr
  have hq:a.eval x'=.map none:=by
   have:=hr.c_inv
   generalize a.eval x'=xv at this
   cases this;rfl
  have hst:=Qcl hs hl' 0 0 (.mapIter none 0 #[] 0) (.iter none [] none) (fun g' hg=>by
   subst hg
   exact⟨w.heap.size,0,#[],0,by simp[G.newObj],by simp[G.newObj],Qa3 _ _,rfl⟩)
  refine EOk.value (v:=.pointer (some ⟨w.heap.size,0,none⟩)) (w':=w.alloc (.mapIter none 0 #[] 0)) ?_ (q2 l' hHl') hst (.c _ _ (.itr l' w.heap.size (by simp[G.newObj])))
  simp[execOp,hm,hq,Instr.range,Qx hu]
 ·exact q2.elim
theorem Qax3 {v:Value}{l:Nat}(h:RepC w g (.itr l) v):∃b,v=.pointer (some ⟨b,0,none⟩)∧g.io l=some (b,0,0):=by
 cases h with
 |itr _ b hio=>exact⟨b,rfl,hio⟩
theorem Qa48 {r mb since:Nat}{seen:Array Nat}{ms:Array MapEntry}{t:TypeId}(hr:w.heap[r]? = some (.mapIter (some mb) since seen since))(hmb:w.heap[mb]? = some (.map ms since))
  (hlt:∀(i:Nat) (m:MapEntry),ms[i]? = some m→m.born<since) :
  ((∀(i:Nat) (m:MapEntry),ms[i]? = some m→m.born∈seen)∧(Instr.next (.pointer (some ⟨r,0,none⟩)) false t).run P w=.ok (.tuple #[.bool false]) w)∨
  ∃(w1:World) (i:Nat) (m:MapEntry),ms[i]? = some m∧m.born∉seen∧(w1=w∨w1=w.drew)∧
   (Instr.next (.pointer (some ⟨r,0,none⟩)) false t).run P w=.ok (.tuple #[.bool true,m.key,m.val]) (World.putObj' w1 r (.mapIter (some mb) since (seen.push m.born) since)):=by
 have g1:(getObj r).run P w=.ok (.mapIter (some mb) since seen since) w:=by simp[getObj,Sem.run,hr]
 have g2:(getObj mb).run P w=.ok (.map ms since) w:=by simp[getObj,Sem.run,hmb]
 have hold:∀m∈ms,m.born<since:=by
  intro m hm
  obtain⟨i,hi⟩:=Array.getElem?_of_mem hm
  exact hlt i m hi
 have hchk:(!seen.isEmpty&&!ms.isEmpty&&ms.all (fun m=>decide (m.born≥since)))=false:=by
  by_cases h:ms=#[]
  ·subst h;simp
  ·have hne:0<ms.size:=by
    rcases Nat.eq_zero_or_pos ms.size with h0|h0
    ·exact absurd (Array.size_eq_zero_iff.1 h0) h
    ·exact h0
   have:ms.all (fun m=>decide (m.born≥since))=false:=by
    rw[Bool.eq_false_iff]
    intro hall
    rw[Array.all_eq_true]at hall
    have:=hall 0 hne
    simp at this
    have:=hold ms[0] (Array.getElem_mem hne)
    omega
   rw[this];simp
 generalize hleft:ms.filter (fun m=>!seen.contains m.born)=left
 have hmem:∀m,m∈left↔m∈ms∧m.born∉seen:=by
  intro m;rw[←hleft];simp[Array.mem_filter]
 have hofil:left.filter (fun m=>decide (m.born<since))=left:=by
  rw[Array.filter_eq_self]
  intro m hm
  simpa using hold m ((hmem m).1 hm).1
 have hnfil:left.filter (fun m=>decide (m.born≥since))=#[]:=by
  rw[Array.filter_eq_empty_iff]
  intro m hm
  have:=hold m ((hmem m).1 hm).1
  simp;omega
 have hnext:(Instr.next (.pointer (some ⟨r,0,none⟩)) false t).run P w =
   ((choose (.mapNext ((if left.isEmpty then #[none]else #[])++left.map some).size)).run P w).andThen fun k w'=>
    (match ((if left.isEmpty then #[none]else #[])++left.map some)[k]? with
     |some (some e)=>(do setObj r (.mapIter (some mb) since (seen.push e.born) since);pure (.tuple #[.bool true,e.key,e.val]):Sem Value)
     |some none=>pure (.tuple #[.bool false])
     | none => stuck "Next: no such candidate").run P w' := by
  simp only[Instr.next,Sem.run_bind,g1,Result.andThen_ok,g2]
  simp only[hchk,Bool.false_eq_true,if_false,hleft,hofil,hnfil,Array.append_empty]
  simp only[Sem.run_bind]
  first|rfl|(congr 1;funext k w';split <;> simp)
 by_cases hem:left=#[]
 ·left
  refine⟨fun i m hm=>?_,?_⟩
  ·by_cases hc:m.born∈seen
   ·exact hc
   ·have:m∈left:=(hmem m).2 ⟨Array.mem_of_getElem? hm,hc⟩
    rw[hem]at this;simp at this
  ·rw[hnext,hem]
   simp[Question.forced]
 ·right
  have hpos:0<left.size:=by
   rcases Nat.eq_zero_or_pos left.size with h0|h0
   ·exact absurd (Array.size_eq_zero_iff.1 h0) hem
   ·exact h0
  have hie:left.isEmpty=false:=by simpa using hem
  have hk:∃(k:Nat) (w1:World),k<left.size∧(w1=w∨w1=w.drew)∧(choose (.mapNext left.size)).run P w=.ok k w1:=by
   by_cases h1:left.size≤1
   ·exact⟨0,w,hpos,.inl rfl,by simp[Question.forced,h1]⟩
   ·refine⟨w.tape w.drawn (.mapNext left.size) % left.size,w.drew,Nat.mod_lt _ hpos,.inr rfl,?_⟩
    simp[Question.forced,h1,Question.cut]
  obtain⟨k,w1,k1,k2,k3⟩:=hk
  have hkm:left[k]? = some left[k]:=Array.getElem?_eq_getElem k1
  obtain⟨m1,m2⟩:=(hmem left[k]).1 (Array.getElem_mem k1)
  obtain⟨i,hi⟩:=Array.getElem?_of_mem m1
  refine⟨w1,i,left[k],hi,m2,k2,?_⟩
  rw[hnext]
  simp only[hie,Bool.false_eq_true,if_false,Array.empty_append,Array.size_map,k3,Result.andThen_ok,Array.getElem?_map,hkm,Option.map_some,Sem.run_bind]
  have hr1:w1.heap[r]? = some (.mapIter (some mb) since seen since):=by rcases k2 with rfl|rfl <;> exact hr
  rw[Qq3 hr1 (by simp)]
  rfl
theorem Qbld {x:Opd}{x':Operand}{K:V→Heap→Prop}(hm:o.op=.next x' false)(hx:mO x x'=true)
  (hs:Sat H g w) (he:EnvOk w g e a) (hp:p=true) (ho:(EOp.nxt x).eff P p e H K):EOk P H g w a o K:=by
 simp only[EOp.eff]at ho
 obtain⟨q1,q2⟩:=ho
 have hr:=Qaa he hx hp q1
 split at q2
 ·rename_i i hv
  rw[hv]at hr
  obtain⟨b,hq,hio⟩:=Qax3 hr.c_inv
  have hob:=hs.objs i
  split at q2
  ·rename_i left cur hH
   rw[hH]at hob
   obtain⟨b',si,se,la,r1,r2,r3,r4⟩:=hob
   rw[hio]at r1
   simp only[Option.some.injEq,Prod.mk.injEq,and_true]at r1
   subst r1
   have hgo:(getObj b).run P w=.ok (.mapIter none si se la) w:=by simp[getObj,Sem.run,r3]
   refine EOk.value (g':=g) (v:=.tuple #[.bool false]) (w':=w) (by simp[execOp,hm,hq,Instr.next,hgo]) q2 (.refl hs) (.tup _ [.bool false] rfl fun j x u e1 e2=>?_)
   cases j with
   |zero=>simp at e1 e2;subst e1;subst e2;exact .c _ _ (.bool _)
   |succ j=>simp at e1
  ·rename_i l n left cur hH
   obtain⟨⟨es,hes⟩,c1,c2⟩:=q2
   rw[hH]at hob
   obtain⟨b',mb,si,se,r1,r2,r3,r4,r5⟩:=hob
   rw[hio]at r1
   simp only[Option.some.injEq,Prod.mk.injEq,and_true]at r1
   subst r1
   obtain⟨_,h5⟩:=r5 n es hes
   obtain⟨ms,f1,f2,f3,f4,f5,f6⟩:=h5 rfl
   have hmo:=hs.objs l
   rw[hes]at hmo
   obtain⟨mb',ms',clock,d1,d2,d3,d4,d5,d6,d7,d8⟩:=hmo
   rw[r4]at d1
   simp only[Option.some.injEq,Prod.mk.injEq,and_true]at d1
   subst d1
   rw[f1]at d3
   simp only[Option.some.injEq,Go.Obj.map.injEq]at d3
   obtain⟨rfl,rfl⟩:=d3
   have hexec:(execOp a.eval o).run P w=((Instr.next (.pointer (some ⟨b,0,none⟩)) false o.type).run P w).andThen fun v w'=>.ok (.value v) w':=by
    simp[execOp,hm,hq]
   rcases Qa48 (P:=P) (t:=o.type) r3 f1 d7 with ⟨k1,k2⟩|⟨w1,ix,m,k1,k2,k3,k4⟩
   ·have hl0:left=[]:=by
     cases left with
     |nil=>rfl
     |cons y r=>
      obtain⟨iy,my,a1,a2,a3⟩:=(f5 y).1 (by simp)
      exact absurd (k1 iy my a2) a3
    refine EOk.value (g':=g) (v:=.tuple #[.bool false]) (w':=w) (by rw[hexec,k2];rfl) (c1 hl0) (.refl hs) (.tup _ [.bool false] rfl fun j x u e1 e2=>?_)
    cases j with
    |zero=>simp at e1 e2;subst e1;subst e2;exact .c _ _ (.bool _)
    |succ j=>simp at e1
   ·have hix:ix<es.length:=by
     rw[←f2]
     rcases Nat.lt_or_ge ix ms.size with h|h
     ·exact h
     ·rw[Array.getElem?_eq_none h]at k1;simp at k1
    have hxe:=List.getElem?_eq_getElem hix
    generalize hxx:es[ix]=xx at hxe
    have hxl:xx∈left:=(f5 xx).2 ⟨ix,m,hxe,k1,k2⟩
    obtain⟨q,hql,hqx⟩:=List.getElem_of_mem hxl
    have hperm:=Qanq left q hql
    rw[hqx]at hperm
    have hnd:(xx::left.eraseIdx q).Nodup:=hperm.nodup_iff.2 f4
    have hmem':∀y,y∈left.eraseIdx q↔y∈left∧y≠xx:=by
     intro y
     rw[←hperm.mem_iff]
     rw[List.nodup_cons]at hnd
     constructor
     ·intro hy;exact⟨by simp[hy],fun h=>hnd.1 (h▸hy)⟩
     ·rintro⟨hy,hne⟩;simp at hy;exact hy.resolve_left hne
    have hk:=c2 xx (left.eraseIdx q) hxl hmem' (List.nodup_cons.1 hnd).2 (by rw[List.length_eraseIdx,if_pos hql];omega)
    have hs1:Stp H g w H g w1:=by
     rcases k3 with rfl|rfl
     ·exact .refl hs
     ·exact Qasn hs
    have hw1:∀bb:Nat,w1.heap[bb]? = w.heap[bb]?:=by intro bb;rcases k3 with rfl|rfl <;> rfl
    have hli:l≠i:=fun h=>by subst h;rw[hes]at hH;simp at hH
    have hmbb:mb≠b:=fun h=>by subst h;rw[f1]at r3;simp at r3
    have hst:Stp H g w1 (H.set i (.iter (some (l,n)) (left.eraseIdx q) (some xx))) g (World.putObj' w1 b (.mapIter (some mb) si (se.push m.born) si)):=by
     have hlt:b<w1.heap.size:=Qqf ((hw1 b).trans r3)
     refine Qxo hs1.sat r2 (by simp[World.putObj']) (fun b' h=>Qnl h) (fun T' k hk=>?_) rfl rfl rfl _ (by rw[hH];simp) (fun hle=>?_) (by simp)
     ·simp[World.shape?,hw1,r3]at hk
     ·refine⟨b,mb,si,se.push m.born,hio,r2,Q0f hlt,r4,fun v es' hv'=>?_⟩
      rw[Heap.set_other _ _ hli,hes]at hv'
      simp only[Obj.map.injEq]at hv'
      obtain⟨rfl,rfl⟩:=hv'
      refine⟨Nat.le_refl _,fun _=>⟨ms,?_,f2,f3,(List.nodup_cons.1 hnd).2,fun y=>?_,fun y hy=>?_⟩⟩
      ·rw[Qnl hmbb,hw1];exact f1
      ·rw[hmem' y,f5 y]
       constructor
       ·rintro⟨⟨iy,my,a1,a2,a3⟩,hne⟩
        refine⟨iy,my,a1,a2,fun hin=>?_⟩
        rw[Array.mem_push]at hin
        rcases hin with hin|hin
        ·exact a3 hin
        ·have:=d8 iy ix my m a2 k1 (.inl hin)
         subst this
         rw[hxe]at a1;simp at a1;exact hne a1.symm
       ·rintro⟨iy,my,a1,a2,a3⟩
        rw[Array.mem_push,not_or]at a3
        refine⟨⟨iy,my,a1,a2,a3.1⟩,fun h=>?_⟩
        subst h
        have hiy:iy<es.length:=by
         rcases Nat.lt_or_ge iy es.length with h|h
         ·exact h
         ·rw[List.getElem?_eq_none h]at a1;simp at a1
        have:iy=ix:=(List.getElem_inj (h₀:=hiy) (h₁:=hix) f3).1 (by
         rw[List.getElem?_eq_getElem hiy]at a1;simp at a1;rw[a1,hxx])
        subst this
        rw[k1]at a2;simp at a2;subst a2
        exact a3.2 rfl
      ·simp at hy;subst hy
       exact⟨ix,m,hxe,k1,by simp⟩
    have hRE:=d6 ix xx m hxe k1
    refine EOk.value (v:=.tuple #[.bool true,m.key,m.val]) (by rw[hexec,k4];rfl) hk (hs1.trans hst) (.tup _ [.bool true,m.key,m.val] rfl fun j y u e1 e2=>?_)
    have hle2:=(hs1.trans hst).le
    match j with
    |0=>simp at e1 e2;subst e1;subst e2;exact .c _ _ (.bool _)
    |1=>simp at e1 e2;subst e1;subst e2;exact .c _ _ (hRE.1.mono hle2)
    |2=>simp at e1 e2;subst e1;subst e2;exact hRE.2.mono hle2
    |j+3=>simp at e1
  ·exact q2.elim
 ·exact q2.elim
theorem Qbjo {x:Opd}{x':Operand}{t:TypeId}{K:V→Heap→Prop}(hm:o.op=.range t x')(hu:P.underlying t=some .string)(hx:mO x x'=true)
  (hs:Sat H g w) (he:EnvOk w g e a) (hp:p=true) (ho:(EOp.rngs x).eff P p e H K):EOk P H g w a o K:=by
 simp only[EOp.eff]at ho
 obtain⟨q1,q2⟩:=ho
 have hr:=Qaa he hx hp q1
 obtain⟨l',hl',hHl'⟩:=hs.newName
 split at q2
 ·rename_i s hv
  rw[hv]at hr
  obtain⟨hq,hl⟩:=hr.c_inv.str_inv
  have hst:=Qcl hs hl' 0 0 (.stringIter ⟨s.toArray⟩ 0) (.sit s 0) (fun g' hg=>by
   subst hg
   exact⟨w.heap.size,by simp[G.newObj],by simp[G.newObj],Qa3 _ _,hl⟩)
  refine EOk.value (v:=.pointer (some ⟨w.heap.size,0,none⟩)) (w':=w.alloc (.stringIter ⟨s.toArray⟩ 0)) ?_ (q2 l' hHl') hst (.c _ _ (.itr l' w.heap.size (by simp[G.newObj])))
  simp[execOp,hm,hq,Instr.range,Qx hu]
 ·exact q2.elim
theorem Qbjn {x:Opd}{x':Operand}{K:V→Heap→Prop}(hm:o.op=.next x' true)(hx:mO x x'=true)
  (hs:Sat H g w) (he:EnvOk w g e a) (hp:p=true) (ho:(EOp.nxts x).eff P p e H K):EOk P H g w a o K:=by
 simp only[EOp.eff]at ho
 obtain⟨q1,q2⟩:=ho
 have hr:=Qaa he hx hp q1
 split at q2
 ·rename_i i hv
  rw[hv]at hr
  obtain⟨b,hq,hio⟩:=Qax3 hr.c_inv
  have hob:=hs.objs i
  split at q2
  ·rename_i s q hH
   obtain⟨c1,c2⟩:=q2
   rw[hH]at hob
   obtain⟨b',r1,r2,r3,r4⟩:=hob
   rw[hio]at r1
   simp only[Option.some.injEq,Prod.mk.injEq,and_true]at r1
   subst r1
   have hsz:(⟨s.toArray⟩:ByteArray).size=s.length:=by simp[ByteArray.size]
   have hexec:(execOp a.eval o).run P w=((Instr.next (.pointer (some ⟨b,0,none⟩)) true o.type).run P w).andThen fun v w'=>.ok (.value v) w':=by
    simp[execOp,hm,hq]
   by_cases hlt:q<s.length
   ·have hlt':q<(⟨s.toArray⟩:ByteArray).size:=by rw[hsz];exact hlt
    have hgo:(getObj b).run P w=.ok (.stringIter ⟨s.toArray⟩ q) w:=by simp[getObj,Sem.run,r3]
    have hrun:(Instr.next (.pointer (some ⟨b,0,none⟩)) true o.type).run P w=.ok (.tuple #[.bool true,.int .i64 q,.int .i32 (Utf8.decode ⟨s.toArray⟩ q).1]) (World.putObj' w b (.stringIter ⟨s.toArray⟩ (q+(Utf8.decode ⟨s.toArray⟩ q).2))):=by
     simp only[Instr.next,Sem.run_bind,hgo,Result.andThen_ok,hlt',if_true,Qq3 r3 (by simp)]
     simp[goInt]
    have hby:((⟨s.toArray⟩:ByteArray)[q]'hlt')=s.getD q 0:=by
     have:((⟨s.toArray⟩:ByteArray)[q]'hlt')=s[q]'hlt:=rfl
     rw[this,List.getD_eq_getElem?_getD,List.getElem?_eq_getElem hlt];rfl
    have hst:Stp H g w (H.set i (.sit s (q+(Utf8.decode ⟨s.toArray⟩ q).2))) g (World.putObj' w b (.stringIter ⟨s.toArray⟩ (q+(Utf8.decode ⟨s.toArray⟩ q).2))):=by
     have hb:b<w.heap.size:=Qqf r3
     refine Qxo hs r2 (by simp[World.putObj']) (fun b' h=>Qnl h) (fun T' k hk=>?_) rfl rfl rfl _ (by rw[hH];simp) (fun hle=>⟨b,hio,r2,Q0f hb,r4⟩) (by simp)
     simp[World.shape?,r3]at hk
    refine EOk.value (g':=g) (v:=.tuple #[.bool true,.int .i64 q,.int .i32 (Utf8.decode ⟨s.toArray⟩ q).1]) (by rw[hexec,hrun];rfl) (c2 ((Utf8.decode ⟨s.toArray⟩ q).1:Nat) (Utf8.decode ⟨s.toArray⟩ q).2 hlt ?_ ?_ ?_) hst (.tup _ [.bool true,.int .i64 q,.int .i32 (Utf8.decode ⟨s.toArray⟩ q).1] rfl fun j y u e1 e2=>?_)
    ·by_cases ha:(s.getD q 0).toNat<128
     ·rw[decode_ascii ⟨s.toArray⟩ q hlt' (by rw[hby];exact ha)];exact Nat.le_refl _
     ·exact (decode_high ⟨s.toArray⟩ q hlt' (by rw[hby];omega)).2
    ·intro ha
     rw[decode_ascii ⟨s.toArray⟩ q hlt' (by rw[hby];exact ha)]
     exact⟨by simp only[hby],rfl⟩
    ·intro ha
     have:=(decode_high ⟨s.toArray⟩ q hlt' (by rw[hby];exact ha)).1
     omega
    ·match j with
     |0=>simp at e1 e2;subst e1;subst e2;exact .c _ _ (.bool _)
     |1=>simp at e1 e2;subst e1;subst e2;exact .c _ _ (.int _ _)
     |2=>simp at e1 e2;subst e1;subst e2;exact .c _ _ (.int _ _)
     |j+3=>simp at e1
   ·have hnl:¬q<(⟨s.toArray⟩:ByteArray).size:=by rw[hsz];exact hlt
    refine EOk.value (g':=g) (v:=.tuple #[.bool false]) (w':=w) (by simp[hexec,Instr.next,getObj,Sem.run,r3,hnl]) (c1 (by omega)) (.refl hs) (.tup _ [.bool false] rfl fun j x u e1 e2=>?_)
    cases j with
    |zero=>simp at e1 e2;subst e1;subst e2;exact .c _ _ (.bool _)
    |succ j=>simp at e1
  ·exact q2.elim
 ·exact q2.elim
theorem Qbla {x:Opd}{x':Operand}{K:V→Heap→Prop}(hm:o.op=.entry x')(hx:mO x x'=true)
  (hs:Sat H g w) (he:EnvOk w g e a) (hp:p=true) (ho:(EOp.ent x).eff P p e H K):EOk P H g w a o K:=by
 simp only[EOp.eff]at ho
 obtain⟨q1,q2⟩:=ho
 have hr:=Qaa he hx hp q1
 split at q2
 ·rename_i i hv
  rw[hv]at hr
  obtain⟨b,hq,hio⟩:=Qax3 hr.c_inv
  have hob:=hs.objs i
  split at q2
  ·rename_i l n left xx hH
   obtain⟨⟨es,hes⟩,c1⟩:=q2
   rw[hH]at hob
   obtain⟨b',mb,si,se,r1,r2,r3,r4,r5⟩:=hob
   rw[hio]at r1
   simp only[Option.some.injEq,Prod.mk.injEq,and_true]at r1
   subst r1
   obtain⟨_,h5⟩:=r5 n es hes
   obtain⟨ms,f1,f2,f3,f4,f5,f6⟩:=h5 rfl
   obtain⟨ix,m,k1,k2,k3⟩:=f6 xx rfl
   have hmo:=hs.objs l
   rw[hes]at hmo
   obtain⟨mb',ms',clock,d1,d2,d3,d4,d5,d6,d7,d8⟩:=hmo
   rw[r4]at d1
   simp only[Option.some.injEq,Prod.mk.injEq,and_true]at d1
   subst d1
   rw[f1]at d3
   simp only[Option.some.injEq,Go.Obj.map.injEq]at d3
   obtain⟨rfl,rfl⟩:=d3
   have g1:(getObj b).run P w=.ok (.mapIter (some mb) si se si) w:=by simp[getObj,Sem.run,r3]
   have g2:(getObj mb).run P w=.ok (.map ms si) w:=by simp[getObj,Sem.run,f1]
   have hfind:ms.find? (fun x=>x.born == m.born)=some m:=by
    cases hf:ms.find? (fun x=>x.born == m.born)with
    |none=>
     rw[Array.find?_eq_none]at hf
     have:=hf m (Array.mem_of_getElem? k2)
     simp at this
    |some m'=>
     have h1:=Array.find?_some hf
     obtain⟨i',hi'⟩:=Array.getElem?_of_mem (Array.mem_of_find?_eq_some hf)
     have:i'=ix:=d8 i' ix m' m hi' k2 (.inl (by simpa using h1))
     subst this
     rw[k2]at hi';exact hi'.symm
   refine EOk.value (g':=g) (v:=.tuple #[m.key,m.val]) (w':=w) ?_ c1 (.refl hs) (.tup _ [m.key,m.val] rfl fun j y u e1 e2=>?_)
   ·simp[execOp,hm,hq,Instr.entry,g1,k3,g2,hfind]
   ·have hRE:=d6 ix xx m k1 k2
    match j with
    |0=>simp at e1 e2;subst e1;subst e2;exact .c _ _ hRE.1
    |1=>simp at e1 e2;subst e1;subst e2;exact hRE.2
    |j+2=>simp at e1
  ·exact q2.elim
 ·exact q2.elim
theorem Qbjl {sz:Nat}{zero:List C}{x:Opd}{x':Operand}{ats:Array TypeId}{t el:TypeId}{i:TypeInfo}{z:Value}{K:V→Heap→Prop}
  (hm:o.op=.call { callee:=.builtin .clear,args:=#[x'],argTypes:=ats }) (hat:ats[0]? = some t) (hu:P.underlying t=some (.slice el))
  (hi:P.info? el=some i) (hz:i.zero=some z) (hzl:Qani zero z=true) (hzs:zero.length=sz) (hx:mO x x'=true)
  (hs:Sat H g w) (he:EnvOk w g e a) (hp:p=true) (ho:(EOp.clrs sz zero x).eff P p e H K):EOk P H g w a o K:=by
 simp only[EOp.eff]at ho
 obtain⟨q1,q2⟩:=ho
 have hrx:=Qaa he hx hp q1
 split at q2
 ·rename_i l z' st n hv
  obtain⟨rfl,q2⟩:=q2
  split at q2
  ·rename_i y rows hH
   obtain⟨rfl,q3,q4⟩:=q2
   rw[hv]at hrx
   have hrc:=hrx.c_inv
   generalize hq:a.eval x'=xv at hrc
   have hr:=Qm7 (w:=w) (g:=g) hzl
   have hzc:z.cells.size=y:=hr.1.trans hzs
   by_cases hn:n=0
   ·subst hn
    have e0:rows.take st++List.replicate 0 zero++rows.drop (st+0)=rows:=by simp
    rw[e0,Heap.set_self _ _ _ hH]at q4
    refine EOk.value (g':=g) (v:=.tuple #[]) (w':=w) ?_ q4 (.refl hs) (.unk _)
    cases hrc with
    |vslnil _ _ _ ad=>cases ad <;> simp[execOp,hm,resolve,invoke,builtin,hq,Builtin.clear_,hat,Qx hu]
    |vsl=>simp[execOp,hm,resolve,invoke,builtin,hq,Builtin.clear_,hat,Qx hu]
   ·cases hrc with
    |vslnil=>exact absurd rfl hn
    |vsl _ _ _ _ cap b base T mm hio hn' hsh hmm=>
     have hob:=hs.objs l
     rw[hH]at hob
     obtain⟨b',base',T',cs,val,r1,r2,r3,r4,r5,r6,r7,r8⟩:=SatVec.of hob hio
     rw[hio]at r1
     simp only[Option.some.injEq,Prod.mk.injEq,true_and]at r1
     obtain⟨rfl,rfl⟩:=r1
     have hget:∀(q:Nat) (v:Value),(Builtin.zeroCells z.cells n)[q]? = some v→q<n * y∧z.cells[q % y]? = some v:=by
      intro q v h
      simp only[Builtin.zeroCells,hzc,Array.getElem?_map]at h
      by_cases hq2:q<n * y
      ·rw[Array.getElem?_range,if_pos hq2]at h
       have hy0:0<y:=by
        rcases Nat.eq_zero_or_pos y with h0|h0
        ·subst h0;simp at hq2
        ·exact h0
       have hlt:q % y<z.cells.size:=by rw[hzc];exact Nat.mod_lt _ hy0
       refine⟨hq2,?_⟩
       rw[Array.getElem?_eq_getElem hlt]
       simp only[Option.map_some,Option.some.injEq]at h
       rw[←h];simp[hlt]
      ·rw[Array.getElem?_range,if_neg hq2]at h
       simp at h
     have hlen:(Builtin.zeroCells z.cells n).toList.length=n * y:=by simp[Builtin.zeroCells,hzc]
     have hone:∀v∈(Builtin.zeroCells z.cells n).toList,v.oneCell'=true:=by
      intro v hv
      obtain⟨j,hj⟩:=List.getElem?_of_mem hv
      obtain⟨h1,h2⟩:=hget j v (by simpa using hj)
      have hlt:j % y<zero.length:=by
       rcases Nat.lt_or_ge (j % y) z.cells.size with h|h
       ·rw[hr.1]at h;exact h
       ·rw[Array.getElem?_eq_none h]at h2;simp at h2
      exact (hr.2 _ _ v (List.getElem?_eq_getElem hlt) h2).one
     have hfit:(st+n) * y≤rows.length * y:=Nat.mul_le_mul_right _ q3
     rw[Nat.add_mul]at hfit
     have hf:=fun j=>Qqt (base+st * y) (Builtin.zeroCells z.cells n).toList 0 cs j (by rw[hlen];omega)
     have hrun:=Qfy (P:=P) (Builtin.zeroCells z.cells n).toList 0 w b (base+st * y) cs T' r3 (by rw[hlen];omega) hone
     generalize hcs':((Builtin.zeroCells z.cells n).toList.zipIdx 0).foldl (fun (cs:Array Value) (x:Value×Nat)=>cs.setIfInBounds (base+st * y+x.2) x.1) cs=cs' at hf hrun
     refine EOk.value (g':=g) (v:=.tuple #[]) (w':=World.putCells w b cs' T') ?_ q4 ?_ (.unk _)
     ·obtain⟨n',rfl⟩:∃n',n=n'+1:=⟨n-1,by omega⟩
      simp[execOp,hm,resolve,invoke,builtin,hq,Builtin.clear_,hat,Qx hu,Qhc hi hz,hrun]
     ·refine Qnk hs r2 r3 (hf 0).1 _ (by rw[hH];simp) (fun hle hw'=>?_) (by simp)
      have hrow:∀(i2:Nat) (row:List C),(rows.take st++List.replicate n zero++rows.drop (st+n))[i2]? = some row→
        (st≤i2∧i2<st+n∧row=zero)∨((i2<st∨st+n≤i2)∧rows[i2]? = some row):=by
       intro i2 row h
       by_cases h1:i2<st
       ·rw[List.append_assoc,List.getElem?_append_left (by simp;omega),List.getElem?_take,if_pos h1]at h
        exact .inr ⟨.inl h1,h⟩
       ·by_cases h2:i2<st+n
        ·rw[List.getElem?_append_left (by simp;omega),List.getElem?_append_right (by simp;omega),List.getElem?_replicate]at h
         split at h
         ·exact .inl ⟨by omega,h2,by simpa using h.symm⟩
         ·simp at h
        ·rw[List.getElem?_append_right (by simp;omega),List.getElem?_drop]at h
         refine .inr ⟨.inr (by omega),?_⟩
         rw[←h];congr 1;simp;omega
      have hval:∀(i2:Nat) (row:List C) (j:Nat) (c:C),(rows.take st++List.replicate n zero++rows.drop (st+n))[i2]? = some row→row[j]? = some c→
        ∃v,cs'[base+i2 * y+j]? = some v∧RepO (World.putCells w b cs' T') g l [i2,j] c v:=by
       intro i2 row j c e1 e2
       have hjl:j<row.length:=(List.getElem?_eq_some_iff.1 e2).1
       rcases hrow i2 row e1 with ⟨a1,a2,rfl⟩|⟨a1,a2⟩
       ·rw[hzs]at hjl
        have hq1:(i2-st) * y+j<n * y:=Qqk (by omega) hjl
        have hjz:j<z.cells.size:=by rw[hzc];exact hjl
        refine⟨z.cells[j],?_,.plain _ _ _ _ ((hr.2 j c _ e2 (Array.getElem?_eq_getElem hjz)).mono hle)⟩
        have hi2:i2 * y=st * y+(i2-st) * y:=by rw[←Nat.add_mul];congr 1;omega
        rw[(hf _).2,if_pos (by rw[hlen];omega),hi2]
        have:base+(st * y+(i2-st) * y)+j-(base+st * y+0)=(i2-st) * y+j:=by omega
        rw[this]
        have hlt2:(i2-st) * y+j<(Builtin.zeroCells z.cells n).toList.length:=by rw[hlen];exact hq1
        rw[List.getElem?_eq_getElem hlt2]
        have h3:=hget ((i2-st) * y+j) _ (by rw[←Array.getElem?_toList];exact List.getElem?_eq_getElem hlt2)
        have hmod:((i2-st) * y+j) % y=j:=by rw[Nat.mul_comm,Nat.mul_add_mod];exact Nat.mod_eq_of_lt hjl
        rw[hmod,Array.getElem?_eq_getElem hjz]at h3
        exact h3.2.symm
       ·refine⟨val i2 j,?_,Ql9 r2 hle (fun b' h=>Qay h) (by simp) (r8 _ _ _ _ a2 e2)⟩
        have hjy:j<y:=by rw[←r6 _ _ a2];exact hjl
        rw[(hf _).2,if_neg ?_]
        ·exact r7 _ _ _ _ a2 e2
        ·rw[hlen]
         intro hcon
         rcases a1 with h|h
         ·have:(i2+1) * y≤st * y:=Nat.mul_le_mul_right _ (by omega)
          rw[Nat.add_mul,Nat.one_mul]at this
          omega
         ·have:(st+n) * y≤i2 * y:=Nat.mul_le_mul_right _ h
          rw[Nat.add_mul]at this
          omega
      refine .inr ⟨b,base,T',cs',fun i2 j=>cs'.getD (base+i2 * y+j) undef,hio,r2,hw',?_,?_,fun i2 row h=>?_,fun i2 row j c e1 e2=>?_,fun i2 row j c e1 e2=>?_⟩
      ·rw[(hf 0).1]
       have:(rows.take st++List.replicate n zero++rows.drop (st+n)).length=rows.length:=by simp;omega
       rw[this];exact r4
      ·have:(rows.take st++List.replicate n zero++rows.drop (st+n)).length=rows.length:=by simp;omega
       rw[this];exact r5
      ·rcases hrow i2 row h with ⟨_,_,rfl⟩|⟨_,a2⟩
       ·exact hzs
       ·exact r6 _ _ a2
      ·obtain⟨v,h1,h2⟩:=hval i2 row j c e1 e2
       rw[h1];simp[Array.getD_eq_getD_getElem?,h1]
      ·obtain⟨v,h1,h2⟩:=hval i2 row j c e1 e2
       have e0:cs'.getD (base+i2 * y+j) undef=v:=by simp[Array.getD_eq_getD_getElem?,h1]
       show RepO _ _ _ _ _ (cs'.getD (base+i2 * y+j) undef)
       rw[e0];exact h2
  ·exact q2.elim
 ·exact q2.elim
theorem Qbk8 {sz:Nat}{x y:Opd}{x' y':Operand}{ats:Array TypeId}{t el:TypeId}{i:TypeInfo}{K:V→Heap→Prop}
  (hm:o.op=.call { callee:=.builtin .copy,args:=#[x',y'],argTypes:=ats }) (hat:ats[0]? = some t) (hu:P.underlying t=some (.slice el))
  (hi:P.info? el=some i) (hz:i.size=sz) (hx:mO x x'=true) (hy:mO y y'=true)
  (hs:Sat H g w) (he:EnvOk w g e a) (hp:p=true) (ho:(EOp.cpy sz x y).eff P p e H K):EOk P H g w a o K:=by
 simp only[EOp.eff]at ho
 obtain⟨q1,q2,q3,q4,q5,q6,q7⟩:=ho
 have hrx:=Qaa he hx hp q1
 have hry:=Qaa he hy hp q2
 rw[Qdd q4]at hry
 have hrs:=hry.c_inv
 generalize (y.v e).c1=sx at *
 rw[Qdd q3]at hrx
 have hrc:=hrx.c_inv
 generalize (x.v e).c1=cx at *
 generalize hqa:a.eval x'=xv at hrc
 generalize hqb:a.eval y'=yv at hrs
 split at q7
 ·rename_i l z' st n
  split at q7
  ·rename_i y2 rows hH
   obtain⟨rfl,rfl,k3,k4,k5,k6⟩:=q7
   obtain⟨f,f1,f2,f3⟩:=Qwz (P:=P) hs hrs q5 q6 k5
   obtain⟨ad,cap2,rfl,r1',r2',r3',_⟩:=Qq5 hs hrs q5
   rw[q6]at r3'
   have hmin:Nat.min (lenC sx) n=lenC sx:=Nat.min_eq_left k4
   generalize hm0:lenC sx=m at *
   by_cases hm1:m=0
   ·subst hm1
    have hr0:Q9 H sx=[]:=List.length_eq_zero_iff.1 (by omega)
    have e0:rows.take st++Q9 H sx++rows.drop (st+0)=rows:=by rw[hr0];simp
    rw[e0,Heap.set_self _ _ _ hH]at k6
    refine EOk.value (g':=g) (v:=.int .i64 0) (w':=w) ?_ k6 (.refl hs) (.c _ _ (.int _ _))
    simp at f1
    cases hrc with
    |vslnil _ _ _ ad2=>cases ad2 <;> simp[execOp,hm,resolve,invoke,builtin,hqa,hqb,Builtin.copy_,Builtin.lenOf,hat,Qx hu,Qat hi,hz,f1,storeCells,goInt]
    |vsl=>simp[execOp,hm,resolve,invoke,builtin,hqa,hqb,Builtin.copy_,Builtin.lenOf,hat,Qx hu,Qat hi,hz,f1,storeCells,goInt]
   ·cases hrc with
    |vslnil=>exact absurd (Nat.le_zero.1 k4) hm1
    |vsl _ _ _ _ cap b base T mm hio hn' hsh hmm=>
     have hob:=hs.objs l
     rw[hH]at hob
     obtain⟨b',base',T',cs,val,r1,r2,r3,r4,r5,r6,r7,r8⟩:=SatVec.of hob hio
     rw[hio]at r1
     simp only[Option.some.injEq,Prod.mk.injEq,true_and]at r1
     obtain⟨rfl,rfl⟩:=r1
     have hlen:((List.range (m * y2)).map f).length=m * y2:=by simp
     have hone:∀v∈(List.range (m * y2)).map f,v.oneCell'=true:=by
      intro v hv
      obtain⟨q,hq,rfl⟩:=List.mem_map.1 hv
      exact f2 q (List.mem_range.1 hq)
     have hfit:(st+n) * y2≤rows.length * y2:=Nat.mul_le_mul_right _ k3
     have hfit2:m * y2≤n * y2:=Nat.mul_le_mul_right _ k4
     rw[Nat.add_mul]at hfit
     have hf:=fun j=>Qqt (base+st * y2) ((List.range (m * y2)).map f) 0 cs j (by rw[hlen];omega)
     have hrun:=Qfy (P:=P) ((List.range (m * y2)).map f) 0 w b (base+st * y2) cs T' r3 (by rw[hlen];omega) hone
     generalize hcs':(((List.range (m * y2)).map f).zipIdx 0).foldl (fun (cs:Array Value) (x:Value×Nat)=>cs.setIfInBounds (base+st * y2+x.2) x.1) cs=cs' at hf hrun
     refine EOk.value (g':=g) (v:=.int .i64 m) (w':=World.putCells w b cs' T') ?_ k6 ?_ (.c _ _ (.int _ _))
     ·simp[execOp,hm,resolve,invoke,builtin,hqa,hqb,Builtin.copy_,Builtin.lenOf,hat,Qx hu,Qat hi,hz,hmin,f1,hrun,goInt]
     ·refine Qnk hs r2 r3 (hf 0).1 _ (by rw[hH];simp) (fun hle hw'=>?_) (by simp)
      have hrow:∀(i2:Nat) (row:List C),(rows.take st++Q9 H sx++rows.drop (st+m))[i2]? = some row→
        (st≤i2∧i2<st+m∧(Q9 H sx)[i2-st]? = some row)∨((i2<st∨st+m≤i2)∧rows[i2]? = some row):=by
       intro i2 row h
       by_cases h1:i2<st
       ·rw[List.append_assoc,List.getElem?_append_left (by simp;omega),List.getElem?_take,if_pos h1]at h
        exact .inr ⟨.inl h1,h⟩
       ·by_cases h2:i2<st+m
        ·rw[List.getElem?_append_left (by simp;omega),List.getElem?_append_right (by simp;omega)]at h
         refine .inl ⟨by omega,h2,?_⟩
         have e:i2-(rows.take st).length=i2-st:=by simp;omega
         rw[e]at h;exact h
        ·rw[List.getElem?_append_right (by simp;omega),List.getElem?_drop]at h
         refine .inr ⟨.inr (by omega),?_⟩
         rw[←h];congr 1;simp;omega
      have hval:∀(i2:Nat) (row:List C) (j:Nat) (c:C),(rows.take st++Q9 H sx++rows.drop (st+m))[i2]? = some row→row[j]? = some c→
        ∃v,cs'[base+i2 * y2+j]? = some v∧RepO (World.putCells w b cs' T') g l [i2,j] c v:=by
       intro i2 row j c e1 e2
       have hjl:j<row.length:=(List.getElem?_eq_some_iff.1 e2).1
       rcases hrow i2 row e1 with ⟨a1,a2,a3⟩|⟨a1,a2⟩
       ·rw[r3' _ _ a3]at hjl
        have hq1:(i2-st) * y2+j<m * y2:=Qqk (by omega) hjl
        refine⟨f ((i2-st) * y2+j),?_,.plain _ _ _ _ ((f3 _ _ _ _ a3 e2).mono hle)⟩
        have hi2:i2 * y2=st * y2+(i2-st) * y2:=by rw[←Nat.add_mul];congr 1;omega
        rw[(hf _).2,if_pos (by rw[hlen];omega),hi2]
        have:base+(st * y2+(i2-st) * y2)+j-(base+st * y2+0)=(i2-st) * y2+j:=by omega
        rw[this,List.getElem?_map,List.getElem?_range hq1];rfl
       ·refine⟨val i2 j,?_,Ql9 r2 hle (fun b' h=>Qay h) (by simp) (r8 _ _ _ _ a2 e2)⟩
        have hjy:j<y2:=by rw[←r6 _ _ a2];exact hjl
        rw[(hf _).2,if_neg ?_]
        ·exact r7 _ _ _ _ a2 e2
        ·rw[hlen]
         intro hcon
         rcases a1 with h|h
         ·have:(i2+1) * y2≤st * y2:=Nat.mul_le_mul_right _ (by omega)
          rw[Nat.add_mul,Nat.one_mul]at this
          omega
         ·have:(st+m) * y2≤i2 * y2:=Nat.mul_le_mul_right _ h
          rw[Nat.add_mul]at this
          omega
      have hll:(rows.take st++Q9 H sx++rows.drop (st+m)).length=rows.length:=by simp;omega
      refine .inr ⟨b,base,T',cs',fun i2 j=>cs'.getD (base+i2 * y2+j) undef,hio,r2,hw',?_,?_,fun i2 row h=>?_,fun i2 row j c e1 e2=>?_,fun i2 row j c e1 e2=>?_⟩
      ·rw[(hf 0).1,hll];exact r4
      ·rw[hll];exact r5
      ·rcases hrow i2 row h with ⟨_,_,a3⟩|⟨_,a2⟩
       ·exact r3' _ _ a3
       ·exact r6 _ _ a2
      ·obtain⟨v,h1,h2⟩:=hval i2 row j c e1 e2
       rw[h1];simp[Array.getD_eq_getD_getElem?,h1]
      ·obtain⟨v,h1,h2⟩:=hval i2 row j c e1 e2
       have e0:cs'.getD (base+i2 * y2+j) undef=v:=by simp[Array.getD_eq_getD_getElem?,h1]
       show RepO _ _ _ _ _ (cs'.getD (base+i2 * y2+j) undef)
       rw[e0];exact h2
  ·exact q7.elim
 ·exact q7.elim
end Go.AE

