/- Part 1 of the proof: the engine, codes, walks and plain laws, each named where it stands. -/
import Derived.MapKept
import Derived.WalkKit
open Nat (reduceEqDiff reduceAdd reduceLeDiff reduceLT)
set_option linter.unusedVariables false
set_option linter.unusedSimpArgs false
set_option maxRecDepth 4000
open Array renaming getD_eq_getD_getElem?->Jc,getElem?_eq_getElem->Jd,getElem?_eq_none->Ji,getElem?_setIfInBounds_ne->Jr,getElem?_toList->Jv,getElem?_setIfInBounds_self_of_lt->Jy,getElem?_push->J7,getElem?_modify->Jaa,ext'->Jag,getElem?_of_mem->Jaj,getElem?_append_left->Jal,append_assoc->Jam,size_eq_zero_iff->Jat,mem_of_getElem?->Jau,toList_zipIdx->Ja2,foldl_toList->Ja4,getElem?_map->Ja5,getElem_mem->Jba,mem_push->Jbj
open Bool renaming and_eq_true->Ja,false_eq_true->Ju,or_eq_true->Jah,not_eq_true'->Jap,eq_iff_iff->Jbi
open ByteArray renaming ext->Ja6
open ByteArray.mk renaming injEq->Jbo
open Function renaming comp_def->Jbb
open Iff renaming rfl->Jbm
open Int renaming toNat_natCast->Jaq,natCast_nonneg->Ja7
open List renaming getElem?_eq_getElem->Je,getElem?_eq_none->Jf,mem_of_getElem?->Jg,getElem?_append_left->Jj,getElem?_map->Jl,getElem?_append_right->Jm,getElem?_take->Jp,getElem?_drop->Js,length_eq_zero_iff->Jw,append_assoc->Jx,mem_append->J1,getD_eq_getElem?_getD->J2,mem_cons->J3,map_congr_left->J8,length_cons->J9,getElem?_of_mem->Jab,extract_eq_take_drop->Jac,all_eq_true->Jad,getElem?_range->Jaf,length_append->Jai,getElem?_eq_some_iff->Jao,getElem?_set->Jar,append_nil->Jav,getElem?_toArray->Jaw,length_nil->Jax,mem_append_right->Jay,nodup_cons->Jaz,mem_append_left->Ja0,drop_take->Ja1,append_of_mem->Ja8,map_cons->Ja9,ext_getElem?->Jbc,length_range->Jbd,mem_map->Jbe,any_eq_true->Jbg,not_mem_nil->Jbh,mem_range->Jbk,map_map->Jbn
open Nat renaming lt_or_ge->Jh,add_mul->Jk,mul_le_mul_right->Jo,le_refl->Jt,add_zero->J0,zero_add->J6,one_mul->Jak,eq_zero_or_pos->Jan,add_assoc->Jas,mul_le_mul_left->Ja3,mul_comm->Jbf,mod_lt->Jbl
open Option renaming map_some->Jq,getD_some->Jz,isSome_iff_exists->J4,map_none->J5,getD_none->Jae
open Option.some renaming injEq->Jb
open Prod.mk renaming injEq->Jn
namespace Go.AE
theorem Wa{G g:Prop}(h:g)(e:g→G:=by intro h;refine Q1 (Qa ?_);simp only[go_sem];exact h):G:=e h
theorem Wb{G g:Prop}(h:g)(e:g→G:=by intro h;refine Za ?_;refine Za ?_;exact h):G:=e h
theorem Wc{G g:Prop}(h:g)(e:g→G:=by intro h;refine Zc ?_;refine Za ?_;exact h):G:=e h
theorem Wd{G g:Prop}(h:g)(e:g→G:=by intro h;refine Ze ?_;refine Qh (Qd ?_);exact h):G:=e h
theorem We{G g:Prop}(h:g)(e:g→G:=by intro h;refine Za ?_;refine Zk ?_;exact h):G:=e h
theorem Wf{G g:Prop}(h:g)(e:g→G:=by intro h;refine Za ?_;refine Wa ?_;exact h):G:=e h
theorem Wg{G g:Prop}(h:g)(e:g→G:=by intro h;refine Za ?_;refine Qa ?_;exact h):G:=e h
theorem Wh{G g:Prop}(h:g)(e:g→G:=by intro h;refine Wc ?_;refine Zb ?_;exact h):G:=e h
theorem Wi{G g:Prop}(h:g)(e:g→G:=by intro h;refine Qh (Qd ?_);refine Za ?_;exact h):G:=e h
theorem Wj{G g:Prop}(h:g)(e:g→G:=by intro h;refine Za ?_;refine Q1 (Qa ?_);exact h):G:=e h
theorem Wk{G g:Prop}(h:g)(e:g→G:=by intro h;refine Qh (Qd ?_);refine Qa ?_;exact h):G:=e h
theorem Wl{G g:Prop}(h:g)(e:g→G:=by intro h;refine Ze ?_;refine Zf ?_;exact h):G:=e h
theorem Wm{G g:Prop}(h:g)(e:g→G:=by intro h;refine Za ?_;refine Zb ?_;exact h):G:=e h
theorem Wn{G g:Prop}(h:g)(e:g→G:=by intro h;refine Ze ?_;refine Qh (Qd (Au ?_));exact h):G:=e h
theorem Wo{G g:Prop}(h:g)(e:g→G:=by intro h;refine Wd ?_;refine Qa ?_;exact h):G:=e h
theorem Wp{G g:Prop}(h:g)(e:g→G:=by intro h;refine Za ?_;refine Zo ?_;exact h):G:=e h
theorem Wq{G g:Prop}(h:g)(e:g→G:=by intro h;refine Wb ?_;refine Q1 (Qa ?_);exact h):G:=e h
theorem Wr{G g:Prop}(h:g)(e:g→G:=by intro h;refine Qh (Qd ?_);refine Au ?_;exact h):G:=e h
theorem Ws{G g:Prop}(h:g)(e:g→G:=by intro h;refine Qd (Qa ?_);simp only[go_sem];exact h):G:=e h
theorem Wt{G g:Prop}(h:g)(e:g→G:=by intro h;refine Qh (Qd ?_);refine Qp ?_;exact h):G:=e h
theorem Wu{G a b:Prop}(h:a)(k:b)(e:a→b→G:=by intro h k;exact Qh (Qe rfl h k)):G:=e h k
theorem Wv{G a b:Prop}(h:a)(k:b)(e:a→b→G:=by intro h k;exact Qe rfl h k):G:=e h k
theorem Za{G g:Prop}(h:g)(e:g→G:=by intro h;refine Qa ?_;simp only[go_sem];exact h):G:=e h
theorem Zb{G g:Prop}(h:g)(e:g→G:=by intro h;refine Ql ?_;simp only[go_sem,Q6,Aa,Ja,forall_eq,RS.op];exact h):G:=e h
theorem Zc{G g:Prop}(h:g)(e:g→G:=by intro h;refine Qu ?_;simp only[go_sem,X.next];exact h):G:=e h
theorem Zd{G g:Prop}(h:g)(e:g→G:=by intro h;refine Qi ?_;(try simp only[go_sem]);exact h):G:=e h
theorem Ze{G g:Prop}(h:g)(e:g→G:=by intro h;refine Qi ?_;simp only[go_sem];exact h):G:=e h
theorem Zf{G g:Prop}(h:g)(e:g→G:=by intro h;refine Qp ?_;simp only[go_sem,X.next];exact h):G:=e h
theorem Zg{G g P0:Prop}(p0:P0)(h:g)(e:P0→g→G:=by intro p0 h;refine Ql ?_;simp only[go_sem,Q6,Aa,Ja,forall_eq,RS.op,p0];exact h):G:=e p0 h
theorem Zh{G g:Prop}(h:g)(e:g→G:=by intro h;refine Qp ?_;simp only[go_sem];exact h):G:=e h
theorem Zi{G g P0:Prop}(p0:P0)(h:g)(e:P0→g→G:=by intro p0 h;refine Qa ?_;simp only[go_sem,p0];exact h):G:=e p0 h
theorem Zj{G g:Prop}(h:g)(e:g→G:=by intro h;refine Ql ?_;simp only[go_sem,Q6,Aa,Jb,forall_eq,RS.op];exact h):G:=e h
theorem Zk{G g:Prop}(h:g)(e:g→G:=by intro h;refine Ql ?_;simp only[go_sem];exact h):G:=e h
theorem Zl{G g P0 P1:Prop}(p0:P0)(p1:P1)(h:g)(e:P0→P1→g→G:=by intro p0 p1 h;refine Qa ?_;simp only[go_sem,p0,p1];exact h):G:=e p0 p1 h
theorem Zm{G g:Prop}(h:g)(e:g→G:=by intro h;refine Ql ?_;simp only[go_sem,X.next,Q6,Aa,Ja,forall_eq,RS.op];exact h):G:=e h
theorem Zn{G g P0 P1:Prop}(p0:P0)(p1:P1)(h:g)(e:P0→P1→g→G:=by intro p0 p1 h;refine Ql ?_;simp only[go_sem,Q6,Aa,Ja,forall_eq,RS.op,p0,p1];exact h):G:=e p0 p1 h
theorem Zo{G g:Prop}(h:g)(e:g→G:=by intro h;refine Ql ?_;simp only[go_sem,X.next];exact h):G:=e h
theorem Zp{G g P0 P1 P2:Prop}(p0:P0)(p1:P1)(p2:P2)(h:g)(e:P0→P1→P2→g→G:=by intro p0 p1 p2 h;refine Qa ?_;simp only[go_sem,p0,p1,p2];exact h):G:=e p0 p1 p2 h
theorem Zq{G g P0:Prop}(p0:P0)(h:g)(e:P0→g→G:=by intro p0 h;refine Qp ?_;simp only[go_sem,p0];exact h):G:=e p0 h
theorem Zr{G g P0:Prop}(p0:P0)(h:g)(e:P0→g→G:=by intro p0 h;refine Qa ?_;simp only[go_sem,GS.o,p0];exact h):G:=e p0 h
theorem Zs{G g:Prop}(h:g)(e:g→G:=by intro h;refine Qa ?_;simp only[go_sem,x.aF];exact h):G:=e h
theorem Zt{G g P0:Prop}(p0:P0)(h:g)(e:P0→g→G:=by intro p0 h;refine Ql ?_;simp only[go_sem,Q6,Aa,Jx,J1,RS.op,p0];exact h):G:=e p0 h
theorem Zu{G g:Prop}(h:g)(e:g→G:=by intro h;refine Qa ?_;simp only[go_sem,InsD.cells];exact h):G:=e h
theorem Zv{G g:Prop}(h:g)(e:g→G:=by intro h;refine Aj ?_;simp only[go_sem];exact h):G:=e h
theorem Zw{G g:Prop}(h:g)(e:g→G:=by intro h;refine Qu ?_;simp only[go_sem,Go.AE.X.next];exact h):G:=e h
theorem Zx{P:Prop}(h:P:=by omega):P:=h
theorem Zy{P:Prop}(h:P:=by simp[lk]):P:=h
theorem Zz{P:Prop}(h:P:=by simp):P:=h
theorem ZA{P:Prop}(h:P:=by simpa using hc):P:=h
theorem ZB{P:Prop}(h:P:=by kernel_rfl):P:=h
theorem ZC{P:Prop}(h:P:=by simpa using aC):P:=h
theorem ZD{P:Prop}(h:P:=by simp;omega):P:=h
theorem ZE{P:Prop}(h:P:=by simp[lk];rfl):P:=h
theorem ZF{P:Prop}(h:P:=by simp at h):P:=h
theorem ZG{P:Prop}(h:P:=by simp[G.newObj]):P:=h
theorem ZH{P:Prop}(h:P:=by simpa using kn):P:=h
theorem ZI{P:Prop}(h:P:=by simpa using h):P:=h
theorem ZJ{P:Prop}(h:P:=by simp only[Je,Jk,Jn,LIM];omega):P:=h
theorem ZK{P:Prop}(h:P:=by decide):P:=h
theorem ZL{P:Prop}(h:P:=by simpa using bI):P:=h
theorem ZM{P:Prop}(h:P:=by simp only[LIM];omega):P:=h
theorem ZN{P:Prop}(h:P:=by simpa using dq):P:=h
theorem ZO{P:Prop}(h:P:=by rw[Qf];omega):P:=h
theorem ZP{P:Prop}(h:P:=by rw[hI.split];simp[hz]):P:=h
theorem ZQ{P:Prop}(h:P:=by simpa using hb):P:=h
theorem ZR{P:Prop}(h:P:=by simp only[World.shape?];rw[show w.heap.size=w.drew.heap.size from rfl,Cj]):P:=h
theorem ZS{P:Prop}(h:P:=by simpa using e2):P:=h
theorem ZT{P:Prop}(h:P:=by simpa using h2):P:=h
theorem ZU{P:Prop}(h:P:=by simpa using hj):P:=h
theorem ZV{P:Prop}(h:P:=by simpa using hi):P:=h
theorem ZW{P:Prop}(h:P:=by simp at hc;simp[Bg,hc]):P:=h
theorem ZX{P:Prop}(h:P:=by simp[Jb,ae]):P:=h
theorem ZY{P:Prop}(h:P:=by rw[am];omega):P:=h
theorem ZZ{P:Prop}(h:P:=by rw[h2];simp):P:=h
theorem Zaa{P:Prop}(h:P:=by simpa using hl):P:=h
theorem Zab{P:Prop}(h:P:=by simpa using hg):P:=h
theorem Zac{P:Prop}(h:P:=by rw[(Bz _ _ _).1,hn]):P:=h
theorem Zad{P:Prop}(h:P:=by rw[(Bz _ _ _).2,hd]):P:=h
theorem Zae{P:Prop}(h:P:=by simp[Qb]):P:=h
theorem Zaf{P:Prop}(h:P:=by simp only[EOp.eff,BF]):P:=h
theorem Zag{P:Prop}(h:P:=by rw[←hx];simp[Jb,cC,OIns.row,OInts.c]):P:=h
theorem Zah{P:Prop}(h:P:=by simpa using h1):P:=h
theorem Zai{P:Prop}(h:P:=by rw[Qy];omega):P:=h
theorem Zaj{P:Prop}(h:P:=by simp[lk];exact of_decide_eq_true hc):P:=h
theorem Zak{P:Prop}(h:P:=by simp[G.handOver]):P:=h
theorem Zal{P:Prop}(h:P:=by rw[ho];rfl):P:=h
theorem Zam{P:Prop}(h:P:=by rw[stI];simp[h]):P:=h
theorem Zan{P:Prop}(h:P:=by simp[getObj,Sem.run,r3]):P:=h
theorem Zao{P:Prop}(h:P:=by rw[hI.lsz];exact (Jm.1 ho.op).1):P:=h
theorem Zap{P:Prop}(h:P:=by simpa using bF):P:=h
theorem Zaq{P:Prop}(h:P:=by simpa using hr):P:=h
theorem Zar{P:Prop}(h:P:=by simp only[FOp.val,hv];exact .c _ _ (.int _ _)):P:=h
theorem Zas{P:Prop}(h:P:=by simp only[Qf,LIM,Jk,Jn];omega):P:=h
theorem Zat{P:Prop}(h:P:=by simp only[Qf,LIM,Jn,Jl];omega):P:=h
theorem Zau{P:Prop}(h:P:=by rw[hc a [b,c],hc b [c]];omega):P:=h
theorem Zav{P:Prop}(h:P:=by simp only[Jd,LIM,Jj,Jm];omega):P:=h
theorem Zaw{P:Prop}(h:P:=by rw[hH];simp):P:=h
theorem Zax{P:Prop}(h:P:=by rw[hc a [b,c,d],hc b [c,d],hc c [d]];omega):P:=h
theorem Zay{P:Prop}(h:P:=by simp[k1]):P:=h
theorem Zaz{P:Prop}(h:P:=by simpa using ha):P:=h
theorem ZaA{P:Prop}(h:P:=by rw[ho];exact OBlk.inM (Jk _ (o.aM ae))):P:=h
theorem ZaB{P:Prop}(h:P:=by subst h;exact mc (hs.none_of_io du)):P:=h
theorem ZaC{P:Prop}(h:P:=by rw[Opd.aD (h x hx),Opd.aQ (h x hx)]):P:=h
theorem ZaD{P:Prop}(h:P:=by rw[kn.chg 0 bx (by simp)];exact dX):P:=h
theorem ZaE{P:Prop}(h:P:=by simp[OIns.lg,OInts.lg]):P:=h
theorem ZaF{P:Prop}(h:P:=by rw[s.c];exact bQ):P:=h
theorem ZaG{P:Prop}(h:P:=by simp[hn]):P:=h
theorem ZaH{P:Prop}(h:P:=by rw[hI.size];exact FO ho.item t ht):P:=h
theorem ZaI{P:Prop}(h:P:=by simp[hp]):P:=h
theorem ZaJ{P:Prop}(h:P:=by rw[Jf];simpa using cC):P:=h
theorem ZaK{P:Prop}(h:P:=by rw[Jd,J0];omega):P:=h
theorem ZaL{P:Prop}(h:P:=by simpa using e1):P:=h
theorem ZaM{P:Prop}(h:P:=by simpa using hz):P:=h
theorem ZaN{P:Prop}(h:P:=by simpa using hx):P:=h
theorem ZaO{P:Prop}(h:P:=by rw[Opd.aQ (h x hx)]):P:=h
theorem ZaP{P:Prop}(h:P:=by rw[←hx];exact Jc cC):P:=h
theorem ZaQ{P:Prop}(h:P:=by rw[←hp];exact Jd ae):P:=h
theorem ZaR{P:Prop}(h:P:=by rw[←hk];exact Jc ae):P:=h
theorem ZaS{P:Prop}(h:P:=by rw[←hp];exact Jc ae):P:=h
theorem ZaT{P:Prop}(h:P:=by rw[hI.split];simp):P:=h
theorem ZaU{P:Prop}(h:P:=by rw[Jk];omega):P:=h
theorem ZaV{P:Prop}(h:P:=by rw[x.aF];rfl):P:=h
theorem ZaW{P:Prop}(h:P:=by simp[Ao,h.c]):P:=h
theorem ZaX{P:Prop}(h:P:=by rw[←hX];simp):P:=h
theorem ZaY{P:Prop}(h:P:=by simp[h]):P:=h
theorem ZaZ{P:Prop}(h:P:=by rw[h.n];exact h2):P:=h
theorem Za0{P:Prop}(h:P:=by rw[←e1];exact hx):P:=h
theorem Za1{P:Prop}(h:P:=by simp[Jb,hi]):P:=h
theorem Za2{P:Prop}(h:P:=by simp[Jb,b7]):P:=h
theorem Za3{P:Prop}(h:P:=by rw[hz];simp):P:=h
theorem Za4{P:Prop}(h:P:=by rw[←eN];rfl):P:=h
theorem Za5{P:Prop}(h:P:=by rw[←hd];rfl):P:=h
theorem Za6{P:Prop}(h:P:=by rw[dZ];exact bk):P:=h
theorem Za7{P:Prop}(h:P:=by rw[hL];exact GG):P:=h
theorem Za8{P:Prop}(h:P:=by simp[hl]):P:=h
theorem Za9{P:Prop}(h:P:=by simp[hx]):P:=h
theorem Zba{P:Prop}(h:P:=by simp[hz]):P:=h
theorem Zbb{P:Prop}(h:P:=by simp[B1]):P:=h
theorem Zbc{P:Prop}(h:P:=by simp at hc):P:=h
theorem Zbd{P:Prop}(h:P:=by rw[hH];rfl):P:=h
theorem Zbe{P:Prop}(h:P:=by simp[ih.1]):P:=h
end Go.AE
namespace Go.AE
def LIM:Nat:=549755813888
inductive C where
 |int (k:IntKind) (n:Int)
 |bool (b:Bool)
 |str (s:List UInt8)
 |sl (full:Bool) (sz:Nat) (rows:List (List C))
 |pp (cells:List C)
 |ep (s:C) (sz i k:Nat)
 |pnil
 |ptr (l k:Nat)
 |af (l sz st n:Nat)
 |mp (l:Nat)
 |mnil
 |fn (f:Nat) (caps:List C)
 |fnil
 |itr (l:Nat)
 |ow (sz:Nat) (rows:List (List C))
 |unk
 deriving Inhabited
inductive V where
 |c (x:C)
 |ag (cs:List C)
 |tup (vs:List V)
 |gd (p:Bool) (v:V)
 |unk
 |pn (v:Value)
 |asl (l k n:Nat)
 deriving Inhabited
inductive Obj where
 |none
 |st (cells:List C)
 |vec (sz:Nat) (rows:List (List C))
 |map (ver:Nat) (es:List (C×V))
 |iter (m:Option (Nat×Nat)) (left:List (C×V)) (cur:Option (C×V))
 |gl (b:Nat) (cells:List C)
abbrev Heap:=Nat→Obj
def Heap.set (H:Heap)(l:Nat)(o:Obj):Heap:=fun x=>if x=l then o else H x
theorem Heap.aE (H:Heap)(l:Nat)(o:Obj):H.set l o l=o:=by simp[Heap.set]
theorem Heap.ai (H:Heap){l x:Nat}(o:Obj)(h:x≠l):H.set l o x=H x:=by simp[Heap.set,h]
theorem Heap.set_self (H:Heap)(l:Nat)(o:Obj)(h:H l=o):H.set l o=H:=by
 funext x;simp only[Heap.set];split
 ·subst_vars;rfl
 ·rfl
structure G where
 per:Nat→Bool
 own:Nat→Option (Nat×List Nat)
 io:Nat→Option (Nat×Nat×Nat)
def C.aO:C→Nat
 |.sl _ sz _=>sz
 |.af _ sz _ _=>sz
 |_=>0
inductive RepC (w:World)(g:G):C→Value→Prop
 |int (k n):RepC w g (.int k n) (.int k n)
 |bool (b):RepC w g (.bool b) (.bool b)
 |str (s:List UInt8) (h:s.length≤LIM):RepC w g (.str s) (.string ⟨s.toArray⟩)
 |bP (fl sz a):RepC w g (.sl fl sz []) (.slice a 0 0)
 |sl (fl:Bool) (sz:Nat) (rows:List (List C)) (b off cap:Nat) (val:Nat→Nat→Value) (hl:rows.length≤LIM) (hf:fl=true→cap=rows.length) (eC:rows.length≤cap)
   (hp:g.per b=true) (hr:∀(i:Nat) (row:List C),rows[i]? = some row→row.length=sz)
   (hc:∀(i:Nat) (row:List C) (j:Nat) (c:C),rows[i]? = some row→row[j]? = some c→w.cell? ⟨b,off+i * sz+j,none⟩=some (val i j))
   (hv:∀(i:Nat) (row:List C) (j:Nat) (c:C),rows[i]? = some row→row[j]? = some c→RepC w g c (val i j)) :
   RepC w g (.sl fl sz rows) (.slice (some ⟨b,off,none⟩) rows.length cap)
 |pp (cells:List C) (b off:Nat) (val:Nat→Value) (hp:g.per b=true)
   (hc:∀(j:Nat) (c:C),cells[j]? = some c→w.cell? ⟨b,off+j,none⟩=some (val j))
   (hv:∀(j:Nat) (c:C),cells[j]? = some c→RepC w g c (val j)) :
   RepC w g (.pp cells) (.pointer (some ⟨b,off,none⟩))
 |ep (s sz i k b off n cap) (hs:RepC w g s (.slice (some ⟨b,off,none⟩) n cap)) (hz:s.aO=sz) (hi:i<n) :
   RepC w g (.ep s sz i k) (.pointer (some ⟨b,off+i * sz+k,none⟩))
 |pnil:RepC w g .pnil (.pointer none)
 |ptr (l k b sz base) (h:g.io l=some (b,sz,base)):RepC w g (.ptr l k) (.pointer (some ⟨b,base+k,none⟩))
 |bS (l sz st a):RepC w g (.af l sz st 0) (.slice a 0 0)
 |af (l sz st n cap b base T m) (h:g.io l=some (b,sz,base)) (hn:n≤cap) (hs:w.shape? b=some (T,m))
   (hm:base+(st+cap) * sz≤m) :
   RepC w g (.af l sz st n) (.slice (some ⟨b,base+st * sz,none⟩) n cap)
 |mp (l b) (h:g.io l=some (b,0,0)):RepC w g (.mp l) (.map (some b))
 |mnil:RepC w g .mnil (.map none)
 |fn (f:Nat) (caps:List C) (vs:List Value) (hl:vs.length=caps.length)
   (hv:∀(j:Nat) (c:C) (u:Value),caps[j]? = some c→vs[j]? = some u→RepC w g c u) :
   RepC w g (.fn f caps) (.func (.func f) #[] vs.toArray)
 |fnil:RepC w g .fnil .nilFunc
 |itr (l b) (h:g.io l=some (b,0,0)):RepC w g (.itr l) (.pointer (some ⟨b,0,none⟩))
 |unk (v) (h:v.oneCell'=true):RepC w g .unk v
inductive RepV (w:World)(g:G):V→Value→Prop
 |c (x v) (h:RepC w g x v):RepV w g (.c x) v
 |ag (cs:List C) (vs:List Value) (hl:vs.length=cs.length) (h:∀(j:Nat) (c:C) (u:Value),cs[j]? = some c→vs[j]? = some u→RepC w g c u) :
   RepV w g (.ag cs) (.agg vs.toArray)
 |tup (xs:List V) (vs:List Value) (hl:vs.length=xs.length) (h:∀(j:Nat) (x:V) (u:Value),xs[j]? = some x→vs[j]? = some u→RepV w g x u) :
   RepV w g (.tup xs) (.tuple vs.toArray)
 |gd (p:Bool) (x v) (h:p=true→RepV w g x v) (h':p=false→v=undef):RepV w g (.gd p x) v
 |unk (v):RepV w g .unk v
 |asl (l k n b sz) (h:g.io l=some (b,sz,0)):RepV w g (.asl l k n) (.slice (some ⟨b,k,none⟩) n n)
inductive RepO (w:World)(g:G):Nat→List Nat→C→Value→Prop
 |plain (l p c v) (h:RepC w g c v):RepO w g l p c v
 |ownil (l p sz a):RepO w g l p (.ow sz []) (.slice a 0 0)
 |ow (l:Nat) (p:List Nat) (sz:Nat) (rows:List (List C)) (b off cap:Nat) (T:TypeId) (cs:Array Value) (val:Nat→Nat→Value) (hl:rows.length≤LIM) (eC:rows.length≤cap)
   (i9:g.own b=some (l,p)) (hb:w.heap[b]? = some (.cells cs T (0,0))) (bz:off+cap * sz≤cs.size)
   (hr:∀(i:Nat) (row:List C),rows[i]? = some row→row.length=sz)
   (hc:∀(i:Nat) (row:List C) (j:Nat) (c:C),rows[i]? = some row→row[j]? = some c→cs[off+i * sz+j]? = some (val i j))
   (hv:∀(i:Nat) (row:List C) (j:Nat) (c:C),rows[i]? = some row→row[j]? = some c→RepO w g l (p++[i,j]) c (val i j)) :
   RepO w g l p (.ow sz rows) (.slice (some ⟨b,off,none⟩) rows.length cap)
structure Le (g:G)(w:World)(g':G)(w':World):Prop where
 per:∀b,g.per b=true→g'.per b=true∧w'.heap[b]? = w.heap[b]?
 io:∀l x,g.io l=some x→g'.io l=some x
 size:w.heap.size≤w'.heap.size
 shp:∀b T n,w.shape? b=some (T,n)→w'.shape? b=some (T,n)
 tape:w'.tape=w.tape
 os:w'.os=w.os
 output:w'.output=w.output
theorem Le.refl (g:G)(w:World):Le g w g w:=⟨fun _ h=>⟨h,rfl⟩,fun _ _ h=>h,Jt _,fun _ _ _ h=>h,rfl,rfl,rfl⟩
theorem Le.trans {g g' g'':G}{w w' w'':World}(h:Le g w g' w')(k:Le g' w' g'' w''):Le g w g'' w'':=
 ⟨fun b hb=>⟨(k.per b (h.per b hb).1).1,((k.per b (h.per b hb).1).2).trans (h.per b hb).2⟩,fun l x hx=>k.io l x (h.io l x hx),
  Nat.le_trans h.size k.size,fun b T n hn=>k.shp b T n (h.shp b T n hn),k.tape.trans h.tape,k.os.trans h.os,k.output.trans h.output⟩
theorem TE {w w':World}{a:Addr}(h:w'.heap[a.block]? = w.heap[a.block]?):w'.cell? a=w.cell? a:=by
 simp only[World.cell?,h]
theorem RepC.mono {g g':G}{w w':World}(aU:Le g w g' w'){c:C}{v:Value}(h:RepC w g c v):RepC w' g' c v:=by
 induction h with
 |int k n=>exact .int k n
 |bool b=>exact .bool b
 |str s h=>exact .str s h
 |bP fl sz a=>exact .bP fl sz a
 |sl fl sz rows b off cap val hl hf eC hp hr hc hv ih=>
  refine .sl fl sz rows b off cap val hl hf eC (aU.per b hp).1 hr (fun i row j c h1 h2=>?_) ih;rw[TE (w:=w) (aU.per b hp).2];exact hc i row j c h1 h2
 |pp cells b off val hp hc hv ih=>
  refine .pp cells b off val (aU.per b hp).1 (fun j c h1=>?_) ih;rw[TE (w:=w) (aU.per b hp).2];exact hc j c h1
 |ep s sz i k b off n cap hs hz hi ih=>exact .ep s sz i k b off n cap ih hz hi
 |pnil=>exact .pnil
 |ptr l k b sz base h=>exact .ptr l k b sz base (aU.io _ _ h)
 |bS l sz st a=>exact .bS l sz st a
 |af l sz st n cap b base T m h hn hs hm=>exact .af l sz st n cap b base T m (aU.io _ _ h) hn (aU.shp _ _ _ hs) hm
 |mp l b h=>exact .mp l b (aU.io _ _ h)
 |mnil=>exact .mnil
 |fn f caps vs hl hv ih=>exact .fn f caps vs hl ih
 |fnil=>exact .fnil
 |itr l b h=>exact .itr l b (aU.io _ _ h)
 |unk v h=>exact .unk v h
theorem RepV.mono {g g':G}{w w':World}(aU:Le g w g' w'){x:V}{v:Value}(h:RepV w g x v):RepV w' g' x v:=by
 induction h with
 |c x v h=>exact .c x v (h.mono aU)
 |ag cs vs hl h=>exact .ag cs vs hl fun j c u h1 h2=>(h j c u h1 h2).mono aU
 |tup xs vs hl h ih=>exact .tup xs vs hl ih
 |gd p x v h h' ih=>exact .gd p x v ih h'
 |asl l k n b sz h=>exact .asl l k n b sz (aU.io _ _ h)
 |unk v=>exact .unk v
theorem RepC.one {w:World}{g:G}{c:C}{v:Value}(h:RepC w g c v):v.oneCell'=true:=by
 cases h <;> first|rfl|assumption
theorem RepO.move {g g':G}{w w':World}(aU:Le g w g' w'){l:Nat}{p:List Nat}{c:C}{v:Value}(h:RepO w g l p c v) :
  ∀{l':Nat} {p':List Nat},(∀q b,g.own b=some (l,p++q)→g'.own b=some (l',p'++q)∧w'.heap[b]? = w.heap[b]?)→
  RepO w' g' l' p' c v:=by
 induction h with
 |plain p c v h=>exact fun _=>.plain _ _ c v (h.mono aU)
 |ownil p sz a=>exact fun _=>.ownil _ _ sz a
 |ow p sz rows b off cap T cs val hl eC i9 hb bz hr hc hv ih=>
  intro l' p' hk;have h0:=hk [] b (by simpa using i9);refine .ow l' p' sz rows b off cap T cs val hl eC (by simpa using h0.1) (h0.2.trans hb) bz hr hc fun i row j c h1 h2=>?_;refine ih i row j c h1 h2 fun q b hq=>?_;have:=hk ([i,j]++q) b (by rw[←Jx];exact hq);rw[Jx];exact this
theorem RepO.plain_of {w:World}{g:G}{l:Nat}{p:List Nat}{c:C}{v:Value}(h:RepO w g l p c v)(hn:∀sz rows,c≠.ow sz rows):RepC w g c v:=by
 cases h with
 |plain _ _ _ h=>exact h
 |ownil=>exact absurd rfl (hn _ _)
 |ow=>exact absurd rfl (hn _ _)
def RepE (w:World)(g:G)(e:C×V)(m:MapEntry):Prop:=RepC w g e.1 m.key∧RepV w g e.2 m.val
def SatVec (g:G)(w:World)(l sz:Nat)(rows:List (List C)):Prop:=
 ∃(b base:Nat) (T:TypeId) (cs:Array Value) (val:Nat→Nat→Value),g.io l=some (b,sz,base)∧g.own b=some (l,[])∧
   w.heap[b]? = some (.cells cs T (0,0))∧base+rows.length * sz≤cs.size∧rows.length≤LIM∧
   (∀(i:Nat) (row:List C),rows[i]? = some row→row.length=sz)∧
   (∀(i:Nat) (row:List C) (j:Nat) (c:C),rows[i]? = some row→row[j]? = some c→cs[base+i * sz+j]? = some (val i j))∧
   ∀(i:Nat) (row:List C) (j:Nat) (c:C),rows[i]? = some row→row[j]? = some c→RepO w g l [i,j] c (val i j)
theorem SatVec.of {g:G}{w:World}{l sz:Nat}{rows:List (List C)}{b base:Nat}(h:(rows=[]∧∃x,g.io l=some x∧x.2.1≠sz)∨SatVec g w l sz rows)(bR:g.io l=some (b,sz,base)):SatVec g w l sz rows:=by
 rcases h with ⟨_,x,h1,h2⟩|h
 ·rw[bR]at h1;simp at h1;subst h1;exact absurd rfl h2
 ·exact h
def SatObj (H:Heap)(g:G)(w:World)(l:Nat):Obj→Prop
 |.none=>True
 |.st cells=>∃(b sz:Nat) (T:TypeId) (cs:Array Value),g.io l=some (b,sz,0)∧g.own b=some (l,[])∧w.heap[b]? = some (.cells cs T (0,0))∧
   cs.size=cells.length∧∀(k:Nat) (c:C) (v:Value),cells[k]? = some c→cs[k]? = some v→RepO w g l [k] c v
 |.vec sz rows=>(rows=[]∧∃x,g.io l=some x∧x.2.1≠sz)∨SatVec g w l sz rows
 |.map _ es=>∃(b:Nat) (ms:Array MapEntry) (clock:Nat),g.io l=some (b,0,0)∧g.own b=some (l,[])∧w.heap[b]? = some (.map ms clock)∧
   ms.size=es.length∧es.length≤LIM∧(∀(i:Nat) (e:C×V) (m:MapEntry),es[i]? = some e→ms[i]? = some m→RepE w g e m)∧
   (∀(i:Nat) (m:MapEntry),ms[i]? = some m→m.born<clock)∧(∀(i j:Nat) (m m':MapEntry),ms[i]? = some m→ms[j]? = some m'→(m.born=m'.born∨m.key=m'.key)→i=j)
 |.iter none left cur=>∃(b since:Nat) (seen:Array Nat) (last:Nat),g.io l=some (b,0,0)∧g.own b=some (l,[])∧
   w.heap[b]? = some (.mapIter none since seen last)∧left=[]
 |.iter (some (m,ver)) left cur=>∃(b mb since:Nat) (seen:Array Nat),g.io l=some (b,0,0)∧g.own b=some (l,[])∧
   w.heap[b]? = some (.mapIter (some mb) since seen since)∧g.io m=some (mb,0,0)∧
   ∀v es,H m=.map v es→ver≤v∧(v=ver→∃(ms:Array MapEntry),w.heap[mb]? = some (.map ms since)∧ms.size=es.length∧
    es.Nodup∧left.Nodup∧(∀e,e∈left↔∃i:Nat,∃m:MapEntry,es[i]? = some e∧ms[i]? = some m∧m.born∉seen)∧
    (∀e,cur=some e→∃i:Nat,∃m:MapEntry,es[i]? = some e∧ms[i]? = some m∧seen.back? = some m.born))
 |.gl b cells=>∃(sz:Nat) (val:Nat→Value),g.io l=some (b,sz,0)∧g.per b=true∧(∀(j:Nat) (c:C),cells[j]? = some c→w.cell? ⟨b,j,none⟩=some (val j))∧
   ∀(j:Nat) (c:C),cells[j]? = some c→RepC w g c (val j)
structure Sat (H:Heap)(g:G)(w:World):Prop where
 fresh:∀b,w.heap.size≤b→g.per b=false∧g.own b=none
 names:∃N,∀l,N≤l→g.io l=none
 excl:∀b x,g.own b=some x→g.per b=false
 named:∀b l p,g.own b=some (l,p)→g.io l≠none
 objs:∀l,SatObj H g w l (H l)
def Fr (H:Heap)(g:G)(w:World)(H':Heap)(g':G)(w':World):Prop:=
 ∀l,g.io l≠none→H l=.none→H' l=.none∧∀b p,g.own b=some (l,p)→g'.own b=some (l,p)∧w'.heap[b]? = w.heap[b]?
theorem Fr.refl (H:Heap)(g:G)(w:World):Fr H g w H g w:=fun _ _ h=>⟨h,fun _ _ h=>⟨h,rfl⟩⟩
theorem Fr.trans {H H' H'':Heap}{g g' g'':G}{w w' w'':World}(aU:Le g w g' w')(h:Fr H g w H' g' w')(k:Fr H' g' w' H'' g'' w''):Fr H g w H'' g'' w'':=by
 intro l hl hn;obtain⟨h1,h2⟩:=h l hl hn;have du:g'.io l≠none:=by
  cases hx:g.io l with
  |none=>exact absurd hx hl
  |some x=>rw[aU.io l x hx];simp
 obtain⟨k1,k2⟩:=k l du h1;refine⟨k1,fun b p hb=>?_⟩;obtain⟨a1,a2⟩:=h2 b p hb;obtain⟨b1,b2⟩:=k2 b p a1;exact⟨b1,b2.trans a2⟩
structure Stp (H:Heap)(g:G)(w:World)(H':Heap)(g':G)(w':World):Prop where
 le:Le g w g' w'
 fr:Fr H g w H' g' w'
 sat:Sat H' g' w'
theorem Stp.refl {H:Heap}{g:G}{w:World}(h:Sat H g w):Stp H g w H g w:=⟨.refl _ _,.refl _ _ _,h⟩
theorem Stp.trans {H H' H'':Heap}{g g' g'':G}{w w' w'':World}(h:Stp H g w H' g' w')(k:Stp H' g' w' H'' g'' w''):Stp H g w H'' g'' w'':=
 ⟨h.le.trans k.le,h.fr.trans h.le k.fr,k.sat⟩
theorem Sat.io_some {H:Heap}{g:G}{w:World}(h:Sat H g w){l:Nat}(hl:H l≠.none):g.io l≠none:=by
 have:=h.objs l
 cases ho:H l with
 |none=>exact absurd ho hl
 |st cells=>rw[ho]at this;obtain⟨b,sz,T,cs,h1,_⟩:=this;rw[h1];simp
 |vec sz rows=>
  rw[ho]at this;rcases this with ⟨_,x,h1,_⟩|⟨b,sz,T,cs,v,h1,_⟩
  ·rw[h1];simp
  ·rw[h1];simp
 |map v es=>rw[ho]at this;obtain⟨b,ms,clock,h1,_⟩:=this;rw[h1];simp
 |gl b cells=>rw[ho]at this;obtain⟨sz,val,h1,_⟩:=this;rw[h1];simp
 |iter m left cur=>
  rw[ho]at this
  cases m with
  |none=>obtain⟨b,s,se,la,h1,_⟩:=this;rw[h1];simp
  |some m=>obtain⟨m,v⟩:=m;obtain⟨b,mb,s,se,h1,_⟩:=this;rw[h1];simp
theorem Sat.none_of_io {H:Heap}{g:G}{w:World}(h:Sat H g w){l:Nat}(hl:g.io l=none):H l=.none:=by
 cases ho:H l with
 |none=>rfl
 |_=>exact absurd hl (h.io_some (by rw[ho];simp))
abbrev Env:=List (Nat×V)
def lk (t:Nat):Env→V
 |[]=>.unk
 |(s,v)::e=>if t=s then v else lk t e
inductive Opd where
 |t (n:Nat)
 |k (v:V)
 deriving Inhabited
def V.bare:V→V
 |.gd _ v=>v
 |v=>v
def V.fine (p:Bool):V→Prop
 |.gd q _=>p=true→q=true
 |_=>True
def Opd.raw (e:Env):Opd→V
 |.t n=>lk n e
 |.k v=>v
def Opd.v (e:Env)(o:Opd):V:=(o.raw e).bare
def Opd.fine (p:Bool)(e:Env)(o:Opd):Prop:=(o.raw e).fine p
def C.ah:C→Bool
 |.ow _ _=>true
 |_=>false
def rowsOf (H:Heap):C→List (List C)
 |.sl _ _ rows=>rows
 |.af l _ st n=>match H l with
  |.vec _ rows=>(rows.drop st).take n
  |_=>[]
 |_=>[]
def bh (H:Heap):C→Prop
 |.sl _ _ _=>True
 |.af l sz st n=>match H l with
  |.vec z rows=>z=sz∧st+n≤rows.length
  |_=>False
 |_=>False
def ay:C→Nat
 |.sl _ _ rows=>rows.length
 |.af _ _ _ n=>n
 |_=>0
def inR (k:IntKind)(n:Int):Prop:=k.min≤n∧n≤k.max
def Cp (op:BinOp)(k:IntKind)(a b:Int):Int:=
 match op with
 |.and=>k.wrap (BitVec.ofInt k.bits a&&& BitVec.ofInt k.bits b).toNat
 |.or=>k.wrap (BitVec.ofInt k.bits a ||| BitVec.ofInt k.bits b).toNat
 |_=>k.wrap (BitVec.ofInt k.bits a ^^^ BitVec.ofInt k.bits b).toNat
def C.isPtr:C→Bool
 |.pp _|.ep _ _ _ _|.ptr _ _=>true
 |_=>false
def binC:BinOp→C→C→C
 |.add,.int k a,.int _ b=>.int k (a+b)
 |.sub,.int k a,.int _ b=>.int k (a-b)
 |.mul,.int k a,.int _ b=>.int k (a * b)
 |.quo,.int k a,.int _ b=>.int k (a.tdiv b)
 |.rem,.int k a,.int _ b=>.int k (a.tmod b)
 |.and,.int k a,.int _ b=>.int k (Cp .and k a b)
 |.or,.int k a,.int _ b=>.int k (Cp .or k a b)
 |.xor,.int k a,.int _ b=>.int k (Cp .xor k a b)
 |.eql,.int _ a,.int _ b=>.bool (decide (a=b))
 |.neq,.int _ a,.int _ b=>.bool (!decide (a=b))
 |.lss,.int _ a,.int _ b=>.bool (decide (a<b))
 |.leq,.int _ a,.int _ b=>.bool (decide (a≤b))
 |.gtr,.int _ a,.int _ b=>.bool (decide (b<a))
 |.geq,.int _ a,.int _ b=>.bool (decide (b≤a))
 |.eql,.bool a,.bool b=>.bool (a == b)
 |.neq,.bool a,.bool b=>.bool (!(a == b))
 |.add,.str a,.str b=>.str (a++b)
 |.eql,.str a,.str b=>.bool (decide (a=b))
 |.neq,.str a,.str b=>.bool (!decide (a=b))
 |.eql,x,.pnil=>.bool (!x.isPtr)
 |.neq,x,.pnil=>.bool x.isPtr
 |_,_,_=>.unk
def binO (tag:Nat):BinOp→C→C→Prop
 |.add,.int k a,.int k' b=>k=k'∧inR k (a+b)
 |.sub,.int k a,.int k' b=>k=k'∧inR k (a-b)
 |.mul,.int k a,.int k' b=>k=k'∧inR k (a * b)
 |.quo,.int k a,.int k' b=>k=k'∧b≠0∧inR k (a.tdiv b)
 |.rem,.int k a,.int k' b=>k=k'∧b≠0
 |.and,.int k _,.int k' _=>k=k'
 |.or,.int k _,.int k' _=>k=k'
 |.xor,.int k _,.int k' _=>k=k'
 |.eql,.int k _,.int k' _=>k=k'
 |.neq,.int k _,.int k' _=>k=k'
 |.lss,.int k _,.int k' _=>k=k'
 |.leq,.int k _,.int k' _=>k=k'
 |.gtr,.int k _,.int k' _=>k=k'
 |.geq,.int k _,.int k' _=>k=k'
 |.eql,.bool _,.bool _=>tag=1
 |.neq,.bool _,.bool _=>tag=1
 |.add,.str a,.str b=>a.length+b.length≤LIM
 |.eql,.str _,.str _=>True
 |.neq,.str _,.str _=>True
 |.eql,x,.pnil=>tag=2∧(x.isPtr=true∨x=.pnil)
 |.neq,x,.pnil=>tag=2∧(x.isPtr=true∨x=.pnil)
 |_,_,_=>False
def BY (H:Heap):C→List C
 |.pp cells=>cells
 |.ptr l k=>match H l with
  |.st cells=>cells.drop k
  |_=>[]
 |.ep s _ i k=>((rowsOf H s).getD i []).drop k
 |_=>[]
def Co (H:Heap):C→Prop
 |.pp _=>True
 |.ptr l _=>match H l with
  |.st _=>True
  |_=>False
 |.ep s sz i _=>bh H s∧i<ay s∧s.aO=sz
 |_=>False
def ak (cs:List C):Bool:=cs.all fun c=>!c.ah
def Dw (c:Bool):V→V→V
 |.c (.bool a),.c (.bool b)=>.c (.bool (bif c then a else b))
 |x,y=>if c then x else y
def V.cells:V→List C
 |.c x=>[x]
 |.ag cs=>cs
 |_=>[]
def AR:C→C→Bool
 |.int _ a,.int _ b=>decide (a=b)
 |.str a,.str b=>decide (a=b)
 |.bool a,.bool b=>a == b
 |_,_=>false
def B3 (tag:Nat)(k:C)(es:List (C×V)):Prop:=
 match tag,k with
 |0,.int .i64 _=>∀e∈es,∃n,e.1=.int .i64 n
 |1,.str _=>∀e∈es,∃s,e.1=.str s
 |2,.bool _=>∀e∈es,∃b,e.1=.bool b
 |_,_=>False
def BH (k:C):List (C×V)→Option V
 |[]=>none
 |e::es=>if AR k e.1 then some e.2 else BH k es
def Bx (H:Heap):C→List (C×V)
 |.mp l=>match H l with
  |.map _ es=>es
  |_=>[]
 |_=>[]
def Bl (H:Heap):C→Prop
 |.mp l=>match H l with
  |.map _ _=>True
  |_=>False
 |.mnil=>True
 |_=>False
def Rq (cells:List C):List (Nat×List C)→List C
 |[]=>cells
 |(o,p)::r=>Rq (cells.take o++p++cells.drop (o+p.length)) r
inductive FOp where
 |mv (x:Opd)
 |pick (c a b:Opd)
 |bin (tag:Nat) (op:BinOp) (a b:Opd)
 |not (a:Opd)
 |fad (off:Nat) (a:Opd)
 |iad (sz:Nat) (a i:Opd)
 |ld (n:Nat) (agg:Bool) (a:Opd)
 |nck (a:Opd)
 |len (a:Opd)
 |lens (a:Opd)
 |lenm (a:Opd)
 |sli (sz:Nat) (a:Opd) (lo hi:Option Opd)
 |slis (a:Opd) (lo hi:Option Opd)
 |ext (a:Opd) (i:Nat)
 |fld (off n:Nat) (agg:Bool) (a:Opd)
 |idx (a i:Opd)
 |bld (zero:List C) (parts:List (Nat×Nat×Opd))
 |aG (sz:Nat) (parts:List Opd)
 |box (a:Opd)
 |cvt (k:IntKind) (a:Opd)
 |mkf (f:Nat) (caps:List Opd)
 |lup (tag:Nat) (zero:V) (m k:Opd)
 |lup2 (tag:Nat) (zero:V) (m k:Opd)
 |iaa (sz n:Nat) (a i:Opd)
 |asl (n:Nat) (a:Opd)
 |aslp (n:Nat) (a:Opd) (hi:Option Opd)
 |slm (sz:Nat) (a hi:Opd)
 |ldg (n b l:Nat)
 |iax (sz n:Nat) (a i:Opd)
 |mx (a b:Opd)
 |mn (a b:Opd)
def Cq (agg:Bool)(cs:List C):V:=if agg then .ag cs else .c (cs.headD .unk)
def Ag:V→Int
 |.c (.int _ n)=>n
 |_=>0
def BG:V→Prop
 |.c (.int k _)=>k=.i64
 |_=>False
def fadC (off:Nat):C→C
 |.pp cells=>.pp (cells.drop off)
 |.ptr l k=>.ptr l (k+off)
 |.ep s sz i k=>.ep s sz i (k+off)
 |_=>.unk
def V.c1:V→C
 |.c x=>x
 |_=>.unk
def V.isC:V→Prop
 |.c _=>True
 |_=>False
def V.isAg:V→Prop
 |.ag _=>True
 |_=>False
def sliC (lo hi:Option Int):C→C
 |.sl fl sz rows=>.sl (fl&&(hi.isNone || rows.isEmpty)) sz ((rows.take (hi.getD rows.length).toNat).drop (lo.getD 0).toNat)
 |.af l sz st n=>.af l sz (st+(lo.getD 0).toNat) ((hi.getD n).toNat-(lo.getD 0).toNat)
 |_=>.unk
def FOp.val (e:Env)(H:Heap):FOp→V
 |.mv x=>x.v e
 |.pick c a b=>match c.v e with
  |.c (.bool t)=>Dw t (a.v e) (b.v e)
  |_=>.unk
 |.bin _ op a b=>.c (binC op (a.v e).c1 (b.v e).c1)
 |.not a=>match a.v e with
  |.c (.bool t)=>.c (.bool (!t))
  |_=>.unk
 |.fad off a=>.c (fadC off (a.v e).c1)
 |.iad sz a i=>.c (.ep (a.v e).c1 sz (Ag (i.v e)).toNat 0)
 |.ld n agg a=>Cq agg ((BY H (a.v e).c1).take n)
 |.nck a=>a.v e
 |.len a=>.c (.int .i64 (ay (a.v e).c1))
 |.lens a=>match a.v e with
  |.c (.str s)=>.c (.int .i64 s.length)
  |_=>.unk
 |.lenm a=>.c (.int .i64 (Bx H (a.v e).c1).length)
 |.sli _ a lo hi=>.c (sliC (lo.map fun x=>Ag (x.v e)) (hi.map fun x=>Ag (x.v e)) (a.v e).c1)
 |.slis a lo hi=>match a.v e with
  |.c (.str s)=>.c (.str ((s.take ((hi.map fun x=>Ag (x.v e)).getD s.length).toNat).drop ((lo.map fun x=>Ag (x.v e)).getD 0).toNat))
  |_=>.unk
 |.ext a i=>match a.v e with
  |.tup vs=>vs.getD i .unk
  |_=>.unk
 |.fld off n agg a=>Cq agg (((a.v e).cells.drop off).take n)
 |.idx a i=>match a.v e with
  |.c (.str s)=>.c (.int .u8 ((s.getD (Ag (i.v e)).toNat 0).toNat))
  |_=>.unk
 |.bld zero parts=>.ag (Rq zero (parts.map fun p=>(p.1,(p.2.2.v e).cells)))
 |.aG sz parts=>.c (.sl true sz (parts.map fun x=>(x.v e).cells))
 |.box a=>.c (.pp (a.v e).cells)
 |.cvt k a=>.c (.int k (Ag (a.v e)))
 |.mkf f caps=>.c (.fn f (caps.map fun x=>(x.v e).c1))
 |.lup _ zero m k=>(BH (k.v e).c1 (Bx H (m.v e).c1)).getD zero
 |.lup2 _ zero m k=>.tup [(BH (k.v e).c1 (Bx H (m.v e).c1)).getD zero,.c (.bool (BH (k.v e).c1 (Bx H (m.v e).c1)).isSome)]
 |.iaa sz _ a i=>match a.v e with
  |.c (.ptr l k)=>.c (.ptr l (k+(Ag (i.v e)).toNat * sz))
  |_=>.unk
 |.asl n a=>match a.v e with
  |.c (.ptr l k)=>.asl l k n
  |_=>.unk
 |.aslp n a hi=>match a.v e with
  |.c (.pp cells)=>.c (.sl hi.isNone 1 ((cells.take ((hi.map fun x=>Ag (x.v e)).getD n).toNat).map fun c=>[c]))
  |_=>.unk
 |.slm _ a hi=>match a.v e with
  |.c (.sl _ sz rows)=>.c (.sl true sz (rows.take (Ag (hi.v e)).toNat))
  |_=>.unk
 |.ldg n _ l=>match H l with
  |.gl _ cells=>.ag (cells.take n)
  |_=>.unk
 |.iax sz _ a i=>.ag (((a.v e).cells.drop ((Ag (i.v e)).toNat * sz)).take sz)
 |.mx a b=>.c (.int .i64 (if Ag (b.v e) > Ag (a.v e)then Ag (b.v e)else Ag (a.v e)))
 |.mn a b=>.c (.int .i64 (if Ag (b.v e)<Ag (a.v e)then Ag (b.v e)else Ag (a.v e)))
def Dz:V→Prop
 |.c (.int _ _)=>True
 |_=>False
def optI (x:Option Opd)(e:Env):Prop:=
 match x with
 |none=>True
 |some o=>BG (o.v e)
def optF (p:Bool)(x:Option Opd)(e:Env):Prop:=
 match x with
 |none=>True
 |some o=>o.fine p e
def bnds (lo hi:Option Int)(n:Nat):Prop:=
 0≤lo.getD 0∧lo.getD 0≤hi.getD n∧hi.getD n≤n
def FOp.obl (p:Bool)(e:Env)(H:Heap):FOp→Prop
 |.mv x=>x.fine p e
 |.pick c a b=>c.fine p e∧match c.v e with
  |.c (.bool t)=>a.fine (p&&t) e∧b.fine (p&&!t) e
  |_=>False
 |.bin tag op a b=>a.fine p e∧b.fine p e∧(a.v e).isC∧(b.v e).isC∧binO tag op (a.v e).c1 (b.v e).c1
 |.not a=>a.fine p e∧match a.v e with
  |.c (.bool _)=>True
  |_=>False
 |.fad _ a=>a.fine p e∧match a.v e with
  |.c (.pp _)=>True
  |.c (.ptr _ _)=>True
  |.c (.ep _ _ _ _)=>True
  |_=>False
 |.iad sz a i=>a.fine p e∧i.fine p e∧(a.v e).isC∧bh H (a.v e).c1∧(a.v e).c1.aO=sz∧BG (i.v e)∧
   0≤Ag (i.v e)∧(Ag (i.v e)).toNat<ay (a.v e).c1
 |.ld n _ a=>a.fine p e∧(a.v e).isC∧Co H (a.v e).c1∧n≤(BY H (a.v e).c1).length∧ak ((BY H (a.v e).c1).take n)=true
 |.nck a=>a.fine p e∧match a.v e with
  |.c (.pp _)=>True
  |.c (.ptr _ _)=>True
  |.c (.ep _ _ _ _)=>True
  |.c (.fn _ _)=>True
  |_=>False
 |.len a=>a.fine p e∧(a.v e).isC∧bh H (a.v e).c1
 |.lens a=>a.fine p e∧match a.v e with
  |.c (.str _)=>True
  |_=>False
 |.lenm a=>a.fine p e∧(a.v e).isC∧Bl H (a.v e).c1
 |.sli sz a lo hi=>a.fine p e∧optF p lo e∧optF p hi e∧optI lo e∧optI hi e∧(a.v e).isC∧bh H (a.v e).c1∧(a.v e).c1.aO=sz∧
   bnds (lo.map fun x=>Ag (x.v e)) (hi.map fun x=>Ag (x.v e)) (ay (a.v e).c1)
 |.slis a lo hi=>a.fine p e∧optF p lo e∧optF p hi e∧optI lo e∧optI hi e∧match a.v e with
  |.c (.str s)=>bnds (lo.map fun x=>Ag (x.v e)) (hi.map fun x=>Ag (x.v e)) s.length
  |_=>False
 |.ext a i=>a.fine p e∧match a.v e with
  |.tup vs=>i<vs.length
  |_=>False
 |.fld off n agg a=>a.fine p e∧(a.v e).isAg∧off+n≤(a.v e).cells.length
 |.idx a i=>a.fine p e∧i.fine p e∧BG (i.v e)∧match a.v e with
  |.c (.str s)=>0≤Ag (i.v e)∧(Ag (i.v e)).toNat<s.length
  |_=>False
 |.bld zero parts=>∀x∈parts,x.2.2.fine p e∧(x.2.2.v e).cells.length=x.2.1
 |.aG sz parts=>∀x∈parts,x.fine p e∧(x.v e).cells.length=sz
 |.box a=>a.fine p e∧(a.v e).cells≠[]
 |.cvt k a=>a.fine p e∧Dz (a.v e)∧inR k (Ag (a.v e))
 |.mkf f caps=>∀x∈caps,x.fine p e∧(x.v e).isC
 |.lup tag zero m k=>m.fine p e∧k.fine p e∧(m.v e).isC∧(k.v e).isC∧Bl H (m.v e).c1∧B3 tag (k.v e).c1 (Bx H (m.v e).c1)
 |.lup2 tag zero m k=>m.fine p e∧k.fine p e∧(m.v e).isC∧(k.v e).isC∧Bl H (m.v e).c1∧B3 tag (k.v e).c1 (Bx H (m.v e).c1)
 |.iaa _ n a i=>a.fine p e∧i.fine p e∧BG (i.v e)∧0≤Ag (i.v e)∧Ag (i.v e)<n∧match a.v e with
  |.c (.ptr _ _)=>True
  |_=>False
 |.asl _ a=>a.fine p e∧match a.v e with
  |.c (.ptr l _)=>(match H l with
   |.st _=>True
   |_=>False)
  |_=>False
 |.aslp n a hi=>a.fine p e∧optF p hi e∧optI hi e∧bnds none (hi.map fun x=>Ag (x.v e)) n∧n≤LIM∧match a.v e with
  |.c (.pp cells)=>n≤cells.length
  |_=>False
 |.slm sz a hi=>a.fine p e∧hi.fine p e∧BG (hi.v e)∧0≤Ag (hi.v e)∧match a.v e with
  |.c (.sl _ z rows)=>z=sz∧Ag (hi.v e)≤rows.length
  |_=>False
 |.ldg n b l=>match H l with
  |.gl b' cells=>b'=b∧n≤cells.length
  |_=>False
 |.iax sz n a i=>a.fine p e∧i.fine p e∧BG (i.v e)∧0≤Ag (i.v e)∧Ag (i.v e)<n∧(a.v e).isAg∧n * sz≤(a.v e).cells.length
 |.mx a b=>a.fine p e∧b.fine p e∧BG (a.v e)∧BG (b.v e)
 |.mn a b=>a.fine p e∧b.fine p e∧BG (a.v e)∧BG (b.v e)
def FOp.fct (e:Env)(H:Heap):FOp→Prop
 |.len a=>ay (a.v e).c1≤LIM
 |.lens a=>match a.v e with
  |.c (.str s)=>s.length≤LIM
  |_=>True
 |.lenm a=>(Bx H (a.v e).c1).length≤LIM
 |_=>True
def fnOk (P:Program)(f:FuncId):Bool:=
 match P.funcs[f]? with
 | some fn => fn.body.isSome && fn.name != "runtime.NumGoroutine"
 |none=>false
def Qs (P:Program)(f:FuncId)(args:List V)(H:Heap)(K:V→Heap→Prop):Prop:=
 fnOk P f=true∧∀(g:G) (w:World) (vs:List Value),Sat H g w→vs.length=args.length→
  (∀(j:Nat) (x:V) (u:Value),args[j]? = some x→vs[j]? = some u→RepV w g x u)→
  Calls P f vs.toArray w fun e w'=>(∃v x H' g',e=.returned v∧K x H'∧Stp H g w H' g' w'∧RepV w' g' x v)∨
   (∃v H' g',e=.panicked [{ v:=v,recovered:=false }]∧K (.pn v) H'∧Stp H g w H' g' w')
def D0 (P:Program)(f:FuncId)(args:List V)(r:V):Prop:=(∀v,r≠.pn v)∧∀H K,K r H→Qs P f args H K
inductive EOp where
 |alloc (cells:List C)
 |boxm (a:Opd)
 |sto (n:Nat) (a v:Opd)
 |app (sz:Nat) (a b:Opd)
 |mks (sz:Nat) (zero:List C) (n:Opd)
 |mkm
 |upd (tag:Nat) (m k v:Opd)
 |del (tag:Nat) (m k:Opd)
 |clrm (m:Opd)
 |clrs (sz:Nat) (zero:List C) (m:Opd)
 |call (f:Nat) (args:List Opd)
 |ba (f:Opd) (args:List Opd)
 |rng (m:Opd)
 |nxt (it:Opd)
 |ent (it:Opd)
 |nilq (a:Opd)
 |bslm (sz:Nat) (parts:List Opd)
 |cpy (sz:Nat) (a b:Opd)
def Dl (row:List C)(k:Nat)(vs:List C):List C:=row.take k++vs++row.drop (k+vs.length)
def BQ (H:Heap)(p:C)(vs:List C)(K:V→Heap→Prop):Prop:=
 match p with
 |.ptr l k=>match H l with
  |.st cells=>k+vs.length≤cells.length∧K .unk (H.set l (.st (Dl cells k vs)))
  |_=>False
 |.ep (.af l sz st n) z i k=>match H l with
  |.vec y rows=>y=sz∧z=sz∧i<n∧st+n≤rows.length∧k+vs.length≤sz∧
    K .unk (H.set l (.vec sz (rows.set (st+i) (Dl (rows.getD (st+i) []) k vs))))
  |_=>False
 |_=>False
def appT (H:Heap)(sz:Nat)(a b:C)(K:V→Heap→Prop):Prop:=
 bh H b∧b.aO=sz∧match a with
 |.sl true z rows=>z=sz∧(rows=[]∨rowsOf H b≠[])∧(∀r∈rows++rowsOf H b,ak r=true)∧rows.length+ay b≤LIM∧
   ∀l,H l=.none→K (.c (.af l sz 0 (rows.length+ay b))) (H.set l (.vec sz (rows++rowsOf H b)))
 |.af l z st n=>match H l with
  |.vec y rows=>z=sz∧y=sz∧st+n≤rows.length∧(∀r∈rowsOf H b,ak r=true)∧n+ay b≤LIM∧
    ∀l',(H.set l .none) l'=.none→
     K (.c (.af l' sz 0 (n+ay b))) ((H.set l .none).set l' (.vec sz ((rows.drop st).take n++rowsOf H b)))
  |_=>False
 |_=>False
def updE (k:C)(v:V):List (C×V)→List (C×V)
 |[]=>[(k,v)]
 |e::es=>if AR k e.1 then (k,v)::es else e::updE k v es
def delE (k:C):List (C×V)→List (C×V)
 |[]=>[]
 |e::es=>if AR k e.1 then es else e::delE k es
def updT (H:Heap)(tag:Nat)(m k:C)(v:V)(K:V→Heap→Prop):Prop:=
 match m with
 |.mp l=>match H l with
  |.map n es=>B3 tag k es∧es.length+1≤LIM∧K .unk (H.set l (.map (n+1) (updE k v es)))
  |_=>False
 |_=>False
def delT (H:Heap)(tag:Nat)(m k:C)(K:V→Heap→Prop):Prop:=
 match m with
 |.mp l=>match H l with
  |.map n es=>B3 tag k es∧K .unk (H.set l (.map (n+1) (delE k es)))
  |_=>False
 |.mnil=>B3 tag k []∧K .unk H
 |_=>False
def cpyT (H:Heap)(sz:Nat)(a b:C)(K:V→Heap→Prop):Prop:=
 bh H b∧b.aO=sz∧match a with
 |.af l z st n=>match H l with
  |.vec y rows=>z=sz∧y=sz∧st+n≤rows.length∧ay b≤n∧(∀r∈rowsOf H b,ak r=true)∧
    K (.c (.int .i64 (ay b))) (H.set l (.vec sz (rows.take st++rowsOf H b++rows.drop (st+ay b))))
  |_=>False
 |_=>False
def EOp.eff (P:Program)(p:Bool)(e:Env)(H:Heap)(K:V→Heap→Prop):EOp→Prop
 |.alloc cells=>∀l,H l=.none→K (.c (.ptr l 0)) (H.set l (.st cells))
 |.boxm a=>a.fine p e∧(a.v e).cells≠[]∧∀l,H l=.none→K (.c (.ptr l 0)) (H.set l (.st (a.v e).cells))
 |.sto n a v=>a.fine p e∧v.fine p e∧(a.v e).isC∧(v.v e).cells.length=n∧0<n∧BQ H (a.v e).c1 (v.v e).cells K
 |.app sz a b=>a.fine p e∧b.fine p e∧(a.v e).isC∧(b.v e).isC∧appT H sz (a.v e).c1 (b.v e).c1 K
 |.mks sz zero n=>n.fine p e∧BG (n.v e)∧0≤Ag (n.v e)∧Ag (n.v e)≤LIM∧
   ∀l,H l=.none→K (.c (.af l sz 0 (Ag (n.v e)).toNat)) (H.set l (.vec sz (List.replicate (Ag (n.v e)).toNat zero)))
 |.mkm=>∀l,H l=.none→K (.c (.mp l)) (H.set l (.map 0 []))
 |.upd tag m k v=>m.fine p e∧k.fine p e∧v.fine p e∧(m.v e).isC∧(k.v e).isC∧(v.v e).cells≠[]∧updT H tag (m.v e).c1 (k.v e).c1 (v.v e) K
 |.del tag m k=>m.fine p e∧k.fine p e∧(m.v e).isC∧(k.v e).isC∧delT H tag (m.v e).c1 (k.v e).c1 K
 |.clrm m=>m.fine p e∧match m.v e with
  |.c (.mp l)=>match H l with
   |.map n _=>K .unk (H.set l (.map (n+1) []))
   |_=>False
  |_=>False
 |.clrs sz zero m=>m.fine p e∧match m.v e with
  |.c (.af l z st n)=>z=sz∧match H l with
   |.vec y rows=>y=sz∧st+n≤rows.length∧K .unk (H.set l (.vec sz (rows.take st++List.replicate n zero++rows.drop (st+n))))
   |_=>False
  |_=>False
 |.call f args=>(∀x∈args,x.fine p e)∧Qs P f (args.map fun x=>x.v e) H K
 |.ba f args=>f.fine p e∧(∀x∈args,x.fine p e)∧match f.v e with
  |.c (.fn n caps)=>Qs P n ((args.map fun x=>x.v e)++caps.map .c) H K
  |_=>False
 |.rng m=>m.fine p e∧match m.v e with
  |.c (.mp l)=>match H l with
   |.map n es=>es.Nodup∧∀i,H i=.none→K (.c (.itr i)) (H.set i (.iter (some (l,n)) es none))
   |_=>False
  |.c .mnil=>∀i,H i=.none→K (.c (.itr i)) (H.set i (.iter none [] none))
  |_=>False
 |.nxt it=>it.fine p e∧match it.v e with
  |.c (.itr i)=>match H i with
   |.iter none left _=>K (.tup [.c (.bool false)]) H
   |.iter (some (l,n)) left cur=>(∃es,H l=.map n es)∧(left=[]→K (.tup [.c (.bool false)]) H)∧
     ∀x left',x∈left→(∀y,y∈left'↔y∈left∧y≠x)→left'.Nodup→left'.length+1=left.length→
      K (.tup [.c (.bool true),.c x.1,x.2]) (H.set i (.iter (some (l,n)) left' (some x)))
   |_=>False
  |_=>False
 |.ent it=>it.fine p e∧match it.v e with
  |.c (.itr i)=>match H i with
   |.iter (some (l,n)) left (some x)=>(∃es,H l=.map n es)∧K (.tup [.c x.1,x.2]) H
   |_=>False
  |_=>False
 |.nilq a=>a.fine p e∧match a.v e with
  |.c (.sl _ _ rows)=>∀b:Bool,(b=true→rows=[])→K (.c (.bool b)) H
  |_=>False
 |.cpy sz a b=>a.fine p e∧b.fine p e∧(a.v e).isC∧(b.v e).isC∧cpyT H sz (a.v e).c1 (b.v e).c1 K
 |.bslm sz parts=>(∀x∈parts,x.fine p e∧(x.v e).cells.length=sz)∧∀l,H l=.none→K (.c (.af l sz 0 parts.length)) (H.set l (.vec sz (parts.map fun x=>(x.v e).cells)))
inductive Item where
 |f (dst:Option Nat) (g:Option (Nat×Bool)) (op:FOp)
 |p (dst:Option Nat) (g:Option (Nat×Bool)) (f:Nat) (args:List Opd)
 |e (dst:Option Nat) (g:Option (Nat×Bool)) (op:EOp)
 |chk (dst:Nat) (g:Option (Nat×Bool)) (op:FOp)
def putE (d:Option Nat)(v:V)(e:Env):Env:=
 match d with
 |some t=>(t,v)::e
 |none=>e
def gdB (e:Env):Option (Nat×Bool)→Bool
 |none=>true
 |some (t,w)=>match lk t e with
  |.c (.bool b)=>b == w
  |.gd q (.c (.bool b))=>q&&(b == w)
  |_=>false
def gdO (e:Env):Option (Nat×Bool)→Prop
 |none=>True
 |some (t,_)=>match lk t e with
  |.c (.bool _)=>True
  |.gd _ (.c (.bool _))=>True
  |.gd q _=>q=false
  |_=>False
def gdV (g:Option (Nat×Bool))(p:Bool)(v:V):V:=
 match g with
 |none=>v
 |some _=>.gd p v
def BE (KP:Value→Heap→Prop)(K:V→Heap→Prop):V→Heap→Prop
 |.pn v,H=>KP v H
 |v,H=>K v H
def regT (P:Program):List Item→Env→Heap→(Value→Heap→Prop)→(Env→Heap→Prop)→Prop
 |[],e,H,KP,K=>K e H
 |.f d g op::r,e,H,KP,K=>gdO e g∧(gdB e g=true→op.obl (gdB e g) e H)∧
   ((gdB e g=true→op.fct e H)→regT P r (putE d (gdV g (gdB e g) (op.val e H)) e) H KP K)
 |.p d g f args::r,e,H,KP,K=>gdO e g∧∃v,(gdB e g=true→(∀x∈args,x.fine (gdB e g) e)∧D0 P f (args.map fun x=>x.v e) v)∧
   regT P r (putE d (gdV g (gdB e g) v) e) H KP K
 |.e d g op::r,e,H,KP,K=>gdO e g∧
   (gdB e g=true→op.eff P (gdB e g) e H (BE KP fun v H'=>regT P r (putE d v e) H' KP K))∧
   (gdB e g=false→regT P r (putE d .unk e) H KP K)
 |.chk _ _ _::_,_,_,_,_=>False
def Bu (P:Program):List Item→Env→Heap→(Value→Heap→Prop)→(Env→Heap→Prop)→Prop
 |[],e,H,KP,K=>K e H
 |.f d g op::r,e,H,KP,K=>gdO e g∧(gdB e g=true→op.obl (gdB e g) e H)∧Bu P r (putE d (gdV g (gdB e g) (op.val e H)) e) H KP K
 |.p d g f args::r,e,H,KP,K=>gdO e g∧∃v,(gdB e g=true→(∀x∈args,x.fine (gdB e g) e)∧D0 P f (args.map fun x=>x.v e) v)∧
   Bu P r (putE d (gdV g (gdB e g) v) e) H KP K
 |.e d g op::r,e,H,KP,K=>gdO e g∧
   (gdB e g=true→op.eff P (gdB e g) e H (BE KP fun v H'=>Bu P r (putE d v e) H' KP K))∧
   (gdB e g=false→Bu P r (putE d .unk e) H KP K)
 |.chk d g op::r,e,H,KP,K=>(gdO e g∧(gdB e g=true→op.obl (gdB e g) e H)∧lk d e=gdV g (gdB e g) (op.val e H))∧Bu P r e H KP K
def trim (ks:List Nat)(e:Env):Env:=ks.map fun t=>(t,lk t e)
def D1 (e:Env)(H:Heap)(e':Env)(H':Heap):Prop:=
 ∀(g:G) (w:World) (tmps:Nat→Value),Sat H g w→(∀t,RepV w g (lk t e) (tmps t))→
  ∃g',Stp H g w H' g' w∧∀t,RepV w g' (lk t e') (tmps t)
inductive SC where
 |skip
 |reg (its:List Item) (keep:List Nat)
 |aA (fa:Nat) (ord:List Nat) (its:List Item) (keep:List Nat)
 |seq (a b:SC)
 |cond (t:Opd) (a b:SC)
 |block (id:Nat) (a:SC)
 |loop (a:SC)
 |exit (id:Nat)
 |ret
 |gh
 |scope (a:SC)
inductive X where
 |nrm
 |exit (id:Nat)
 |ret
 |pan (v:Value)
def X.panK (Q:X→Env→Heap→Prop)(v:Value)(H:Heap):Prop:=Q (.pan v) [] H
def X.next (K:Env→Heap→Prop)(Q:X→Env→Heap→Prop):X→Env→Heap→Prop
 |.nrm,e,H=>K e H
 |x,e,H=>Q x e H
def X.inBlock (id:Nat)(Q:X→Env→Heap→Prop):X→Env→Heap→Prop
 |.exit i,e,H=>if i=id then Q .nrm e H else Q (.exit i) e H
 |x,e,H=>Q x e H
def Ac (P:Program):SC→(X→Env→Heap→Prop)→Env→Heap→Prop
 |.skip,Q,e,H=>Q .nrm e H
 |.reg its keep,Q,e,H=>regT P its e H (X.panK Q) fun e' H'=>Q .nrm (trim keep e') H'
 |.aA _ _ its keep,Q,e,H=>Bu P its e H (X.panK Q) fun e' H'=>Q .nrm (trim keep e') H'
 |.seq a b,Q,e,H=>Ac P a (X.next (Ac P b Q) Q) e H
 |.cond t a b,Q,e,H=>∃c,t.raw e=.c (.bool c)∧(c=true→Ac P a Q e H)∧(c=false→Ac P b Q e H)
 |.block id a,Q,e,H=>Ac P a (X.inBlock id Q) e H
 |.loop a,Q,e,H=>∃(I:Nat→Env→Heap→Prop),(∃n,I n e H)∧
   ∀n e1 H1,I n e1 H1→Ac P a (X.next (fun e2 H2=>∃m,m<n∧I m e2 H2) Q) e1 H1
 |.exit id,Q,e,H=>Q (.exit id) e H
 |.ret,Q,e,H=>Q .ret e H
 |.gh,Q,e,H=>∃e' H',D1 e H e' H'∧Q .nrm e' H'
 |.scope a,Q,e,H=>Ac P a Q e H
inductive RS where
 |tmp (t:Nat)
 |cell (t n:Nat) (agg:Bool)
def RS.op:RS→FOp
 |.tmp t=>.mv (.t t)
 |.cell t n agg=>.ld n agg (.t t)
def Aa (rs:List RS)(e:Env)(H:Heap)(K:V→Heap→Prop):Prop:=
 (∀r∈rs,r.op.obl true e H)∧K (match rs with
  |[r]=>r.op.val e H
  |_=>.tup (rs.map fun r=>r.op.val e H)) H
def zipE (i:Nat):List V→Env
 |[]=>[]
 |v::r=>(i,v)::zipE (i+1) r
variable {P:Program}
theorem Hs {t:TypeId}{i:TypeInfo}(h:P.info? t=some i)(w:World):(typeInfo t).run P w=.ok i w:=by
 simp[typeInfo,h]
theorem Bi {t:TypeId}{i:TypeInfo}(h:P.info? t=some i)(w:World):(sizeOf t).run P w=.ok i.size w:=by
 simp[sizeOf,Hs h]
theorem A0 {t:TypeId}{d:TypeDesc}(h:P.underlying t=some d)(w:World):(underlying t).run P w=.ok d w:=by
 simp[underlying,h]
theorem Qazj {t:TypeId}{i:TypeInfo}(h:P.info? t=some i):P.cellsOf t=i.size:=by simp[Program.cellsOf,h]
def BW:TypeDesc→Bool
 |.struct _|.array _ _=>true
 |_=>false
theorem DG {t:TypeId}{d:TypeDesc}(h:P.underlying t=some d)(w:World):(isAgg t).run P w=.ok (BW d) w:=by
 cases d <;> simp[isAgg,A0 h,BW]
theorem Ck (b o j:Nat):(⟨b,o,none⟩:Addr).add j=⟨b,o+j,none⟩:=by
 unfold Addr.add;split
 ·subst_vars;rfl
 ·rfl
theorem Ri {t:TypeId}{d:TypeDesc}{i:TypeInfo}(hd:P.underlying t=some d)(hi:P.info? t=some i)(w:World)(b o n:Nat)(f:Nat→Value)
  (hn:BW d=true→i.size=n) (h1:BW d=false→n=1) (hc:∀j,j<n→w.cell? ⟨b,o+j,none⟩=some (f j)) :
  (loadVar t ⟨b,o,none⟩).run P w=.ok (if BW d then .agg ((List.range n).map f).toArray else f 0) w:=by
 unfold loadVar;simp only[Sem.run_bind,DG hd,Result.andThen_ok]
 cases ha:BW d with
 |true=>
  simp only[Sem.run_bind,Bi hi,Result.andThen_ok,if_true,hn ha];rw[run_loadCells w _ n f (fun j hj=>by rw[Ck];exact hc j hj)];simp
 |false=>
  have h0:=hc 0 (by have:=h1 ha;omega);simp only[J0]at h0;simp[h0]
def getV (w:World)(b o:Nat)(j:Nat):Value:=(w.cell? ⟨b,o+j,none⟩).getD undef
theorem RepC.ak {w:World}{g:G}{c:C}{v:Value}(h:RepC w g c v):c.ah=false:=by cases h <;> rfl
theorem Dt {w:World}{b o:Nat}{cs:Array Value}{T:TypeId}(h:w.heap[b]? = some (.cells cs T (0,0))):w.cell? ⟨b,o,none⟩=cs[o]?:=by
 simp[World.cell?,h]
theorem RepO.toC {w:World}{g:G}{l:Nat}{p:List Nat}{c:C}{v:Value}(h:RepO w g l p c v)(hn:c.ah=false):RepC w g c v:=
 h.plain_of (fun sz rows e=>by subst e;simp[C.ah]at hn)
theorem G5 {H:Heap}{g:G}{w:World}(hs:Sat H g w){s:C}{v:Value}(h:RepC w g s v)(ho:bh H s) :
  ∃a cap,v=.slice a (ay s) cap∧ay s≤LIM∧(rowsOf H s).length=ay s∧
   (∀(i:Nat) (row:List C),(rowsOf H s)[i]? = some row→row.length=s.aO)∧
   (ay s≠0→∃b off,a=some ⟨b,off,none⟩∧∀(i:Nat) (row:List C) (j:Nat) (c:C),(rowsOf H s)[i]? = some row→row[j]? = some c→c.ah=false→
    ∃u,w.cell? ⟨b,off+i * s.aO+j,none⟩=some u∧RepC w g c u):=by
 cases h with
 |bP fl sz a=>exact⟨a,0,rfl,by simp[ay,LIM],rfl,by simp[rowsOf],by simp[ay]⟩
 |sl fl sz rows b off cap val hl hf eC hp hr hc hv=>
  refine⟨some ⟨b,off,none⟩,cap,rfl,hl,rfl,hr,fun _=>⟨b,off,rfl,fun i row j c h1 h2 _=>⟨_,hc i row j c h1 h2,hv i row j c h1 h2⟩⟩⟩
 |bS l sz st a=>
  simp only[bh]at ho;refine⟨a,0,rfl,by simp[ay,LIM],?_,?_,by simp[ay]⟩
  ·simp only[rowsOf,ay];split <;> simp
  ·intro i row h1;simp only[rowsOf]at h1;split at h1 <;> simp at h1
 |af l sz st n cap b base T m bR hn gI hm=>
  simp only[bh]at ho;split at ho
  ·rename_i z rows hH
   obtain⟨rfl,aL⟩:=ho;have bn:=hs.objs l;rw[hH]at bn;obtain⟨b',base',T',cs,val,h1,h2,h3,h4,h5,h6,h7,h8⟩:=SatVec.of bn bR;rw[bR]at h1;simp only[Jb,Jn,true_and]at h1;obtain⟨rfl,rfl⟩:=h1;have aK:∀i row,(rowsOf H (.af l z st n))[i]? = some row→i<n∧rows[st+i]? = some row:=by
    intro i row hi;simp only[rowsOf,hH,Jp,Js]at hi;split at hi
    ·rename_i ae;exact⟨ae,hi⟩
    ·simp at hi
   refine⟨_,cap,rfl,by simp only[ay];omega,?_,?_,fun _=>⟨b,base+st * z,rfl,?_⟩⟩
   ·simp only[rowsOf,hH,ay,List.length_take,List.length_drop];omega
   ·intro i row hi;exact h6 _ _ (aK i row hi).2
   ·intro i row j c hi hj ho;obtain⟨ny,pm⟩:=aK i row hi;have e1:=h7 _ _ _ _ pm hj;refine⟨val (st+i) j,?_,(h8 _ _ _ _ pm hj).toC ho⟩;rw[Dt h3,←e1];simp only[C.aO];congr 1;rw[Jk];omega
  ·exact ho.elim
 |_=>simp[bh]at ho
theorem LA {H:Heap}{g:G}{w:World}(hs:Sat H g w){x:C}{v:Value}(h:RepC w g x v)(ho:Co H x) :
  ∃b o,v=.pointer (some ⟨b,o,none⟩)∧∀(j:Nat) (c:C),(BY H x)[j]? = some c→c.ah=false→∃u,w.cell? ⟨b,o+j,none⟩=some u∧RepC w g c u:=by
 cases h with
 |pp cells b off val hp hc hv=>exact⟨b,off,rfl,fun j c h1 _=>⟨_,hc j c h1,hv j c h1⟩⟩
 |ptr l k b sz base bR=>
  simp only[Co]at ho;split at ho
  ·rename_i cells hH
   have bn:=hs.objs l;rw[hH]at bn;obtain⟨b',sz',T,cs,h1,h2,h3,h4,h5⟩:=bn;rw[bR]at h1;simp only[Jb,Jn]at h1;obtain⟨rfl,rfl,rfl⟩:=h1;refine⟨b,0+k,rfl,fun j c hj hw=>?_⟩;simp only[BY,hH,Js]at hj;have ae:k+j<cs.size:=by
    rw[h4];rcases Jh (k+j) cells.length with h|h
    ·exact h
    ·rw[Jf h]at hj;simp at hj
   have hv:cs[k+j]? = some cs[k+j]:=Jd ae;exact⟨cs[k+j],by rw[Dt h3,show 0+k+j=k+j by omega];exact hv,(h5 _ _ _ hj hv).toC hw⟩
  ·exact ho.elim
 |ep s sz i k b off n cap gH hz hi=>
  simp only[Co]at ho;obtain⟨ho1,iS,ho3⟩:=ho;obtain⟨a,cap',hv,h1,h2,h3,h4⟩:=G5 hs gH ho1;simp only[Value.slice.injEq]at hv;obtain⟨rfl,rfl,rfl⟩:=hv;obtain⟨b',off',hb,h5⟩:=h4 Zx;simp only[Jb,Addr.mk.injEq,and_true]at hb;obtain⟨rfl,rfl⟩:=hb;refine⟨b,off+i * sz+k,rfl,fun j c hj hw=>?_⟩;simp only[BY,Js]at hj;have aK:(rowsOf H s)[i]? = some ((rowsOf H s).getD i []):=by
   rw[J2,Je Zx];rfl
  obtain⟨u,e1,e2⟩:=h5 i _ (k+j) c aK hj hw;refine⟨u,?_,e2⟩;rw[hz]at e1;rw[←e1];congr 2;omega
 |_=>simp[Co]at ho
def mK:V→Value→Bool
 |.c (.int k n),.int k' n'=>k == k'&&n == n'
 |.c (.bool b),.bool b'=>b == b'
 |.c (.str s),.string b=>decide (s=b.data.toList)&&decide (s.length≤1000000)
 |.c (.sl _ _ []),.slice none 0 0=>true
 |.c .pnil,.pointer none=>true
 |.c .mnil,.map none=>true
 |.c .fnil,.nilFunc=>true
 |_,_=>false
def mO:Opd→Operand→Bool
 |.t n,.tmp m=>n == m
 |.k v,.const c=>mK v c
 |.k (.c (.fn f [])),.func f'=>f == f'
 |_,_=>false
theorem Qb1v {w:World}{g:G}{v:V}{u:Value}(h:mK v u=true):RepV w g v u:=by
 unfold mK at h;split at h
 ·simp at h;obtain⟨rfl,rfl⟩:=h;exact .c _ _ (.int _ _)
 ·simp at h;subst h;exact .c _ _ (.bool _)
 ·rename_i s b
  simp only[Ja,decide_eq_true_eq]at h;obtain⟨rfl,h2⟩:=h;have hb:b=⟨b.data.toList.toArray⟩:=by cases b;rfl
  have:=RepC.str (w:=w) (g:=g) b.data.toList (by unfold LIM;omega);rw[←hb]at this;exact .c _ _ this
 ·exact .c _ _ (.bP _ _ _)
 ·exact .c _ _ .pnil
 ·exact .c _ _ .mnil
 ·exact .c _ _ .fnil
 ·simp at h
theorem Ig {w:World}{g:G}{e:Env}{a:Act}(he:∀t,RepV w g (lk t e) (a.tmps.getD t undef)){x:Opd}{y:Operand}(h:mO x y=true) :
  RepV w g (x.raw e) (a.eval y):=by
 unfold mO at h;split at h
 ·simp at h;subst h;exact he _
 ·exact Qb1v h
 ·simp at h;subst h;exact .c _ _ (.fn _ [] [] rfl (by intro j c u h1;simp at h1))
 ·simp at h
theorem An {w:World}{g:G}{e:Env}{a:Act}(he:∀t,RepV w g (lk t e) (a.tmps.getD t undef)){x:Opd}{y:Operand}(h:mO x y=true)
  {p:Bool} (hp:p=true) (hf:x.fine p e):RepV w g (x.v e) (a.eval y):=by
 have hr:=Ig he h;unfold Opd.v Opd.fine at *
 cases hx:x.raw e with
 |gd q v=>
  rw[hx]at hr hf;simp only[V.fine]at hf
  cases hr with
  |gd _ _ _ hv _=>exact hv (hf hp)
 |_=>rw[hx]at hr;exact hr
theorem RepV.aR {w:World}{g:G}{x:C}{v:Value}(h:RepV w g (.c x) v):RepC w g x v:=by cases h;assumption
theorem RepC.aH {w:World}{g:G}{k:IntKind}{n:Int}{v:Value}(h:RepC w g (.int k n) v):v=.int k n:=by cases h;rfl
theorem RepC.bu {w:World}{g:G}{b:Bool}{v:Value}(h:RepC w g (.bool b) v):v=.bool b:=by cases h;rfl
theorem RepC.str_inv {w:World}{g:G}{s:List UInt8}{v:Value}(h:RepC w g (.str s) v):v=.string ⟨s.toArray⟩∧s.length≤LIM:=by cases h;exact⟨rfl,by assumption⟩
theorem RepC.pnil_inv {w:World}{g:G}{v:Value}(h:RepC w g .pnil v):v=.pointer none:=by cases h;rfl
theorem RepC.ptr_inv {w:World}{g:G}{x:C}{v:Value}(h:RepC w g x v)(hx:x.isPtr=true):∃b o,v=.pointer (some ⟨b,o,none⟩):=by
 cases h <;> simp[C.isPtr]at hx <;> exact⟨_,_,rfl⟩
theorem RepC.fn_inv {w:World}{g:G}{f:Nat}{caps:List C}{v:Value}(h:RepC w g (.fn f caps) v) :
  ∃vs:List Value,v=.func (.func f) #[] vs.toArray∧vs.length=caps.length∧∀(j:Nat) (c:C) (u:Value),caps[j]? = some c→vs[j]? = some u→RepC w g c u:=by
 cases h with
 |fn f caps vs hl hv=>exact⟨vs,rfl,hl,hv⟩
theorem RepV.tup_inv {w:World}{g:G}{xs:List V}{v:Value}(h:RepV w g (.tup xs) v) :
  ∃vs:List Value,v=.tuple vs.toArray∧vs.length=xs.length∧∀(j:Nat) (x:V) (u:Value),xs[j]? = some x→vs[j]? = some u→RepV w g x u:=by
 cases h with
 |tup xs vs hl hv=>exact⟨vs,rfl,hl,hv⟩
theorem RepV.ag_inv {w:World}{g:G}{cs:List C}{v:Value}(h:RepV w g (.ag cs) v) :
  ∃vs:List Value,v=.agg vs.toArray∧vs.length=cs.length∧∀(j:Nat) (x:C) (u:Value),cs[j]? = some x→vs[j]? = some u→RepC w g x u:=by
 cases h with
 |ag cs vs hl hv=>exact⟨vs,rfl,hl,hv⟩
theorem Bv {v:V}(h:v.isC):v=.c v.c1:=by cases v <;> simp_all[V.isC,V.c1]
end Go.AE
namespace Go.AE
variable {P:Program}{H:Heap}{g:G}{w:World}{e:Env}{a:Act}{o:Oper}{p:Bool}
def FOk (P:Program)(H:Heap)(g:G)(w:World)(e:Env)(a:Act)(o:Oper)(op:FOp):Prop:=
 ∃v w' g',(execOp a.eval o).run P w=.ok (.value v) w'∧Stp H g w H g' w'∧RepV w' g' (op.val e H) v∧op.fct e H
abbrev EnvOk (w:World)(g:G)(e:Env)(a:Act):Prop:=∀t,RepV w g (lk t e) (a.tmps.getD t undef)
theorem FOk.mk' {op:FOp}(hs:Sat H g w){v:Value}(h1:(execOp a.eval o).run P w=.ok (.value v) w)(h2:RepV w g (op.val e H) v)(h3:op.fct e H) :
  FOk P H g w e a o op:=⟨v,w,g,h1,.refl hs,h2,h3⟩
def mTag (P:Program)(tag:Nat)(t:TypeId):Bool:=
 match tag with
 |1=>(match P.underlying t with|some .bool=>true|_=>false)
 |2=>(match P.underlying t with|some (.pointer _)=>true|_=>false)
 |_=>true
theorem s_mv {x:Opd}{y:Operand}(hm:o.op=.move y∨o.op=.assign y)(hx:mO x y=true)(hs:Sat H g w)(he:EnvOk w g e a)(hp:p=true)
  (ho:(FOp.mv x).obl p e H):FOk P H g w e a o (.mv x):=by
 refine .mk' hs (v:=a.eval y) ?_ (An he hx hp ho) trivial;rcases hm with hm|hm <;> simp[execOp,hm]
theorem Qb2h {c x y:Opd}{c' x' y':Operand}(hm:o.op=.pick c' x' y')(hc:mO c c'=true)(hx:mO x x'=true)(hy:mO y y'=true)
  (hs:Sat H g w) (he:EnvOk w g e a) (hp:p=true) (ho:(FOp.pick c x y).obl p e H):FOk P H g w e a o (.pick c x y):=by
 simp only[FOp.obl]at ho;obtain⟨h1,h2⟩:=ho;have hr:=An he hc hp h1
 cases hv:c.v e with
 |c z=>
  cases z with
  |bool t=>
   rw[hv]at hr h2;simp only at h2;have hb:a.eval c'=.bool t:=hr.aR.bu;refine .mk' hs (v:=if t then a.eval x' else a.eval y') (by simp[execOp,hm,hb,asBool]) ?_ trivial;simp only[FOp.val,hv];have gen:∀(u v:V) (s r:Value),(t=true→RepV w g u s)→(t=false→RepV w g v r)→RepV w g (Dw t u v) (if t then s else r):=by
    intro u v s r hu hv;unfold Dw;split
    ·cases t
     ·simpa using hv rfl
     ·simpa using hu rfl
    ·cases t
     ·simpa using hv rfl
     ·simpa using hu rfl
   refine gen _ _ _ _ (fun ht=>?_) (fun ht=>?_)
   ·exact An he hx (p:=p&&t) (by simp[hp,ht]) h2.1
   ·exact An he hy (p:=p&&!t) (by simp[hp,ht]) h2.2
  |_=>rw[hv]at h2;exact h2.elim
 |_=>rw[hv]at h2;exact h2.elim
theorem Ha {k:IntKind}{n:Int}(h:inR k n):k.wrap n=n:=by
 unfold inR at h;cases k <;> simp[IntKind.min,IntKind.max,IntKind.signed,IntKind.bits]at h <;> simp[IntKind.wrap,IntKind.signed,IntKind.bits] <;> omega
theorem P4 (s:List UInt8):(⟨s.toArray⟩:ByteArray).toList=s:=by
 rw[ByteArray.toList_eq]
theorem Fd (s:List UInt8):(⟨s.toArray⟩:ByteArray).size=s.length:=by simp[ByteArray.size]
theorem CY:LIM=549755813888:=rfl
theorem AK (op:BinOp)(t:TypeId)(x y:Operand)(u v:Value)(h:∀cs ds,¬(u=.agg cs∧v=.agg ds))(h':¬(u=.nilIface∧v=.nilIface))(w:World) :
  (eqGuard op t x y u v).run P w=.ok () w:=by
 unfold eqGuard;cases op <;> simp <;> (cases u <;> cases v <;> simp_all)
theorem Qazq {t:TypeId}(h:P.underlying t=some .bool)(d:Nat)(x y:Bool)(w:World):(Op.equalIn (d+1) t (.bool x) (.bool y)).run P w=.ok (x == y) w:=by
 simp[Op.equalIn,A0 h]
theorem Qa8t {t pe:TypeId}(h:P.underlying t=some (.pointer pe))(d:Nat)(x:Addr)(w:World):(Op.equalIn (d+1) t (.pointer (some x)) (.pointer none)).run P w=.ok false w:=by
 simp[Op.equalIn,A0 h]
theorem Qa8s {t pe:TypeId}(h:P.underlying t=some (.pointer pe))(d:Nat)(w:World):(Op.equalIn (d+1) t (.pointer none) (.pointer none)).run P w=.ok true w:=by
 simp[Op.equalIn,A0 h]
theorem Q92 {t:TypeId}(h:P.underlying t=some .bool)(x y:Bool)(w:World):(Op.equal t (.bool x) (.bool y)).run P w=.ok (x == y) w:=Qazq h 9999 x y w
theorem Ny {t pe:TypeId}(h:P.underlying t=some (.pointer pe))(x:Addr)(w:World):(Op.equal t (.pointer (some x)) (.pointer none)).run P w=.ok false w:=Qa8t h 9999 x w
theorem Nz {t pe:TypeId}(h:P.underlying t=some (.pointer pe))(w:World):(Op.equal t (.pointer none) (.pointer none)).run P w=.ok true w:=Qa8s h 9999 w
theorem Qb3i {tag:Nat}{bo:BinOp}{x y:Opd}{x' y':Operand}{t t':TypeId}(hm:o.op=.binOp bo t x' y' t')(ht:mTag P tag t=true)(hx:mO x x'=true)(hy:mO y y'=true)
  (hs:Sat H g w) (he:EnvOk w g e a) (hp:p=true) (ho:(FOp.bin tag bo x y).obl p e H):FOk P H g w e a o (.bin tag bo x y):=by
 simp only[FOp.obl]at ho;obtain⟨h1,h2,h3,h4,h5⟩:=ho;have gK:=An he hx hp h1;have i6:=An he hy hp h2;rw[Bv h3]at gK;rw[Bv h4]at i6;have jw:=gK.aR;have fu:=i6.aR;have key:∀(u v:Value) (c d:C),RepC w g c u→RepC w g d v→binO tag bo c d→
   ∃r,(do eqGuard bo t x' y' u v;binOp bo t u v:Sem Value).run P w=.ok r w∧RepC w g (binC bo c d) r:=by
  intro u v c d hu hv hO;unfold binO at hO;split at hO
  case h_1=>
   obtain⟨rfl,hr⟩:=hO;rw[hu.aH,hv.aH];exact⟨_,by simp[AK,binOp,Op.intArith];try rfl,by rw[Ha hr];exact .int _ _⟩
  case h_2=>
   obtain⟨rfl,hr⟩:=hO;rw[hu.aH,hv.aH];exact⟨_,by simp[AK,binOp,Op.intArith];try rfl,by rw[Ha hr];exact .int _ _⟩
  case h_3=>
   obtain⟨rfl,hr⟩:=hO;rw[hu.aH,hv.aH];exact⟨_,by simp[AK,binOp,Op.intArith];try rfl,by rw[Ha hr];exact .int _ _⟩
  case h_4=>
   obtain⟨rfl,h0,hr⟩:=hO;rw[hu.aH,hv.aH];exact⟨_,by simp[AK,binOp,Op.intDiv,h0];try rfl,by rw[Ha hr];exact .int _ _⟩
  case h_5=>
   obtain⟨rfl,h0⟩:=hO;rw[hu.aH,hv.aH];exact⟨_,by simp[AK,binOp,Op.intDiv,h0];try rfl,.int _ _⟩
  case h_6=>
   subst hO;rw[hu.aH,hv.aH];exact⟨_,by simp[AK,binOp,Op.intBits];try rfl,.int _ _⟩
  case h_7=>
   subst hO;rw[hu.aH,hv.aH];exact⟨_,by simp[AK,binOp,Op.intBits];try rfl,.int _ _⟩
  case h_8=>
   subst hO;rw[hu.aH,hv.aH];exact⟨_,by simp[AK,binOp,Op.intBits];try rfl,.int _ _⟩
  case h_9=>
   subst hO;rw[hu.aH,hv.aH];exact⟨_,by simp[AK,binOp,Op.intCmp];try rfl,.bool _⟩
  case h_10=>
   subst hO;rw[hu.aH,hv.aH];refine⟨.bool (!decide (_=_)),?_,.bool _⟩;simp[AK,binOp,Op.intCmp,bne];rfl
  case h_11=>
   subst hO;rw[hu.aH,hv.aH];exact⟨_,by simp[AK,binOp,Op.intCmp];try rfl,.bool _⟩
  case h_12=>
   subst hO;rw[hu.aH,hv.aH];exact⟨_,by simp[AK,binOp,Op.intCmp];try rfl,.bool _⟩
  case h_13=>
   subst hO;rw[hu.aH,hv.aH];exact⟨_,by simp[AK,binOp,Op.intCmp];try rfl,.bool _⟩
  case h_14=>
   subst hO;rw[hu.aH,hv.aH];exact⟨_,by simp[AK,binOp,Op.intCmp];try rfl,.bool _⟩
  case h_15=>
   subst hO;rw[hu.bu,hv.bu];have hb:P.underlying t=some .bool:=by
    simp only[mTag]at ht;split at ht <;> simp_all
   exact⟨_,by simp only[Sem.run_bind,AK _ _ _ _ (.bool _) (.bool _) Zz Zz,Result.andThen_ok,binOp,Q92 hb];rfl,.bool _⟩
  case h_16=>
   subst hO;rw[hu.bu,hv.bu];have hb:P.underlying t=some .bool:=by
    simp only[mTag]at ht;split at ht <;> simp_all
   exact⟨_,by simp only[Sem.run_bind,AK _ _ _ _ (.bool _) (.bool _) Zz Zz,Result.andThen_ok,binOp,Q92 hb];rfl,.bool _⟩
  case h_17=>
   rename_i s s'
   rw[hu.str_inv.1,hv.str_inv.1];rw[CY]at hO;refine⟨.string (⟨s.toArray⟩++⟨s'.toArray⟩),?_,?_⟩
   ·simp only[Sem.run_bind,AK _ _ _ _ (.string _) (.string _) Zz Zz,Result.andThen_ok,binOp,Op.stringOp,Fd];rw[if_neg (by simp[IntKind.max,IntKind.signed,IntKind.bits];omega)];rfl
   ·have:(⟨s.toArray⟩++⟨s'.toArray⟩:ByteArray)=⟨(s++s').toArray⟩:=by
     apply Ja6;simp
    rw[this];exact .str _ (by simp[CY];omega)
  case h_18=>
   rw[hu.str_inv.1,hv.str_inv.1];refine⟨_,by simp only[Sem.run_bind,AK _ _ _ _ (.string _) (.string _) Zz Zz,Result.andThen_ok,binOp,Op.stringOp,P4];rfl,?_⟩
   rename_i s s'
   rw[show (s == s')=decide (s=s') from by rw[Jbi];simp];exact .bool _
  case h_19=>
   rw[hu.str_inv.1,hv.str_inv.1];refine⟨_,by simp only[Sem.run_bind,AK _ _ _ _ (.string _) (.string _) Zz Zz,Result.andThen_ok,binOp,Op.stringOp,P4];rfl,?_⟩
   rename_i s s'
   rw[show (s == s')=decide (s=s') from by rw[Jbi];simp];exact .bool _
  case h_20=>
   obtain⟨rfl,hO⟩:=hO;rw[hv.pnil_inv];obtain⟨pe,hb⟩:∃pe,P.underlying t=some (.pointer pe):=by
    simp only[mTag]at ht;split at ht <;> simp_all
   rcases hO with hO|rfl
   ·obtain⟨b,of,rfl⟩:=hu.ptr_inv hO;refine⟨_,by simp only[Sem.run_bind,AK _ _ _ _ (.pointer _) (.pointer _) Zz Zz,Result.andThen_ok,binOp,Ny hb];rfl,?_⟩;cases c <;> simp[C.isPtr]at hO <;> exact .bool _
   ·rw[hu.pnil_inv];exact⟨_,by simp only[Sem.run_bind,AK _ _ _ _ (.pointer _) (.pointer _) Zz Zz,Result.andThen_ok,binOp,Nz hb];rfl,.bool _⟩
  case h_21=>
   obtain⟨rfl,hO⟩:=hO;rw[hv.pnil_inv];obtain⟨pe,hb⟩:∃pe,P.underlying t=some (.pointer pe):=by
    simp only[mTag]at ht;split at ht <;> simp_all
   rcases hO with hO|rfl
   ·obtain⟨b,of,rfl⟩:=hu.ptr_inv hO;refine⟨_,by simp only[Sem.run_bind,AK _ _ _ _ (.pointer _) (.pointer _) Zz Zz,Result.andThen_ok,binOp,Ny hb];rfl,?_⟩;cases c <;> simp[C.isPtr]at hO <;> exact .bool _
   ·rw[hu.pnil_inv];exact⟨_,by simp only[Sem.run_bind,AK _ _ _ _ (.pointer _) (.pointer _) Zz Zz,Result.andThen_ok,binOp,Nz hb];rfl,.bool _⟩
  case h_22=>exact hO.elim
 obtain⟨r,cG,eE⟩:=key _ _ _ _ jw fu h5;refine .mk' hs (v:=r) ?_ ?_ trivial
 ·simp only[execOp,hm,Sem.run_bind]at cG⊢;simp only[cG];rfl
 ·exact .c _ _ eE
theorem Qb30 {x:Opd}{x':Operand}{t:TypeId}(hm:o.op=.unOp .not t x')(hx:mO x x'=true)(hs:Sat H g w)(he:EnvOk w g e a)(hp:p=true)
  (ho:(FOp.not x).obl p e H):FOk P H g w e a o (.not x):=by
 simp only[FOp.obl]at ho;obtain⟨h1,h2⟩:=ho;have hr:=An he hx hp h1;split at h2
 ·rename_i b hv
  rw[hv]at hr;have hb:=hr.aR.bu;refine .mk' hs (v:=.bool (!b)) (by simp[execOp,hm,hb,Op.unary]) ?_ trivial;simp only[FOp.val,hv];exact .c _ _ (.bool _)
 ·exact h2.elim
theorem Kk {α:Type}(l:List α)(i j:Nat):(l.drop i)[j]? = l[i+j]?:=by simp[Js]
theorem Qb3o {off:Nat}{x:Opd}{x':Operand}{s:TypeId}{k:Nat}{fs:Array Field}{f:Field}{i:TypeInfo}(hm:o.op=.fieldAddr s x' k)(hu:P.underlying s=some (.struct fs))
  (hf:fs[k]? = some f) (lU:f.offset=off) (hi:P.info? f.type=some i) (hz:i.size≠0) (hx:mO x x'=true)
  (hs:Sat H g w) (he:EnvOk w g e a) (hp:p=true) (ho:(FOp.fad off x).obl p e H):FOk P H g w e a o (.fad off x):=by
 simp only[FOp.obl]at ho;obtain⟨h1,h2⟩:=ho;have hr:=An he hx hp h1;have run:∀b q,a.eval x'=.pointer (some ⟨b,q,none⟩)→(execOp a.eval o).run P w=.ok (.value (.pointer (some ⟨b,q+off,none⟩))) w:=by
  intro b q hq;simp[execOp,hm,hq,Instr.fieldAt,A0 hu,hf,Instr.sureAddr,fieldPlace,Bi hi,hz,Ck,lU]
 generalize hq:a.eval x'=vv at hr;split at h2
 ·rename_i cells hv
  rw[hv]at hr
  cases hr.aR with
  |pp _ b q val cW hc j8=>
   refine .mk' hs (run b q hq) ?_ trivial;simp only[FOp.val,hv,V.c1,fadC];refine .c _ _ (.pp _ b (q+off) (fun j=>val (off+j)) cW (fun j c hj=>?_) (fun j c hj=>?_))
   ·rw[Kk]at hj;rw[Jas];exact hc _ _ hj
   ·rw[Kk]at hj;exact j8 _ _ hj
 ·rename_i l kk hv
  rw[hv]at hr
  cases hr.aR with
  |ptr _ _ b sz base bR=>
   refine .mk' hs (run b _ hq) ?_ trivial;simp only[FOp.val,hv,V.c1,fadC];rw[Jas];exact .c _ _ (.ptr _ _ b sz base bR)
 ·rename_i sl sz ii kk hv
  rw[hv]at hr
  cases hr.aR with
  |ep _ _ _ _ b q n cap gH gc dm=>
   refine .mk' hs (run b _ hq) ?_ trivial;simp only[FOp.val,hv,V.c1,fadC];rw[Jas];exact .c _ _ (.ep _ _ _ _ b q n cap gH gc dm)
 ·exact h2.elim
theorem Qbtr {v:V}(h:BG v):v=.c (.int .i64 (Ag v)):=by
 unfold BG at h;split at h
 ·subst h;rfl
 ·exact h.elim
theorem Qbtt {v:V}(h:Dz v):∃k,v=.c (.int k (Ag v)):=by
 unfold Dz at h;split at h
 ·exact⟨_,rfl⟩
 ·exact h.elim
theorem Cg {x:Opd}{y:Operand}(he:EnvOk w g e a)(h:mO x y=true)(hp:p=true)(hf:x.fine p e)(hi:BG (x.v e)) :
  a.eval y=.int .i64 (Ag (x.v e)):=by
 have hr:=An he h hp hf;rw[Qbtr hi]at hr;exact hr.aR.aH
theorem Qb3r {sz:Nat}{x y:Opd}{x' y':Operand}{t el:TypeId}{i:TypeInfo}(hm:o.op=.indexAddr t x' y')(hu:P.underlying t=some (.slice el))
  (hi:P.info? el=some i) (hz:i.size=sz) (hx:mO x x'=true) (hy:mO y y'=true)
  (hs:Sat H g w) (he:EnvOk w g e a) (hp:p=true) (ho:(FOp.iad sz x y).obl p e H):FOk P H g w e a o (.iad sz x y):=by
 simp only[FOp.obl]at ho;obtain⟨h1,h2,h3,h4,h5,h6,h7,h8⟩:=ho;have hr:=An he hx hp h1;have hn:=Cg he hy hp h2 h6;rw[Bv h3]at hr;obtain⟨b0,cap,hv,r1,r2,r3,r4⟩:=G5 hs hr.aR h4;obtain⟨b,off,rfl,r5⟩:=r4 Zx;refine .mk' hs (v:=.pointer (some ⟨b,off+(Ag (y.v e)).toNat * sz+0,none⟩)) ?_ ?_ trivial
 ·simp only[execOp,hm,hv,hn,Instr.indexAt,Sem.run_bind,asIntOf,Sem.run_pure,Result.andThen_ok,A0 hu];rw[if_pos ⟨h7,Zx⟩];simp[Bi hi,hz,Ck]
 ·simp only[FOp.val];refine .c _ _ (.ep _ _ _ _ b off (ay (x.v e).c1) cap ?_ h5 h8);rw[←hv];exact hr.aR
theorem Qbng (f:Nat→Value)(n j:Nat)(u:Value)(h:(((List.range n).map f))[j]? = some u):j<n∧u=f j:=by
 simp only[Jl]at h
 cases hj:(List.range n)[j]? with
 |none=>rw[hj]at h;simp at h
 |some m=>
  rw[hj]at h;rw[Jao]at hj;obtain⟨h1,h2⟩:=hj;simp only[List.getElem_range]at h2;subst h2;simp only[Jbd]at h1;simp at h;exact⟨h1,h.symm⟩
theorem Ix {cs:List C}(h:ak cs=true){j:Nat}{c:C}(hj:cs[j]? = some c):c.ah=false:=by
 unfold ak at h;rw[Jad]at h;have:=h c (Jg hj);simpa using this
theorem P7 {n:Nat}{agg:Bool}{x:Opd}{x':Operand}{t:TypeId}{d:TypeDesc}{i:TypeInfo}(hm:o.op=.load t x')(hu:P.underlying t=some d)(hi:P.info? t=some i)
  (ha:BW d=agg) (hn:agg=true→i.size=n) (dk:agg=false→n=1) (hx:mO x x'=true)
  (hs:Sat H g w) (he:EnvOk w g e a) (hp:p=true) (ho:(FOp.ld n agg x).obl p e H):∃v,(execOp a.eval o).run P w=.ok (.value v) w∧RepV w g ((FOp.ld n agg x).val e H) v:=by
 simp only[FOp.obl]at ho;obtain⟨h1,h2,h3,h4,h5⟩:=ho;have hr:=An he hx hp h1;rw[Bv h2]at hr;obtain⟨b,q,hv,hc⟩:=LA hs hr.aR h3;have bW:∀j,j<n→∃c,(BY H (x.v e).c1)[j]? = some c∧w.cell? ⟨b,q+j,none⟩=some (getV w b q j)∧RepC w g c (getV w b q j):=by
  intro j hj;have cw:j<(BY H (x.v e).c1).length:=Zx
  have hg:(BY H (x.v e).c1)[j]? = some (BY H (x.v e).c1)[j]:=Je cw;have hw:((BY H (x.v e).c1)[j]).ah=false:=Ix h5 (j:=j) (by rw[Jp,if_pos hj];exact hg);obtain⟨u,e1,e2⟩:=hc j _ hg hw;refine⟨_,hg,?_,?_⟩
  ·rw[getV,e1];rfl
  ·rw[getV,e1];exact e2
 have cH:=Ri (t:=t) hu hi w b q n (getV w b q) (fun h=>hn (ha▸h)) (fun h=>dk (ha▸h)) (fun j hj=>(bW j hj).choose_spec.2.1);refine⟨if BW d then .agg ((List.range n).map (getV w b q)).toArray else getV w b q 0,?_,?_⟩
 ·simp only[execOp,hm,hv,Instr.loadAt,Instr.sureAddr,Sem.run_bind,Sem.run_pure,Result.andThen_ok,cH]
 ·simp only[FOp.val,Cq];rw[ha]
  cases agg with
  |true=>
   simp only[if_true];refine .ag _ _ ZD fun j c u hj gE=>?_;obtain⟨rR,rfl⟩:=Qbng _ _ _ _ gE;obtain⟨c',e1,e2,e3⟩:=bW j rR;rw[Jp,if_pos rR,e1]at hj;simp at hj;subst hj;exact e3
  |false=>
   have vM:=dk rfl;subst vM;obtain⟨c',e1,e2,e3⟩:=bW 0 Zx;simp only[Ju,if_false];have:((BY H (x.v e).c1).take 1).headD .unk=c':=by
    cases hb:BY H (x.v e).c1 with
    |nil=>rw[hb]at e1;simp at e1
    |cons c r=>rw[hb]at e1;simp at e1;simp[e1]
   rw[this];exact .c _ _ e3
theorem s_ld {n:Nat}{agg:Bool}{x:Opd}{x':Operand}{t:TypeId}{d:TypeDesc}{i:TypeInfo}(hm:o.op=.load t x')(hu:P.underlying t=some d)(hi:P.info? t=some i)
  (ha:BW d=agg) (hn:agg=true→i.size=n) (dk:agg=false→n=1) (hx:mO x x'=true)
  (hs:Sat H g w) (he:EnvOk w g e a) (hp:p=true) (ho:(FOp.ld n agg x).obl p e H):FOk P H g w e a o (.ld n agg x):=by
 obtain⟨v,h1,h2⟩:=P7 hm hu hi ha hn dk hx hs he hp ho;exact .mk' hs h1 h2 trivial
theorem Qb3z {x:Opd}{x':Operand}(hm:o.op=.nilCheck x')(hx:mO x x'=true)
  (hs:Sat H g w) (he:EnvOk w g e a) (hp:p=true) (ho:(FOp.nck x).obl p e H):FOk P H g w e a o (.nck x):=by
 simp only[FOp.obl]at ho;obtain⟨h1,h2⟩:=ho;have hr:=An he hx hp h1;have oI:(x.v e).isC→(x.v e).c1.isPtr=true→FOk P H g w e a o (.nck x):=by
  intro hc hq;have be:=hr;rw[Bv hc]at be;obtain⟨b,q,hv⟩:=be.aR.ptr_inv hq;exact .mk' hs (v:=a.eval x') (by simp[execOp,hm,hv]) hr trivial
 split at h2
 ·rename_i hv;exact oI (by rw[hv];trivial) (by rw[hv];rfl)
 ·rename_i hv;exact oI (by rw[hv];trivial) (by rw[hv];rfl)
 ·rename_i hv;exact oI (by rw[hv];trivial) (by rw[hv];rfl)
 ·rename_i hv
  have be:=hr;rw[hv]at be;obtain⟨vs,hq,_⟩:=be.aR.fn_inv;exact .mk' hs (v:=a.eval x') (by simp[execOp,hm,hq]) hr trivial
 ·exact h2.elim
theorem Qb3w {x:Opd}{x':Operand}{t el:TypeId}{ats:Array TypeId}(hm:o.op=.call { callee:=.builtin .len,args:=#[x'],argTypes:=ats })(b7:ats[0]? = some t)
  (hu:P.underlying t=some (.slice el)) (hx:mO x x'=true)
  (hs:Sat H g w) (he:EnvOk w g e a) (hp:p=true) (ho:(FOp.len x).obl p e H):FOk P H g w e a o (.len x):=by
 simp only[FOp.obl]at ho;obtain⟨h1,h2,h3⟩:=ho;have hr:=An he hx hp h1;rw[Bv h2]at hr;obtain⟨b0,cap,hv,r1,r2,r3,r4⟩:=G5 hs hr.aR h3;refine .mk' hs (v:=.int .i64 (ay (x.v e).c1)) ?_ (.c _ _ (.int _ _)) r1;simp[execOp,hm,resolve,invoke,builtin,Builtin.len_,b7,hv,A0 hu,goInt]
theorem Qb2g {x:Opd}{x':Operand}{t:TypeId}{ats:Array TypeId}(hm:o.op=.call { callee:=.builtin .len,args:=#[x'],argTypes:=ats })(b7:ats[0]? = some t)
  (hu:P.underlying t=some .string) (hx:mO x x'=true)
  (hs:Sat H g w) (he:EnvOk w g e a) (hp:p=true) (ho:(FOp.lens x).obl p e H):FOk P H g w e a o (.lens x):=by
 simp only[FOp.obl]at ho;obtain⟨h1,h2⟩:=ho;have hr:=An he hx hp h1;split at h2
 ·rename_i s hv
  rw[hv]at hr;obtain⟨hq,hl⟩:=hr.aR.str_inv;refine .mk' hs (v:=.int .i64 s.length) ?_ Zar (by simp only[FOp.fct,hv];exact hl);simp[execOp,hm,resolve,invoke,builtin,Builtin.len_,b7,hq,A0 hu,goInt,Fd]
 ·exact h2.elim
theorem map_rep (hs:Sat H g w){c:C}{v:Value}(h:RepC w g c v)(ho:Bl H c) :
  (v=.map none∧Bx H c=[])∨∃b ms clock,v=.map (some b)∧w.heap[b]? = some (.map ms clock)∧ms.size=(Bx H c).length∧(Bx H c).length≤LIM∧
   ∀(i:Nat) (x:C×V) (m:MapEntry),(Bx H c)[i]? = some x→ms[i]? = some m→RepE w g x m:=by
 cases h with
 |mp l b bR=>
  simp only[Bl]at ho;split at ho
  ·rename_i n es hH
   have bn:=hs.objs l;rw[hH]at bn;obtain⟨b',ms,clock,k1,k2,k3,k4,k5,k6,_⟩:=bn;rw[bR]at k1;simp only[Jb,Jn,and_true]at k1;subst k1;simp only[Bx,hH];exact .inr ⟨b,ms,clock,rfl,k3,k4,k5,k6⟩
  ·exact ho.elim
 |mnil=>exact .inl ⟨rfl,rfl⟩
 |_=>simp[Bl]at ho
theorem Qb3n {x:Opd}{x':Operand}{i:Nat}(hm:o.op=.extract x' i)(hx:mO x x'=true)
  (hs:Sat H g w) (he:EnvOk w g e a) (hp:p=true) (ho:(FOp.ext x i).obl p e H):FOk P H g w e a o (.ext x i):=by
 simp only[FOp.obl]at ho;obtain⟨h1,h2⟩:=ho;have hr:=An he hx hp h1;split at h2
 ·rename_i xs hv
  rw[hv]at hr;obtain⟨vs,hq,hl,hh⟩:=hr.tup_inv;have hi:i<vs.length:=Zx
  refine .mk' hs (v:=vs[i]) ?_ ?_ trivial
  ·simp[execOp,hm,Instr.extract,hq,hi]
  ·simp only[FOp.val,hv];refine hh i _ _ ?_ (Je hi);rw[J2,Je h2];rfl
 ·exact h2.elim
theorem Qb3m {x:Opd}{x':Operand}{k:IntKind}{src dst:TypeId}{d:TypeDesc}(hm:o.op=.convert src dst x')(hu:P.underlying dst=some (.int k))(gE:P.underlying src=some d)(hx:mO x x'=true)
  (hs:Sat H g w) (he:EnvOk w g e a) (hp:p=true) (ho:(FOp.cvt k x).obl p e H):FOk P H g w e a o (.cvt k x):=by
 simp only[FOp.obl]at ho;obtain⟨h1,h2,h3⟩:=ho;have hr:=An he hx hp h1;obtain⟨k',hk⟩:=Qbtt h2;rw[hk]at hr;have hq:=hr.aR.aH;refine .mk' hs (v:=.int k (Ag (x.v e))) ?_ (.c _ _ (.int _ _)) trivial;simp[execOp,hm,hq,convert,A0 hu,A0 gE,Conv.intToInt,Ha h3]
theorem s_mx {x y:Opd}{x' y':Operand}{ats:Array TypeId}(hm:o.op=.call { callee:=.builtin .max,args:=#[x',y'],argTypes:=ats })(hx:mO x x'=true)(hy:mO y y'=true)
  (hs:Sat H g w) (he:EnvOk w g e a) (hp:p=true) (ho:(FOp.mx x y).obl p e H):FOk P H g w e a o (.mx x y):=by
 simp only[FOp.obl]at ho;obtain⟨h1,h2,h3,h4⟩:=ho;have q1:=Cg he hx hp h1 h3;have q2:=Cg he hy hp h2 h4;refine .mk' hs (v:=.int .i64 (if Ag (y.v e) > Ag (x.v e)then Ag (y.v e)else Ag (x.v e))) ?_ (.c _ _ (.int _ _)) trivial;simp[execOp,hm,resolve,invoke,builtin,Builtin.max_,q1,q2,Builtin.max2]
theorem s_mn {x y:Opd}{x' y':Operand}{ats:Array TypeId}(hm:o.op=.call { callee:=.builtin .min,args:=#[x',y'],argTypes:=ats })(hx:mO x x'=true)(hy:mO y y'=true)
  (hs:Sat H g w) (he:EnvOk w g e a) (hp:p=true) (ho:(FOp.mn x y).obl p e H):FOk P H g w e a o (.mn x y):=by
 simp only[FOp.obl]at ho;obtain⟨h1,h2,h3,h4⟩:=ho;have q1:=Cg he hx hp h1 h3;have q2:=Cg he hy hp h2 h4;refine .mk' hs (v:=.int .i64 (if Ag (y.v e)<Ag (x.v e)then Ag (y.v e)else Ag (x.v e))) ?_ (.c _ _ (.int _ _)) trivial;simp[execOp,hm,resolve,invoke,builtin,Builtin.min_,q1,q2,Builtin.min2]
theorem Qb3t {x y:Opd}{x' y':Operand}{t:TypeId}(hm:o.op=.index t x' y')(hu:P.underlying t=some .string)(hx:mO x x'=true)(hy:mO y y'=true)
  (hs:Sat H g w) (he:EnvOk w g e a) (hp:p=true) (ho:(FOp.idx x y).obl p e H):FOk P H g w e a o (.idx x y):=by
 simp only[FOp.obl]at ho;obtain⟨h1,h2,h3,h4⟩:=ho;have hr:=An he hx hp h1;have q2:=Cg he hy hp h2 h3;split at h4
 ·rename_i s hv
  rw[hv]at hr;obtain⟨hq,hl⟩:=hr.aR.str_inv;refine .mk' hs (v:=.int .u8 ((s.getD (Ag (y.v e)).toNat 0).toNat)) ?_ Zar trivial;have hb:(⟨s.toArray⟩:ByteArray)[(Ag (y.v e)).toNat]? = some (s.getD (Ag (y.v e)).toNat 0):=by
   rw[getElem?_pos _ _ (by simpa[ByteArray.size]using h4.2)];rw[J2,Je h4.2];rfl
  simp only[execOp,hm,hq,q2,Instr.index,Sem.run_bind,asIntOf,Sem.run_pure,Result.andThen_ok,A0 hu,if_pos h4.1,hb]
 ·exact h4.elim
def C0 (g:G)(w:World)(g':G)(w':World)(l:Nat):Prop:=
 ∀b q,g.own b=some (l,q)→g'.own b=some (l,q)∧w'.heap[b]? = w.heap[b]?
theorem RepE.mono {g':G}{w':World}(aU:Le g w g' w'){x:C×V}{m:MapEntry}(h:RepE w g x m):RepE w' g' x m:=⟨h.1.mono aU,h.2.mono aU⟩
theorem SatObj.keep {H':Heap}{g':G}{w':World}(hs:Sat H g w)(aU:Le g w g' w'){l:Nat}(hk:C0 g w g' w' l)(hH:H' l=H l)
  (wv:∀m v left cur,H l=.iter (some (m,v)) left cur→∀v' es,H' m=.map v' es→(H m=.map v' es∧C0 g w g' w' m)∨∃v0 es0,H m=.map v0 es0∧v0<v') :
  SatObj H' g' w' l (H' l):=by
 have ho:=hs.objs l;rw[hH]
 cases hc:H l with
 |none=>exact trivial
 |st cells=>
  rw[hc]at ho;obtain⟨b,sz,T,cs,h1,h2,h3,h4,h5⟩:=ho;have k0:=hk b [] h2;refine⟨b,sz,T,cs,aU.io _ _ h1,k0.1,k0.2.trans h3,h4,fun k c v e1 e2=>?_⟩;exact (h5 k c v e1 e2).move aU fun q b' hb=>hk b' _ hb
 |vec sz rows=>
  rw[hc]at ho;rcases ho with ⟨q1,x,q2,q3⟩|⟨b,base,T,cs,val,h1,h2,h3,h4,h5,h6,h7,h8⟩
  ·exact .inl ⟨q1,x,aU.io _ _ q2,q3⟩
  have k0:=hk b [] h2;refine .inr ⟨b,base,T,cs,val,aU.io _ _ h1,k0.1,k0.2.trans h3,h4,h5,h6,h7,fun i row j c e1 e2=>?_⟩;exact (h8 i row j c e1 e2).move aU fun q b' hb=>hk b' _ hb
 |map v es=>
  rw[hc]at ho;obtain⟨b,ms,clock,h1,h2,h3,h4,h5,h6,h7,h8⟩:=ho;have k0:=hk b [] h2;exact⟨b,ms,clock,aU.io _ _ h1,k0.1,k0.2.trans h3,h4,h5,fun i x m e1 e2=>(h6 i x m e1 e2).mono aU,h7,h8⟩
 |gl b cells=>
  rw[hc]at ho;obtain⟨sz,val,h1,h2,h3,h4⟩:=ho;refine⟨sz,val,aU.io _ _ h1,(aU.per b h2).1,fun j c e=>?_,fun j c e=>(h4 j c e).mono aU⟩;rw[TE (w:=w) (aU.per b h2).2];exact h3 j c e
 |iter m left cur=>
  rw[hc]at ho
  cases m with
  |none=>
   obtain⟨b,si,se,la,h1,h2,h3,h4⟩:=ho;have k0:=hk b [] h2;exact⟨b,si,se,la,aU.io _ _ h1,k0.1,k0.2.trans h3,h4⟩
  |some mv=>
   obtain⟨m,ver⟩:=mv;obtain⟨b,mb,si,se,h1,h2,h3,h4,h5⟩:=ho;have k0:=hk b [] h2;refine⟨b,mb,si,se,aU.io _ _ h1,k0.1,k0.2.trans h3,aU.io _ _ h4,fun v es hv=>?_⟩;rcases wv m ver left cur hc v es hv with ⟨a1,a2⟩|⟨v0,es0,a1,a2⟩
   ·obtain⟨b1,b2⟩:=h5 v es a1;refine⟨b1,fun j8=>?_⟩;obtain⟨ms,c1,c2⟩:=b2 j8;refine⟨ms,?_,c2⟩;have hm:=hs.objs m;rw[a1]at hm;obtain⟨mb',ms',clock,d1,d2,d3,_⟩:=hm;rw[h4]at d1;simp only[Jb,Jn,and_true]at d1;subst d1;rw[(a2 mb [] d2).2];exact c1
   ·obtain⟨b1,b2⟩:=h5 v0 es0 a1;exact⟨Zx,fun j8=>Zx⟩
theorem SatObj.keep_all {g':G}{w':World}(hs:Sat H g w)(aU:Le g w g' w')(hk:∀l,C0 g w g' w' l)(l:Nat):SatObj H g' w' l (H l):=
 SatObj.keep (H':=H) hs aU (hk l) rfl fun m v left cur _ v' es hv=>.inl ⟨hv,hk m⟩
theorem Ct (hs:Sat H g w){b:Nat}{x:Nat×List Nat}(h:g.own b=some x):b<w.heap.size:=by
 rcases Jh b w.heap.size with h'|h'
 ·exact h'
 ·rw[(hs.fresh b h').2]at h;simp at h
theorem EL (hs:Sat H g w){b:Nat}(h:g.per b=true):b<w.heap.size:=by
 rcases Jh b w.heap.size with h'|h'
 ·exact h'
 ·rw[(hs.fresh b h').1]at h;simp at h
theorem Dr (w:World)(x:Go.Obj){b:Nat}(h:b<w.heap.size):(w.alloc x).heap[b]? = w.heap[b]?:=by
 simp only[World.alloc,J7];rw[if_neg Zx]
theorem Cj (w:World)(x:Go.Obj):(w.alloc x).heap[w.heap.size]? = some x:=by
 simp only[World.alloc,J7,if_true]
theorem Ff {w:World}{b:Nat}{T:TypeId}{n:Nat}(h:w.shape? b=some (T,n)):b<w.heap.size:=by
 unfold World.shape? at h;rcases Jh b w.heap.size with h'|h'
 ·exact h'
 ·simp[Ji h']at h
theorem Sg {w w':World}{b:Nat}(h:w'.heap[b]? = w.heap[b]?):w'.shape? b=w.shape? b:=by simp only[World.shape?,h]
def G.newPer (g:G)(nb:Nat):G:={ g with per:=fun b=>if b=nb then true else g.per b }
theorem Q9r (hs:Sat H g w)(x:Go.Obj):Stp H g w H (g.newPer w.heap.size) (w.alloc x):=by
 have aU:Le g w (g.newPer w.heap.size) (w.alloc x):=by
  refine⟨fun b hb=>⟨?_,Dr _ _ (EL hs hb)⟩,fun _ _ h=>h,Zz,fun b T n hn=>?_,rfl,rfl,rfl⟩
  ·simp only[G.newPer];split
   ·rfl
   ·exact hb
  ·rw[Sg (Dr _ _ (Ff hn))];exact hn
 have hk:∀l,C0 g w (g.newPer w.heap.size) (w.alloc x) l:=fun l b q hb=>⟨hb,Dr _ _ (Ct hs hb)⟩;refine⟨aU,fun l _ hn=>⟨hn,fun b q hb=>hk l b q hb⟩,⟨fun b hb=>?_,hs.names,fun b y hb=>?_,hs.named,fun l=>SatObj.keep_all hs aU hk l⟩⟩
 ·simp only[World.size_alloc]at hb;refine⟨?_,(hs.fresh b Zx).2⟩;simp only[G.newPer];rw[if_neg Zx];exact (hs.fresh b Zx).1
 ·have aZ:g.own b=some y:=hb;simp only[G.newPer];have:=Ct hs aZ;rw[if_neg Zx];exact hs.excl b y aZ
theorem IA (hs:Sat H g w):Stp H g w H g w.drew:=by
 have aU:Le g w g w.drew:=⟨fun _ h=>⟨h,rfl⟩,fun _ _ h=>h,Jt _,fun _ _ _ h=>h,rfl,rfl,rfl⟩;have hk:∀l,C0 g w g w.drew l:=fun l b q hb=>⟨hb,rfl⟩;exact⟨aU,fun l _ hn=>⟨hn,fun b q hb=>hk l b q hb⟩,⟨hs.fresh,hs.names,hs.excl,hs.named,fun l=>SatObj.keep_all hs aU hk l⟩⟩
theorem Nn (w:World)(cs:Array Value)(T:TypeId)(j:Nat):(w.alloc (.cells cs T)).cell? ⟨w.heap.size,j,none⟩=cs[j]?:=
 World.cell?_alloc_new w cs T j
theorem Ga {v:V}{u:Value}(h:RepV w g v u)(hn:v.cells≠[]) :
  u.cells.size=v.cells.length∧∀(j:Nat) (c:C) (x:Value),v.cells[j]? = some c→u.cells[j]? = some x→RepC w g c x:=by
 cases h with
 |c x v h=>
  have h1:=h.one;have hu:u.cells=#[u]:=by cases u <;> simp_all[Value.cells,Value.oneCell']
  rw[hu];refine⟨rfl,fun j c y e1 e2=>?_⟩
  cases j with
  |zero=>simp[V.cells]at e1 e2;subst e1;subst e2;exact h
  |succ j=>simp[V.cells]at e1
 |ag cs vs hl hh=>
  refine⟨by simpa[Value.cells,V.cells]using hl,fun j c y e1 e2=>hh j c y e1 (by simpa[Value.cells]using e2)⟩
 |_=>simp[V.cells]at hn
theorem Qb3k {x:Opd}{x':Operand}{t:TypeId}(hm:o.op=.box t x')(hx:mO x x'=true)
  (hs:Sat H g w) (he:EnvOk w g e a) (hp:p=true) (ho:(FOp.box x).obl p e H):FOk P H g w e a o (.box x):=by
 simp only[FOp.obl]at ho;obtain⟨h1,h2⟩:=ho;have hr:=An he hx hp h1;obtain⟨hz,hc⟩:=Ga hr h2;have aL:=Q9r hs (.cells (a.eval x').cells t);refine⟨.pointer (some ⟨w.heap.size,0,none⟩),w.alloc (.cells (a.eval x').cells t),g.newPer w.heap.size,?_,aL,?_,trivial⟩
 ·simp[execOp,hm,Instr.box,newVar,newRow]
 ·simp only[FOp.val];have bE:∀(j:Nat) (c:C),(x.v e).cells[j]? = some c→∃y,(a.eval x').cells[j]? = some y∧RepC w g c y:=by
   intro j c hj;have ae:j<(a.eval x').cells.size:=by
    rw[hz];rcases Jh j (x.v e).cells.length with h|h
    ·exact h
    ·rw[Jf h]at hj;simp at hj
   exact⟨_,Jd ae,hc j c _ hj (Jd ae)⟩
  refine .c _ _ (.pp _ _ 0 (fun j=>(a.eval x').cells.getD j undef) (by simp[G.newPer]) (fun j c hj=>?_) (fun j c hj=>?_))
  ·obtain⟨y,e1,e2⟩:=bE j c hj;rw[J6,Nn];simp[e1]
  ·obtain⟨y,e1,e2⟩:=bE j c hj;simp only[Jc,e1,Jz];exact e2.mono aL.le
theorem Qb3y {f:Nat}{caps:List Opd}{caps':Array Operand}(hm:o.op=.makeFunc (.func f) #[] caps')(hl:caps.length=caps'.size)
  (hx:∀(j:Nat) (x:Opd) (y:Operand),caps[j]? = some x→caps'[j]? = some y→mO x y=true)
  (hs:Sat H g w) (he:EnvOk w g e a) (hp:p=true) (ho:(FOp.mkf f caps).obl p e H):FOk P H g w e a o (.mkf f caps):=by
 simp only[FOp.obl]at ho;refine .mk' hs (v:=.func (.func f) #[] (caps'.toList.map a.eval).toArray) ?_ ?_ trivial
 ·simp only[execOp,hm,Instr.makeFunc,Sem.run_bind,Sem.run_pure,Result.andThen_ok];congr 4 <;> (apply Jag;simp)
 ·simp only[FOp.val];refine .c _ _ (.fn f _ _ Za8 fun j c u h1 h2=>?_);simp only[Jl]at h1 h2
  cases hj:caps[j]? with
  |none=>rw[hj]at h1;simp at h1
  |some x=>
   rw[hj]at h1;simp at h1;subst h1
   cases cw:caps'[j]? with
   |none=>simp[cw]at h2
   |some y=>
    simp[cw]at h2;subst h2;obtain⟨f1,f2⟩:=ho x (Jg hj);have:=An he (hx j x y hj cw) hp f1;rw[Bv f2]at this;exact this.aR
def mOpt:Option Opd→Option Operand→Bool
 |none,none=>true
 |some x,some y=>mO x y
 |_,_=>false
theorem CM (he:EnvOk w g e a)(hp:p=true){x:Option Opd}{y:Option Operand}(h:mOpt x y=true)(hf:optF p x e)(hi:optI x e) :
  y.map a.eval=(x.map fun z=>Ag (z.v e)).map fun n=>Value.int .i64 n:=by
 cases x with
 |none=>cases y with
  |none=>rfl
  |some _=>simp[mOpt]at h
 |some x=>cases y with
  |none=>simp[mOpt]at h
  |some y=>
   simp only[mOpt]at h;simp only[optF]at hf;simp only[optI]at hi;simp only[Jq,Cg he h hp hf hi]
theorem Tb (isS:Bool)(len cap:Nat)(lo hi:Option Int)(tF:len≤cap)(hb:bnds lo hi len)(w:World) :
  (Instr.sliceBounds isS len cap (lo.map fun n=>Value.int .i64 n) (hi.map fun n=>Value.int .i64 n) none).run P w=.ok ((lo.getD 0).toNat,(hi.getD len).toNat,cap) w:=by
 obtain⟨b1,b2,b3⟩:=hb;unfold Instr.sliceBounds
 cases hi with
 |none=>
  cases lo with
  |none=>simp
  |some l=>
   simp only[Jz,Jae]at b1 b2 b3;simp only[Jq,J5,Sem.run_bind,Instr.sliceBound,asIntOf,Sem.run_pure,Result.andThen_ok];rw[if_pos Zx];simp
 |some h=>
  cases lo with
  |none=>
   simp only[Jz,Jae]at b1 b2 b3;simp only[Jq,J5,Sem.run_bind,Instr.sliceBound,asIntOf,Sem.run_pure,Result.andThen_ok];rw[if_pos Zx];simp
  |some l=>
   simp only[Jz]at b1 b2 b3;simp only[Jq,Sem.run_bind,Instr.sliceBound,asIntOf,Sem.run_pure,Result.andThen_ok];rw[if_pos Zx];simp only[Sem.run_pure,Result.andThen_ok];rw[if_pos Zx];simp
theorem Qb31 {x:Opd}{lo hi:Option Opd}{x':Operand}{lo' bO:Option Operand}{t el:TypeId}{i:TypeInfo}{sz:Nat}(hm:o.op=.slice t x' lo' bO none)(hu:P.underlying t=some (.slice el))
  (mh:P.info? el=some i) (hz:i.size=sz) (hx:mO x x'=true) (oY:mOpt lo lo'=true) (rX:mOpt hi bO=true)
  (hs:Sat H g w) (he:EnvOk w g e a) (hp:p=true) (ho:(FOp.sli sz x lo hi).obl p e H):FOk P H g w e a o (.sli sz x lo hi):=by
 simp only[FOp.obl]at ho;obtain⟨h1,h2,h3,h4,h5,h6,h7,h8,hb⟩:=ho;have hr:=An he hx hp h1;have el:=CM he hp oY h2 h4;have eh:=CM he hp rX h3 h5;generalize hL:(lo.map fun z=>Ag (z.v e))=L at *;generalize hU:(hi.map fun z=>Ag (z.v e))=U at *;rw[Bv h6]at hr;generalize hq:a.eval x'=vv at hr;have run:∀(ad:Option Addr) (len cap:Nat),vv=.slice ad len cap→len≤cap→bnds L U len→
   (execOp a.eval o).run P w=.ok (.value (.slice (if cap=(L.getD 0).toNat then ad else ad.map (·.add ((L.getD 0).toNat * sz))) ((U.getD len).toNat-(L.getD 0).toNat) (cap-(L.getD 0).toNat))) w:=by
  intro ad len cap hv tF hbb;simp only[execOp,hm,hq,hv,Instr.sliceAt,Sem.run_bind,A0 hu,Result.andThen_ok,el,eh,J5,Instr.slice,Tb (P:=P) true len cap L U tF hbb w,Bi mh,hz,Sem.run_pure]
 have fin:∀r v,(execOp a.eval o).run P w=.ok (.value v) w→RepC w g r v→sliC L U (x.v e).c1=r→FOk P H g w e a o (.sli sz x lo hi):=by
  intro r v h1 h2 h3;refine .mk' hs h1 ?_ trivial;simp only[FOp.val,hL,hU,h3];exact .c _ _ h2
 generalize hc:(x.v e).c1=cc at *;have jc:=hr.aR
 cases jc with
 |bP fl sz' ad=>
  have aZ:bnds L U 0:=hb;have bX:=aZ;obtain⟨b1,b2,b3⟩:=bX;refine fin (sliC L U (.sl fl sz' [])) _ (run ad 0 0 rfl (Jt _) aZ) ?_ rfl;have e1:(L.getD 0).toNat=0:=Zx
  have e2:(U.getD ((0:Nat):Int)).toNat=0:=Zx
  simp only[e1,e2,sliC];simp;exact .bP _ _ _
 |sl fl sz' rows b off cap val hl hf eC cW fg qt mQ=>
  simp only[ay]at hb;simp only[C.aO]at h8;subst h8;obtain⟨b1,b2,b3⟩:=hb;refine fin (sliC L U (.sl fl sz' rows)) _ (run _ _ cap rfl eC ⟨b1,b2,b3⟩) ?_ rfl;simp only[sliC];generalize qp:(L.getD 0).toNat=ln;generalize om:(U.getD (rows.length:Int)).toNat=un;have q1:ln≤un:=Zx
  have q2:un≤rows.length:=Zx
  have am:((rows.take un).drop ln).length=un-ln:=ZD
  have aK:∀(i:Nat) (row:List C),((rows.take un).drop ln)[i]? = some row→rows[ln+i]? = some row:=by
   intro i row hi;simp only[Js,Jp]at hi;split at hi
   ·exact hi
   ·simp at hi
  by_cases cm:cap=ln
  ·rw[if_pos cm];have ku:(rows.take un).drop ln=[]:=Jw.1 Zx;have q3:un-ln=0:=Zx
   have q4:cap-ln=0:=Zx
   rw[ku,q3,q4];exact RepC.sl _ _ [] b off 0 val (by simp[CY]) Zz Zz cW Zz Zz Zz
  ·rw[if_neg cm];simp only[Jq,Ck];rw[←am];refine .sl _ _ _ b _ _ (fun i j=>val (ln+i) j) ZY (fun gA=>?_) ZY cW (fun i row h=>fg _ _ (aK i row h)) (fun i row j c h hj=>?_) (fun i row j c h hj=>mQ _ _ _ _ (aK i row h) hj)
   ·rw[Ja]at gA;rcases Jah _ _▸gA.2 with h0|h0
    ·have:U=none:=(by simpa using h0);subst this;simp at om;rw[am,hf gA.1];omega
    ·have:rows=[]:=(by simpa using h0);subst this;have:=hf gA.1;simp at this q2;omega
   ·have:=qt _ _ _ _ (aK i row h) hj;rw[←this];congr 2;rw[Jk];omega
 |bS l sz' st ad=>
  have aZ:bnds L U 0:=hb;have bX:=aZ;obtain⟨b1,b2,b3⟩:=bX;refine fin (sliC L U (.af l sz' st 0)) _ (run ad 0 0 rfl (Jt _) aZ) ?_ rfl;have e1:(L.getD 0).toNat=0:=Zx
  have e2:(U.getD ((0:Nat):Int)).toNat=0:=Zx
  simp only[e1,e2,sliC];simp;exact .bS _ _ _ _
 |af l sz' st n cap b base T m bR hn gI dV=>
  simp only[ay]at hb;simp only[C.aO]at h8;subst h8;obtain⟨b1,b2,b3⟩:=hb;refine fin (sliC L U (.af l sz' st n)) _ (run _ _ cap rfl hn ⟨b1,b2,b3⟩) ?_ rfl;simp only[sliC];generalize qp:(L.getD 0).toNat=ln;generalize om:(U.getD (n:Int)).toNat=un;by_cases cm:cap=ln
  ·rw[if_pos cm];have q3:un-ln=0:=Zx
   have q4:cap-ln=0:=Zx
   rw[q3,q4];exact .bS _ _ _ _
  ·rw[if_neg cm];simp only[Jq,Ck];have:base+st * sz'+ln * sz'=base+(st+ln) * sz':=ZaU
   rw[this];refine .af _ _ _ _ _ b base T m bR Zx gI ?_;have:st+ln+(cap-ln)=st+cap:=Zx
   rw[this];exact dV
 |_=>simp[bh]at h7
theorem Qb2i {x:Opd}{lo hi:Option Opd}{x':Operand}{lo' bO:Option Operand}{t:TypeId}(hm:o.op=.slice t x' lo' bO none)(hu:P.underlying t=some .string)
  (hx:mO x x'=true) (oY:mOpt lo lo'=true) (rX:mOpt hi bO=true)
  (hs:Sat H g w) (he:EnvOk w g e a) (hp:p=true) (ho:(FOp.slis x lo hi).obl p e H):FOk P H g w e a o (.slis x lo hi):=by
 simp only[FOp.obl]at ho;obtain⟨h1,h2,h3,h4,h5,hb⟩:=ho;have hr:=An he hx hp h1;have el:=CM he hp oY h2 h4;have eh:=CM he hp rX h3 h5;generalize hL:(lo.map fun z=>Ag (z.v e))=L at *;generalize hU:(hi.map fun z=>Ag (z.v e))=U at *;split at hb
 ·rename_i s hv
  rw[hv]at hr;obtain⟨hq,hl⟩:=hr.aR.str_inv;have ja:(⟨s.toArray⟩:ByteArray).extract (L.getD 0).toNat (U.getD s.length).toNat=⟨((s.take (U.getD s.length).toNat).drop (L.getD 0).toNat).toArray⟩:=by
   apply Ja6;apply Jag;simp[Jac,Ja1]
  refine .mk' hs (v:=.string ⟨((s.take (U.getD s.length).toNat).drop (L.getD 0).toNat).toArray⟩) ?_ ?_ trivial
  ·simp only[execOp,hm,hq,Instr.sliceAt,Sem.run_bind,A0 hu,Result.andThen_ok,el,eh,J5,Instr.slice,Fd,Sem.run_pure];simp only[Option.isSome_none,Ju,if_false,Sem.run_bind,Sem.run_pure,Result.andThen_ok];rw[Tb (P:=P) false s.length s.length L U (Jt _) hb w];simp[ja]
  ·simp only[FOp.val,hv,hL,hU];refine .c _ _ (.str _ ?_);simp;omega
 ·exact hb.elim
theorem Qb3q {sz n:Nat}{x y:Opd}{x' y':Operand}{t el:TypeId}{i:TypeInfo}(hm:o.op=.indexAddr t x' y')(hu:P.underlying t=some (.array n el))
  (hi:P.info? el=some i) (hz:i.size=sz) (hx:mO x x'=true) (hy:mO y y'=true)
  (hs:Sat H g w) (he:EnvOk w g e a) (hp:p=true) (ho:(FOp.iaa sz n x y).obl p e H):FOk P H g w e a o (.iaa sz n x y):=by
 simp only[FOp.obl]at ho;obtain⟨h1,h2,h6,h7,h8,h9⟩:=ho;have hr:=An he hx hp h1;have hn:=Cg he hy hp h2 h6;split at h9
 ·rename_i l k hv
  rw[hv]at hr;have ef:=hr.aR;generalize hq:a.eval x'=xv at ef
  cases ef with
  |ptr _ _ b s base bR=>
   refine .mk' hs (v:=.pointer (some ⟨b,base+k+(Ag (y.v e)).toNat * sz,none⟩)) ?_ ?_ trivial
   ·simp only[execOp,hm,hq,hn,Instr.indexAt,Sem.run_bind,asIntOf,Sem.run_pure,Result.andThen_ok,A0 hu,Instr.sureAddr];rw[if_pos ⟨h7,h8⟩];simp[Bi hi,hz,Ck]
   ·simp only[FOp.val,hv];have e:base+k+(Ag (y.v e)).toNat * sz=base+(k+(Ag (y.v e)).toNat * sz):=Zx;rw[e];exact .c _ _ (.ptr l _ b s base bR)
 ·exact h9.elim
theorem Qb3v {n b l:Nat}{t:TypeId}{d:TypeDesc}{i:TypeInfo}(hm:o.op=.load t (.global b))(hu:P.underlying t=some d)(hi:P.info? t=some i)(ha:BW d=true)(hn:i.size=n)
  (hs:Sat H g w) (ho:(FOp.ldg n b l).obl p e H):FOk P H g w e a o (.ldg n b l):=by
 simp only[FOp.obl]at ho;split at ho
 ·rename_i b' cells hH
  obtain⟨rfl,h2⟩:=ho;have bn:=hs.objs l;rw[hH]at bn;obtain⟨s,val,k1,k2,k3,k4⟩:=bn;have hq:a.eval (.global b')=.pointer (some ⟨b',0,none⟩):=rfl;have hc:∀j,j<n→w.cell? ⟨b',0+j,none⟩=some (val j):=fun j hj=>by
   rw[J6];exact k3 j _ (Je Zx)
  have hr:=Ri hu hi w b' 0 n val (fun _=>hn) (fun h=>by rw[ha]at h;simp at h) hc;refine .mk' hs (v:=.agg ((List.range n).map val).toArray) ?_ ?_ trivial
  ·simp only[execOp,hm,hq,Instr.loadAt,Instr.sureAddr,Sem.run_bind,Sem.run_pure,Result.andThen_ok,hr,ha,if_true]
  ·simp only[FOp.val,hH];refine .ag _ _ ZD fun j c u h1 h2=>?_;rw[Jp]at h1;split at h1
   ·rename_i hj
    simp[hj]at h2;subst h2;exact k4 j c h1
   ·simp at h1
 ·exact ho.elim
theorem Qb3s {sz n:Nat}{x y:Opd}{x' y':Operand}{t el:TypeId}{d:TypeDesc}{i:TypeInfo}(hm:o.op=.index t x' y')(hu:P.underlying t=some (.array n el))
  (hd:P.underlying el=some d) (ha:BW d=true) (hi:P.info? el=some i) (hz:i.size=sz) (hx:mO x x'=true) (hy:mO y y'=true)
  (hs:Sat H g w) (he:EnvOk w g e a) (hp:p=true) (ho:(FOp.iax sz n x y).obl p e H):FOk P H g w e a o (.iax sz n x y):=by
 simp only[FOp.obl]at ho;obtain⟨h1,h2,h6,h7,h8,h9,cS⟩:=ho;have hr:=An he hx hp h1;have hn:=Cg he hy hp h2 h6;have hv:∃cs,x.v e=.ag cs:=by cases hv:x.v e <;> simp_all[V.isAg]
 obtain⟨cs,hv⟩:=hv;rw[hv]at hr cS;simp only[V.cells]at cS;obtain⟨vs,hq,hl,hh⟩:=hr.ag_inv;refine .mk' hs (v:=.agg ((vs.drop ((Ag (y.v e)).toNat * sz)).take sz).toArray) ?_ ?_ trivial
 ·simp only[execOp,hm,hq,hn,Instr.index,Sem.run_bind,asIntOf,Sem.run_pure,Result.andThen_ok,A0 hu];rw[if_pos ⟨h7,h8⟩];simp only[Sem.run_bind,Bi hi,hz,Result.andThen_ok,part,DG hd,ha,if_true,Sem.run_pure];congr 4;apply Jag;simp[Jac,Ja1]
 ·simp only[FOp.val,hv,V.cells];refine .ag _ _ Za8 fun j c u h1 h2=>?_;simp only[Jp,Js]at h1 h2;split at h1
  ·rename_i hj;rw[if_pos hj]at h2;exact hh _ _ _ h1 h2
  ·simp at h1
theorem Qb2b {n:Nat}{x:Opd}{x':Operand}{hi:Option Opd}{bO:Option Operand}{t el:TypeId}{i:TypeInfo}(hm:o.op=.slice t x' none bO none)(ee:P.underlying t=some (.array n el))
  (mh:P.info? el=some i) (hx:mO x x'=true) (rX:mOpt hi bO=true)
  (hs:Sat H g w) (he:EnvOk w g e a) (hp:p=true) (ho:(FOp.aslp n x hi).obl p e H):FOk P H g w e a o (.aslp n x hi):=by
 simp only[FOp.obl]at ho;obtain⟨h1,h3,h5,hb,eA,h2⟩:=ho;have hr:=An he hx hp h1;have eh:=CM he hp rX h3 h5;have kr:(hi.map fun z=>Ag (z.v e)).isNone=hi.isNone:=by cases hi <;> rfl
 split at h2
 ·rename_i cells hv
  rw[hv]at hr;have ef:=hr.aR;generalize hq:a.eval x'=xv at ef
  cases ef with
  |pp _ b off val cW hc mQ=>
   have eL:(FOp.aslp n x hi).val e H=.c (.sl hi.isNone 1 ((cells.take ((hi.map fun x=>Ag (x.v e)).getD n).toNat).map fun c=>[c])):=by simp only[FOp.val,hv]
   rw[←kr]at eL;generalize hU:(hi.map fun z=>Ag (z.v e))=U at *;have cH:=Tb (P:=P) false n n none U (Jt _) hb w;have eH:=hb;obtain⟨b1,b2,b3⟩:=eH;simp only[Jae,J5]at b1 b2 b3 cH;have e0:(U.getD (n:Int)).toNat≤n:=Zx
   refine .mk' hs (v:=.slice (some ⟨b,off,none⟩) (U.getD n).toNat n) ?_ ?_ trivial
   ·simp only[execOp,hm,hq,Instr.sliceAt,Sem.run_bind,A0 ee,Result.andThen_ok,Instr.sureAddr,Sem.run_pure,eh,J5,cH,Bi mh];have ha:(⟨b,off,none⟩:Addr).add (0 * i.size)=⟨b,off,none⟩:=(by rw[Nat.zero_mul,Ck,J0]);by_cases hn:n=0
    ·subst hn;simp
    ·simp[hn,ha];try rw[Ck,J0]
   ·rw[eL];have am:((cells.take (U.getD (n:Int)).toNat).map fun c=>[c]).length=(U.getD (n:Int)).toNat:=ZD;have aK:∀(k:Nat) (row:List C),((cells.take (U.getD (n:Int)).toNat).map fun c=>[c])[k]? = some row→∃c,row=[c]∧cells[k]? = some c:=by
     intro k row hk;rw[Jl,Jp]at hk;split at hk
     ·cases jc:cells[k]? with
      |none=>rw[jc]at hk;simp at hk
      |some c=>rw[jc]at hk;simp at hk;exact⟨c,hk.symm,rfl⟩
     ·simp at hk
    have:=RepC.sl (w:=w) (g:=g) U.isNone 1 ((cells.take (U.getD (n:Int)).toNat).map fun c=>[c]) b off n (fun k _=>val k) ZY
     (fun hu=>by
      have:U=none:=(by simpa using hu);subst this;rw[am];simp) ZY cW (fun k row hk=>by obtain⟨c,rfl,_⟩:=aK k row hk;rfl)
     (fun k row j c hk hj=>by
      obtain⟨c',rfl,cz⟩:=aK k row hk
      cases j with
      |zero=>simp only[Nat.mul_one,J0];exact hc k c' cz
      |succ j=>simp at hj)
     (fun k row j c hk hj=>by
      obtain⟨c',rfl,cz⟩:=aK k row hk
      cases j with
      |zero=>simp at hj;subst hj;exact mQ k c' cz
      |succ j=>simp at hj)
    rw[am]at this;exact .c _ _ this
 ·exact h2.elim
theorem s_slm {sz:Nat}{x hi:Opd}{x' pV qC:Operand}{t el:TypeId}{i:TypeInfo}(hm:o.op=.slice t x' none (some pV) (some qC))(hu:P.underlying t=some (.slice el))
  (mh:P.info? el=some i) (hx:mO x x'=true) (hh1:mO hi pV=true) (hh2:mO hi qC=true)
  (hs:Sat H g w) (he:EnvOk w g e a) (hp:p=true) (ho:(FOp.slm sz x hi).obl p e H):FOk P H g w e a o (.slm sz x hi):=by
 simp only[FOp.obl]at ho;obtain⟨h1,h2,h3,h4,h5⟩:=ho;have hr:=An he hx hp h1;have e1:=Cg he hh1 hp h2 h3;have e2:=Cg he hh2 hp h2 h3;split at h5
 ·rename_i fl z rows hv
  obtain⟨rfl,h6⟩:=h5;rw[hv]at hr;have ef:=hr.aR;have eL:(FOp.slm z x hi).val e H=.c (.sl true z (rows.take (Ag (hi.v e)).toNat)):=by simp only[FOp.val,hv]
  generalize Ag (hi.v e)=n at *;obtain⟨n,rfl⟩:=Int.eq_ofNat_of_zero_le h4;have h7:n≤rows.length:=Zx
  simp only[Jaq]at eL;generalize hq:a.eval x'=xv at ef;have run:∀(ad:Option Addr) (len cap:Nat),xv=.slice ad len cap→n≤cap→
    (execOp a.eval o).run P w=.ok (.value (.slice (if n=0 then ad else ad.map (·.add (0 * i.size))) n n)) w:=by
   intro ad len cap jj eC;have hb:(Instr.sliceBounds true len cap none (some (.int .i64 (n:Int))) (some (.int .i64 (n:Int)))).run P w=.ok (0,n,n) w:=by
    unfold Instr.sliceBounds;simp only[Sem.run_bind,Instr.sliceBound,asIntOf,Sem.run_pure,Result.andThen_ok];rw[if_pos ⟨Ja7 _,Zx⟩];simp only[Sem.run_pure,Result.andThen_ok,Jaq];rw[if_pos ⟨Ja7 _,Int.le_refl _⟩];simp only[Sem.run_pure,Result.andThen_ok,Jaq]
   simp only[execOp,hm,hq,jj,Instr.sliceAt,Sem.run_bind,A0 hu,Result.andThen_ok,e1,e2,Jq,J5,Instr.slice,hb,Bi mh,Sem.run_pure,Nat.sub_zero]
  cases ef with
  |bP _ _ ad=>
   have h0:n=0:=by simpa using h7
   subst h0;refine .mk' hs (run ad 0 0 rfl (Jt _)) ?_ trivial;rw[eL];exact .c _ _ (.bP _ _ _)
  |sl _ _ _ b off cap val hl hf eC cW fg qt mQ=>
   refine .mk' hs (run _ _ cap rfl Zx) ?_ trivial;rw[eL];have ha:(if n=0 then (some ⟨b,off,none⟩:Option Addr)else (some ⟨b,off,none⟩:Option Addr).map (·.add (0 * i.size)))=some ⟨b,off,none⟩:=by
    split
    ·rfl
    ·simp only[Jq,Nat.zero_mul,Ck,J0]
   rw[ha];have am:(rows.take n).length=n:=ZD
   have aK:∀(k:Nat) (row:List C),(rows.take n)[k]? = some row→rows[k]? = some row:=by
    intro k row hk;rw[Jp]at hk;split at hk
    ·exact hk
    ·simp at hk
   have:=RepC.sl (w:=w) (g:=g) true z (rows.take n) b off n val ZY (fun _=>by rw[am]) (by rw[am];exact Jt _) cW (fun k row hk=>fg _ _ (aK k row hk))
    (fun k row j c hk hj=>qt _ _ _ _ (aK k row hk) hj) (fun k row j c hk hj=>mQ _ _ _ _ (aK k row hk) hj)
   rw[am]at this;exact .c _ _ this
 ·exact h5.elim
theorem Qb3p {off n:Nat}{agg:Bool}{x:Opd}{x':Operand}{s:TypeId}{k:Nat}{fs:Array Field}{f:Field}{i:TypeInfo}{d:TypeDesc}(hm:o.op=.field s x' k)(hu:P.underlying s=some (.struct fs))
  (hf:fs[k]? = some f) (lU:f.offset=off) (hi:P.info? f.type=some i) (hd:P.underlying f.type=some d) (ha:BW d=agg) (hn:agg=true→i.size=n) (dk:agg=false→n=1) (hx:mO x x'=true)
  (hs:Sat H g w) (he:EnvOk w g e a) (hp:p=true) (ho:(FOp.fld off n agg x).obl p e H):FOk P H g w e a o (.fld off n agg x):=by
 simp only[FOp.obl]at ho;obtain⟨h1,h2,h3⟩:=ho;have hr:=An he hx hp h1;have hv:∃cs,x.v e=.ag cs:=by cases hv:x.v e <;> simp_all[V.isAg]
 obtain⟨cs,hv⟩:=hv;rw[hv]at hr h3;simp only[V.cells]at h3;obtain⟨vs,hq,hl,hh⟩:=hr.ag_inv
 cases agg with
 |true=>
  have hz:=hn rfl;refine .mk' hs (v:=.agg ((vs.drop off).take n).toArray) ?_ ?_ trivial
  ·simp only[execOp,hm,hq,Instr.field,Sem.run_bind,A0 hu,Result.andThen_ok,hf,asAgg,Sem.run_pure,part,DG hd,ha,if_true,Bi hi,hz,lU];congr 4;apply Jag;simp[Jac,Ja1]
  ·simp only[FOp.val,Cq,hv,V.cells,if_true];refine .ag _ _ ZD fun j c u h1 h2=>?_;simp only[Jp,Js]at h1 h2;split at h1
   ·rename_i hj;rw[if_pos hj]at h2;exact hh _ _ _ h1 h2
   ·simp at h1
 |false=>
  have hz:=dk rfl;subst hz;have ae:off<vs.length:=Zx
  refine .mk' hs (v:=vs[off]) ?_ ?_ trivial
  ·simp only[execOp,hm,hq,Instr.field,Sem.run_bind,A0 hu,Result.andThen_ok,hf,asAgg,Sem.run_pure,part,DG hd,ha,lU];simp[ae]
  ·simp only[FOp.val,Cq,hv,V.cells,Ju,if_false];have dW:off<cs.length:=Zx
   have:((cs.drop off).take 1).headD .unk=cs[off]:=by
    rw[List.drop_eq_getElem_cons dW];rfl
   rw[this];exact .c _ _ (hh off _ _ (Je dW) (Je ae))
theorem Rr (off:Nat):∀(vs:List Value) (s:Nat) (cs:Array Value) (k:Nat),off+s+vs.length≤cs.size→
  ((vs.zipIdx s).foldl (fun (cs:Array Value) (x:Value×Nat)=>cs.setIfInBounds (off+x.2) x.1) cs).size=cs.size∧
  ((vs.zipIdx s).foldl (fun (cs:Array Value) (x:Value×Nat)=>cs.setIfInBounds (off+x.2) x.1) cs)[k]? =
   if off+s≤k∧k<off+s+vs.length then vs[k-(off+s)]? else cs[k]?
 |[],s,cs,k,_=>by
  refine⟨rfl,?_⟩;rw[if_neg (by simp only[Jax];omega)];rfl
 |v::vs,s,cs,k,h=>by
  simp only[J9]at h;have ih:=Rr off vs (s+1) (cs.setIfInBounds (off+s) v) k ZD;simp only[List.zipIdx_cons,List.foldl_cons];refine⟨by rw[ih.1];simp,?_⟩;rw[ih.2];simp only[J9];by_cases h1:off+(s+1)≤k∧k<off+(s+1)+vs.length
  ·rw[if_pos h1,if_pos Zx];have:k-(off+s)=(k-(off+(s+1)))+1:=Zx
   rw[this,List.getElem?_cons_succ]
  ·rw[if_neg h1];by_cases h2:k=off+s
   ·subst h2;rw[if_pos Zx];simp only[Nat.sub_self,List.getElem?_cons_zero];rw[Jy Zx]
   ·rw[if_neg Zx,Jr Zx]
theorem Kj {place:Nat→Option (Nat×Nat)}{cells:Array Value}{i off sz:Nat}{v:Value}{rest:List (Nat×Value)}(hp:place i=some (off,sz))(hz:v.cells.size=sz)
  (hb:off+sz≤cells.size):∃cs:Array Value,Instr.fill place cells ((i,v)::rest)=Instr.fill place cs rest∧cs.size=cells.size∧
   ∀k,cs[k]? = if off≤k∧k<off+sz then v.cells[k-off]? else cells[k]?:=by
 have hf:=fun k=>Rr off v.cells.toList 0 cells k ZD;refine⟨v.cells.zipIdx.foldl (fun (cs:Array Value) (x:Value×Nat)=>cs.setIfInBounds (off+x.2) x.1) cells,?_,?_,fun k=>?_⟩
 ·simp only[Instr.fill,hp];rw[if_neg ZD]
 ·rw[←Ja4,Ja2];exact (hf 0).1
 ·rw[←Ja4,Ja2,(hf k).2];simp only[J0,Array.length_toList,hz,Jv]
def RepL (w:World)(g:G)(cs:List C)(vs:Array Value):Prop:=
 vs.size=cs.length∧∀(j:Nat) (c:C) (u:Value),cs[j]? = some c→vs[j]? = some u→RepC w g c u
theorem RepL.put {cs ps:List C}{vs us vs':Array Value}{off:Nat}(h:RepL w g cs vs)(hp:RepL w g ps us)(hb:off+ps.length≤cs.length)(bz:vs'.size=vs.size)
  (hv:∀k,vs'[k]? = if off≤k∧k<off+ps.length then us[k-off]? else vs[k]?) :
  RepL w g (cs.take off++ps++cs.drop (off+ps.length)) vs':=by
 refine⟨by rw[bz,h.1];simp;omega,fun j c u h1 h2=>?_⟩;rw[hv]at h2;by_cases hj:off≤j∧j<off+ps.length
 ·rw[if_pos hj]at h2;rw[Jx,Jm ZD,Jj ZD]at h1;refine hp.2 _ c u ?_ h2;rw[←h1];congr 1;simp;omega
 ·rw[if_neg hj]at h2;refine h.2 j c u ?_ h2;by_cases hl:j<off
  ·rw[Jx,Jj ZD,Jp,if_pos hl]at h1;exact h1
  ·rw[Jm ZD,Js]at h1;rw[←h1];congr 1;simp;omega
def Dv:C→Value→Bool
 |.int k n,.int k' n'=>k == k'&&n == n'
 |.bool b,.bool b'=>b == b'
 |.str [],.string b=>decide (b.data.toList=[])
 |.sl _ _ [],.slice none 0 0=>true
 |.pnil,.pointer none=>true
 |.mnil,.map none=>true
 |.fnil,.nilFunc=>true
 |_,_=>false
theorem P2 {c:C}{v:Value}(h:Dv c v=true):RepC w g c v:=by
 unfold Dv at h;split at h
 ·simp at h;obtain⟨rfl,rfl⟩:=h;exact .int _ _
 ·simp at h;subst h;exact .bool _
 ·rename_i b
  have hb:b=⟨([]:List UInt8).toArray⟩:=by
   apply Ja6;apply Jag;simpa using h
  rw[hb];exact .str _ (by simp[CY])
 ·exact .bP _ _ _
 ·exact .pnil
 ·exact .mnil
 ·exact .fnil
 ·simp at h
def BD (cs:List C)(v:Value):Bool:=cs.length == v.cells.size&&(cs.zip v.cells.toList).all fun x=>Dv x.1 x.2
theorem Hg {cs:List C}{v:Value}(h:BD cs v=true):RepL w g cs v.cells:=by
 unfold BD at h;rw[Ja,Jad]at h;obtain⟨h1,h2⟩:=h;refine⟨by simpa using (beq_iff_eq.1 h1).symm,fun j c u e1 e2=>P2 (h2 (c,u) ?_)⟩;have:(cs.zip v.cells.toList)[j]? = some (c,u):=by
  rw[List.getElem?_zip_eq_some];exact⟨e1,ZS⟩
 exact Jg this
theorem DW {t:TypeId}{i:TypeInfo}{z:Value}(hi:P.info? t=some i)(hz:i.zero=some z)(w:World):(zeroValue t).run P w=.ok z w:=by
 simp[zeroValue,Hs hi,hz]
theorem Qavn (fs:List Field)(h:∀f∈fs,∃i,P.info? f.type=some i)(w:World) :
  (fs.mapM fun f=>(do pure (f.offset,←sizeOf f.type):Sem (Nat×Nat))).run P w=.ok (fs.map fun f=>(f.offset,P.cellsOf f.type)) w:=by
 induction fs with
 |nil=>simp
 |cons f fs ih=>
  obtain⟨i,hi⟩:=h f Zz;have ih':=ih fun f hf=>h f (by simp[hf]);simp only[List.mapM_cons,Sem.run_bind,Bi hi,Result.andThen_ok,Sem.run_pure,ih',Ja9,Qazj hi]
theorem L8 (place:Nat→Option (Nat×Nat)):∀(parts:List (Nat×Nat×List C)) (ps:List (Nat×Value)) (cells:Array Value) (cs:List C),
  RepL w g cs cells→ps.length=parts.length→
  (∀(j:Nat) (x:Nat×Nat×List C) (y:Nat×Value),parts[j]? = some x→ps[j]? = some y→place y.1=some (x.1,x.2.1)∧x.2.2.length=x.2.1∧x.1+x.2.1≤cs.length∧RepL w g x.2.2 y.2.cells)→
  ∃out,Instr.fill place cells ps=some out∧RepL w g (Rq cs (parts.map fun x=>(x.1,x.2.2))) out
 |[],[],cells,cs,h,_,_=>⟨cells,rfl,h⟩
 |[],y::ps,_,_,_,hl,_=>by simp at hl
 |x::parts,[],_,_,_,hl,_=>by simp at hl
 |x::parts,(i,v)::ps,cells,cs,h,hl,hh=>by
  obtain⟨h1,h2,h3,h4⟩:=hh 0 x (i,v) rfl rfl;obtain⟨cs',f1,f2,f3⟩:=Kj (rest:=ps) (cells:=cells) h1 (by rw[h4.1,h2]) (by rw[h.1];exact h3);have hr:RepL w g (cs.take x.1++x.2.2++cs.drop (x.1+x.2.2.length)) cs':=h.put h4 (by rw[h2];exact h3) f2 (by rw[h2];exact f3);obtain⟨out,o1,o2⟩:=L8 place parts ps cs' _ hr Zaa (fun j x' y' e1 e2=>by
   obtain⟨q1,q2,q3,q4⟩:=hh (j+1) x' y' ZaL ZS;refine⟨q1,q2,?_,q4⟩;have:(cs.take x.1++x.2.2++cs.drop (x.1+x.2.2.length)).length=cs.length:=ZD
   rw[this];exact q3)
  exact⟨out,f1.trans o1,by simpa[Rq]using o2⟩
theorem GL {v:V}{u:Value}(h:RepV w g v u)(hn:v.cells≠[]):RepL w g v.cells u.cells:=Ga h hn
theorem Qb3j {zero:List C}{parts:List (Nat×Nat×Opd)}{t:TypeId}{parts':Array (Nat×Operand)}{fs:Array Field}{i:TypeInfo}{z:Value}
  (hm:o.op=.build t parts') (hu:P.underlying t=some (.struct fs)) (hi:P.info? t=some i) (hz:i.zero=some z) (cU:BD zero z=true)
  (pt:∀f∈fs.toList,∃i,P.info? f.type=some i) (hl:parts.length=parts'.size)
  (hx:∀(j:Nat) (x:Nat×Nat×Opd) (y:Nat×Operand),parts[j]? = some x→parts'[j]? = some y→
   mO x.2.2 y.2=true∧(∃f,fs[y.1]? = some f∧f.offset=x.1∧P.cellsOf f.type=x.2.1)∧x.1+x.2.1≤zero.length∧x.2.1≠0)
  (hs:Sat H g w) (he:EnvOk w g e a) (hp:p=true) (ho:(FOp.bld zero parts).obl p e H):FOk P H g w e a o (.bld zero parts):=by
 simp only[FOp.obl]at ho;have am:(parts'.toList.map fun (x:Nat×Operand)=>(x.1,a.eval x.2)).length=(parts.map fun q=>(q.1,q.2.1,(q.2.2.v e).cells)).length:=Za8
 obtain⟨out,f1,f2⟩:=L8 (w:=w) (g:=g) (fun (j:Nat)=>(fs.toList.map fun f=>(f.offset,P.cellsOf f.type))[j]?) (parts.map fun q=>(q.1,q.2.1,(q.2.2.v e).cells))
  (parts'.toList.map fun (x:Nat×Operand)=>(x.1,a.eval x.2)) z.cells zero (Hg cU) am (fun j x y e1 e2=>by
   simp only[Jl]at e1 e2
   cases hj:parts[j]? with
   |none=>rw[hj]at e1;simp at e1
   |some q=>
    cases cw:parts'.toList[j]? with
    |none=>rw[cw]at e2;simp at e2
    |some y'=>
     rw[hj]at e1;rw[cw]at e2;simp only[Jq,Jb]at e1 e2;subst e1;subst e2;obtain⟨m1,⟨f,m2,m3,m4⟩,m5,m6⟩:=hx j q y' hj (by simpa using cw);obtain⟨o1,o2⟩:=ho q (Jg hj);refine⟨?_,o2,m5,GL (An he m1 hp o1) (fun hn=>m6 (by rw[←o2,hn];rfl))⟩;simp only[Jl,Jv,m2,Jq,m3,m4])
 have fR:(fs.mapM fun f=>(do pure (f.offset,←sizeOf f.type):Sem (Nat×Nat))).run P w=.ok ((fs.toList.map fun f=>(f.offset,P.cellsOf f.type)).toArray) w:=by
  rw[Array.mapM_eq_mapM_toList];simp only[Sem.run_map,Qavn fs.toList pt w,Result.andThen_ok]
 refine .mk' hs (v:=.agg out) ?_ ?_ trivial
 ·simp only[execOp,hm,Instr.build,Sem.run_bind,DW hi hz,Result.andThen_ok,A0 hu,fR];have:(fun (x:Nat)=>((fs.toList.map fun f=>(f.offset,P.cellsOf f.type)).toArray)[x]?)=(fun (j:Nat)=>(fs.toList.map fun f=>(f.offset,P.cellsOf f.type))[j]?):=by
   funext j;simp
  rw[this];have rm:(parts'.map fun (x:Nat×Operand)=>(x.1,a.eval x.2)).toList=parts'.toList.map fun (x:Nat×Operand)=>(x.1,a.eval x.2):=Zz
  rw[rm,f1];simp
 ·simp only[FOp.val];have lP:out=out.toList.toArray:=Zz
  rw[lP];refine .ag _ _ ?_ ?_
  ·have:=f2.1;simp only[Jbn,Jbb]at this;simpa using this
  ·intro j c u h1 h2;refine f2.2 j c u ?_ ZT;simpa only[Jbn,Jbb]using h1
theorem FV (size:Nat):∀(ps:List (Nat×Value)) (s:Nat) (cells:Array Value),(∀(j:Nat) (y:Nat×Value),ps[j]? = some y→y.1=s+j∧y.2.cells.size=size)→
  (s+ps.length) * size≤cells.size→
  ∃out:Array Value,Instr.fill (fun i=>some (i * size,size)) cells ps=some out∧out.size=cells.size∧
   (∀k,k<s * size→out[k]? = cells[k]?)∧
   ∀(j:Nat) (y:Nat×Value) (k:Nat),ps[j]? = some y→k<size→out[(s+j) * size+k]? = y.2.cells[k]?
 |[],s,cells,_,_=>⟨cells,rfl,rfl,fun _ _=>rfl,Zz⟩
 |(i,v)::ps,s,cells,h,hb=>by
  obtain⟨h1,h2⟩:=h 0 (i,v) rfl;simp only[J0]at h1 h2;subst h1;have aZ:(i+1+ps.length) * size≤cells.size:=by
   have e:i+((i,v)::ps).length=i+1+ps.length:=by simp only[J9];omega
   rw[e]at hb;exact hb
  have kj:i * size+size≤cells.size:=by
   have:(i+1) * size≤(i+1+ps.length) * size:=Jo _ Zx;rw[Jk,Jak]at this;omega
  obtain⟨cs,f1,f2,f3⟩:=Kj (place:=fun i=>some (i * size,size)) (rest:=ps) (cells:=cells) (i:=i) (v:=v) rfl h2 kj;obtain⟨out,o1,o2,o3,o4⟩:=FV size ps (i+1) cs (fun j y hj=>by
   have:=h (j+1) y ZU;exact⟨by rw[this.1];omega,this.2⟩) (by rw[f2];exact aZ)
  refine⟨out,f1.trans o1,o2.trans f2,fun k hk=>?_,fun j y k hj hk=>?_⟩
  ·rw[o3 k ZaU,f3 k,if_neg Zx]
  ·cases j with
   |zero=>
    simp at hj;subst hj;simp only[J0];rw[o3 _ ZaU,f3 _,if_pos Zx];congr 1;omega
   |succ j=>
    have:=o4 j y k ZU hk;rw[←this];congr 3;omega
theorem Qb3l {sz:Nat}{parts:List Opd}{t el:TypeId}{n:Nat}{parts':Array (Nat×Operand)}{i:TypeInfo}{z:Value}
  (hm:o.op=.buildSlice t n parts') (hu:P.underlying t=some (.slice el)) (hi:P.info? el=some i) (hz:i.zero=some z) (bz:i.size=sz) (oy:sz≠0)
  (hn:n=parts'.size) (pK:n * sz≤2 ^ 24) (hl:parts.length=parts'.size)
  (hx:∀(j:Nat) (x:Opd) (y:Nat×Operand),parts[j]? = some x→parts'[j]? = some y→y.1=j∧mO x y.2=true)
  (hs:Sat H g w) (he:EnvOk w g e a) (hp:p=true) (ho:(FOp.aG sz parts).obl p e H):FOk P H g w e a o (.aG sz parts):=by
 simp only[FOp.obl]at ho;have rm:(parts'.map fun (x:Nat×Operand)=>(x.1,a.eval x.2)).toList=parts'.toList.map fun (x:Nat×Operand)=>(x.1,a.eval x.2):=Zz
 have bE:∀(j:Nat) (y:Nat×Value),(parts'.toList.map fun (x:Nat×Operand)=>(x.1,a.eval x.2))[j]? = some y→
   ∃x y',parts[j]? = some x∧parts'[j]? = some y'∧y=(y'.1,a.eval y'.2):=by
  intro j y hj;simp only[Jl]at hj
  cases cw:parts'.toList[j]? with
  |none=>rw[cw]at hj;simp at hj
  |some y'=>
   rw[cw]at hj;simp at hj;have ae:j<parts.length:=by
    rw[hl];rcases Jh j parts'.size with h|h
    ·exact h
    ·simp[Ji h]at cw
   exact⟨_,y',Je ae,by simpa using cw,hj.symm⟩
 have aK:∀x∈parts,x.fine p e∧(x.v e).cells.length=sz∧(x.v e).cells≠[]:=fun x hx=>by
  obtain⟨q1,q2⟩:=ho x hx;exact⟨q1,q2,fun hn=>oy (by rw[←q2,hn];rfl)⟩
 have kA:(parts'.toList.map fun (x:Nat×Operand)=>(x.1,a.eval x.2)).length=n:=ZaG
 obtain⟨out,f1,f2,f3,f4⟩:=FV sz (parts'.toList.map fun (x:Nat×Operand)=>(x.1,a.eval x.2)) 0
  ((Array.range (n * sz)).map ((if n * sz=0 then #[]else z.cells)[· % (if n * sz=0 then #[]else z.cells).size]!)) (fun j y hj=>by
   obtain⟨x,y',e1,e2,rfl⟩:=bE j y hj;obtain⟨q1,q2⟩:=hx j x y' e1 e2;obtain⟨q3,q4,q5⟩:=aK x (Jg e1);refine⟨by simp[q1],?_⟩;rw[(GL (An he q2 hp q3) q5).1,q4]) (by rw[kA];simp)
 have aL:=Q9r hs (.cells out el);refine⟨.slice (some ⟨w.heap.size,0,none⟩) n n,w.alloc (.cells out el),g.newPer w.heap.size,?_,aL,?_,trivial⟩
 ·simp only[execOp,hm,Instr.buildSlice,Sem.run_bind,A0 hu,Result.andThen_ok,Bi hi,bz,rm];rw[if_neg Zx];by_cases h0:n * sz=0
  ·simp only[if_pos h0]at f1⊢;simp only[Sem.run_bind,Sem.run_pure,Result.andThen_ok];rw[f1];simp[newRow]
  ·simp only[if_neg h0]at f1⊢;simp only[Sem.run_bind,Sem.run_pure,Result.andThen_ok,DW hi hz];rw[f1];simp[newRow]
 ·simp only[FOp.val];have cY:(parts.map fun x=>(x.v e).cells).length=n:=by simp[hl,hn]
  refine .c _ _ ?_;have dX:∀(k:Nat) (row:List C),(parts.map fun x=>(x.v e).cells)[k]? = some row→∃x y,parts[k]? = some x∧parts'[k]? = some y∧row=(x.v e).cells:=by
   intro k row hk;simp only[Jl]at hk
   cases hj:parts[k]? with
   |none=>rw[hj]at hk;simp at hk
   |some x=>
    rw[hj]at hk;simp at hk;have ae:k<parts'.size:=by
     rw[←hl];rcases Jh k parts.length with h|h
     ·exact h
     ·rw[Jf h]at hj;simp at hj
    exact⟨x,parts'[k],rfl,Jd ae,hk.symm⟩
  have bW:∀(k:Nat) (row:List C) (j:Nat) (c:C),(parts.map fun x=>(x.v e).cells)[k]? = some row→row[j]? = some c→∃u,out[0+k * sz+j]? = some u∧RepC w g c u:=by
   intro k row j c hk hj;obtain⟨x,y,e1,e2,rfl⟩:=dX k row hk;obtain⟨q1,q2⟩:=hx k x y e1 e2;obtain⟨q3,q4,q5⟩:=aK x (Jg e1);have hr:=GL (An he q2 hp q3) q5;have iG:j<sz:=by
    rw[←q4];rcases Jh j (x.v e).cells.length with h|h
    ·exact h
    ·rw[Jf h]at hj;simp at hj
   have cj:j<(a.eval y.2).cells.size:=by rw[hr.1,q4];exact iG
   have:=f4 k (y.1,a.eval y.2) j (by simp only[Jl,Jv,e2,Jq]) iG;simp only[J6]at this⊢;rw[this];exact⟨_,Jd cj,hr.2 j c _ hj (Jd cj)⟩
  have:=RepC.sl (w:=w.alloc (.cells out el)) (g:=g.newPer w.heap.size) true sz (parts.map fun x=>(x.v e).cells) w.heap.size 0 n (fun k j=>out.getD (0+k * sz+j) undef)
   (by rw[cY,CY]
       have dk:n * 1≤n * sz:=Ja3 _ Zx;have xP:(2:Nat) ^ 24=16777216:=ZK;rw[xP]at pK;omega) (fun _=>cY.symm) (by rw[cY];exact Jt _) (by simp[G.newPer])
   (fun k row hk=>by obtain⟨x,y,e1,e2,rfl⟩:=dX k row hk;exact (aK x (Jg e1)).2.1)
   (fun k row j c hk hj=>by
    obtain⟨u,e1,e2⟩:=bW k row j c hk hj;rw[Nn,Jc,e1];rfl)
   (fun k row j c hk hj=>by
    obtain⟨u,e1,e2⟩:=bW k row j c hk hj;simp only[Jc,e1,Jz];exact e2.mono aL.le)
  rw[cY]at this;exact this
end Go.AE
namespace Go.AE
open Go.MapKept (IsKey findNow_spec run_checkKey run_findKey run_keyThatStays)
variable {P:Program}{H:Heap}{g:G}{w:World}{e:Env}{a:Act}{o:Oper}{p:Bool}
def tagD:Nat→TypeDesc
 |0=>.int .i64
 |1=>.string
 |_=>.bool
theorem Gx {tag:Nat}{k:C}{es:List (C×V)}(h:B3 tag k es){v:Value}(hr:RepC w g k v):IsKey (tagD tag) v:=by
 unfold B3 at h;split at h
 ·rw[hr.aH];simp[tagD,IsKey]
 ·rw[hr.str_inv.1];simp[tagD,IsKey]
 ·rw[hr.bu];simp[tagD,IsKey]
 ·exact h.elim
theorem Qbt0 {tag:Nat}{k:C}{es:List (C×V)}(h:B3 tag k es){x:C×V}(hx:x∈es){v:Value}(hr:RepC w g x.1 v):IsKey (tagD tag) v:=by
 unfold B3 at h;split at h
 ·obtain⟨n,hn⟩:=h x hx;rw[hn]at hr;rw[hr.aH];simp[tagD,IsKey]
 ·obtain⟨n,hn⟩:=h x hx;rw[hn]at hr;rw[hr.str_inv.1];simp[tagD,IsKey]
 ·obtain⟨n,hn⟩:=h x hx;rw[hn]at hr;rw[hr.bu];simp[tagD,IsKey]
 ·exact h.elim
theorem DB {tag:Nat}{k:C}{es:List (C×V)}(h:B3 tag k es){x:C×V}(hx:x∈es){u v:Value}(hr:RepC w g k u)(be:RepC w g x.1 v) :
  AR k x.1=true↔v=u:=by
 unfold B3 at h;split at h
 ·obtain⟨n,hn⟩:=h x hx;rw[hn]at be⊢;rw[be.aH,hr.aH];simp only[AR,decide_eq_true_eq,Value.int.injEq,true_and];exact eq_comm
 ·obtain⟨n,hn⟩:=h x hx;rw[hn]at be⊢;rw[be.str_inv.1,hr.str_inv.1];simp only[AR,decide_eq_true_eq,Value.string.injEq,Jbo,Array.mk.injEq];exact eq_comm
 ·obtain⟨n,hn⟩:=h x hx;rw[hn]at be⊢;rw[be.bu,hr.bu];simp only[AR,beq_iff_eq,Value.bool.injEq];exact eq_comm
 ·exact h.elim
theorem Ki:∀(es:List (C×V)) (k:C) (j:Nat) (x:C×V),es[j]? = some x→AR k x.1=true→(∀i y,i<j→es[i]? = some y→AR k y.1=false)→BH k es=some x.2
 |[],_,_,_,h,_,_=>ZF
 |y::es,k,0,x,h,hk,_=>by simp at h;subst h;simp[BH,hk]
 |y::es,k,j+1,x,h,hk,hh=>by
  have h0:=hh 0 y Zx rfl;simp only[BH,h0,Ju,if_false];exact Ki es k j x ZI hk fun i z hi hz=>hh (i+1) z Zx ZaM
theorem L7:∀(es:List (C×V)) (k:C),(∀x∈es,AR k x.1=false)→BH k es=none
 |[],_,_=>rfl
 |y::es,k,h=>by
  simp only[BH,h y Zz,Ju,if_false];exact L7 es k fun x hx=>h x Za9
theorem Kh {tag:Nat}{k:C}{es:List (C×V)}{ms:Array MapEntry}(au:B3 tag k es){kv:Value}(hk:RepC w g k kv)(bz:ms.size=es.length)
  (hE:∀(i:Nat) (x:C×V) (m:MapEntry),es[i]? = some x→ms[i]? = some m→RepE w g x m)
  (hd:∀(i j:Nat) (m m':MapEntry),ms[i]? = some m→ms[j]? = some m'→(m.born=m'.born∨m.key=m'.key)→i=j) :
  (Instr.findNow (tagD tag) kv ms.toList 0=some none∧BH k es=none∧∀x∈es,AR k x.1=false)∨
  ∃j m x,Instr.findNow (tagD tag) kv ms.toList 0=some (some (j,m.val))∧ms[j]? = some m∧m.key=kv∧es[j]? = some x∧BH k es=some x.2∧AR k x.1=true∧
   ∀i y,i<j→es[i]? = some y→AR k y.1=false:=by
 have pair:∀(i:Nat) (m:MapEntry),ms[i]? = some m→∃x,es[i]? = some x:=by
  intro i m hm;have:i<es.length:=by
   rw[←bz];rcases Jh i ms.size with h|h
   ·exact h
   ·rw[Ji h]at hm;simp at hm
  exact⟨_,Je this⟩
 have pair':∀(i:Nat) (x:C×V),es[i]? = some x→∃m,ms[i]? = some m:=by
  intro i x hx;have:i<ms.size:=by
   rw[bz];rcases Jh i es.length with h|h
   ·exact h
   ·rw[Jf h]at hx;simp at hx
  exact⟨_,Jd this⟩
 have rP:∀m∈ms.toList,IsKey (tagD tag) m.key:=by
  intro m hm;obtain⟨i,hi⟩:=Jab hm;obtain⟨x,hx⟩:=pair i m ZV;exact Qbt0 au (Jg hx) (hE i x m hx ZV).1
 rcases findNow_spec (Gx au hk) ms.toList 0 rP with ⟨h1,h2⟩|⟨j,m,h1,h2,h3⟩
 ·have cd:∀x∈es,AR k x.1=false:=by
   intro x hx;obtain⟨i,hi⟩:=Jab hx;obtain⟨m,hm⟩:=pair' i x hi;have:=h2 m (by have:=Jg (l:=ms.toList) (i:=i) (a:=m) (by simpa using hm);exact this)
   cases hq:AR k x.1 with
   |false=>rfl
   |true=>exact absurd ((DB au hx hk (hE i x m hi hm).1).1 hq) this
  exact .inl ⟨h1,L7 es k cd,cd⟩
 ·have hm:ms[j]? = some m:=ZT
  obtain⟨x,hx⟩:=pair j m hm;have hq:=(DB au (Jg hx) hk (hE j x m hx hm).1).2 h3;have kM:∀i y,i<j→es[i]? = some y→AR k y.1=false:=by
   intro i y hi hy;obtain⟨m',de⟩:=pair' i y hy
   cases yt:AR k y.1 with
   |false=>rfl
   |true=>
    have e1:=(DB au (Jg hy) hk (hE i y m' hy de).1).1 yt;have:=hd i j m' m de hm (.inr (e1.trans h3.symm));omega
  exact .inr ⟨j,m,x,Zah,hm,h3,hx,Ki es k j x hx hq kM,hq,kM⟩
def Du:V→Value→Bool
 |.c x,v=>Dv x v
 |.ag cs,.agg vs=>BD cs (.agg vs)
 |_,_=>false
theorem P1 {x:V}{v:Value}(h:Du x v=true):RepV w g x v:=by
 unfold Du at h;split at h
 ·exact .c _ _ (P2 h)
 ·rename_i cs vs
  have:=Hg (w:=w) (g:=g) h;obtain⟨h1,h2⟩:=this;have hv:vs=vs.toList.toArray:=Zz
  rw[hv];exact .ag cs vs.toList (by simpa[Value.cells]using h1) fun j c u e1 e2=>h2 j c u e1 (by simpa[Value.cells]using e2)
 ·simp at h
theorem Qb3x {tag:Nat}{zero:V}{x k:Opd}{x' k':Operand}{t kt et:TypeId}{i:TypeInfo}{z:Value}(hm:o.op=.lookup t x' k' false)(hu:P.underlying t=some (.map kt et))
  (hk:P.underlying kt=some (tagD tag)) (hi:P.info? et=some i) (hz:i.zero=some z) (cU:Du zero z=true) (hx:mO x x'=true) (kC:mO k k'=true)
  (hs:Sat H g w) (he:EnvOk w g e a) (hp:p=true) (ho:(FOp.lup tag zero x k).obl p e H):FOk P H g w e a o (.lup tag zero x k):=by
 simp only[FOp.obl]at ho;obtain⟨h1,h2,h3,h4,h5,h6⟩:=ho;have hr:=An he hx hp h1;have rb:=An he kC hp h2;rw[Bv h3]at hr;rw[Bv h4]at rb;have pd:=rb.aR;have iF:=Gx h6 pd;have tp:(v:Value)→(BH (k.v e).c1 (Bx H (x.v e).c1)).getD zero=(FOp.lup tag zero x k).val e H:=fun _=>rfl;generalize jc:(x.v e).c1=cc at *;generalize kB:(k.v e).c1=kc at *;have pE:=hr.aR;generalize mo:a.eval x'=xv at pE hr
 cases pE with
 |mp l b bR=>
  simp only[Bl]at h5;split at h5
  ·rename_i n es hH
   have bn:=hs.objs l;rw[hH]at bn;obtain⟨b',ms,clock,k1,k2,k3,k4,k5,k6,k7,k8⟩:=bn;rw[bR]at k1;simp only[Jb,Jn,and_true]at k1;subst k1;simp only[Bx,hH]at h6;have df:(getObj b).run P w=.ok (.map ms clock) w:=by simp[getObj,Sem.run,k3]
   rcases Kh h6 pd k4 k6 k8 with ⟨f1,f2,f3⟩|⟨j,m,y,f1,f2,f3,f4,f5,f6,f7⟩
   ·refine .mk' hs (v:=z) ?_ ?_ trivial
    ·simp only[execOp,hm,mo,Instr.lookup,Sem.run_bind,A0 hu,Result.andThen_ok,df,Sem.run_pure,run_checkKey hk iF _ 9999,run_findKey hk f1,DW hi hz];simp
    ·simp only[FOp.val,jc,kB,Bx,hH,f2,Jae];exact P1 cU
   ·refine .mk' hs (v:=m.val) ?_ ?_ trivial
    ·simp only[execOp,hm,mo,Instr.lookup,Sem.run_bind,A0 hu,Result.andThen_ok,df,Sem.run_pure,run_checkKey hk iF _ 9999,run_findKey hk f1];simp
    ·simp only[FOp.val,jc,kB,Bx,hH,f5,Jz];exact (k6 j y m f4 f2).2
  ·exact h5.elim
 |mnil=>
  refine .mk' hs (v:=z) ?_ ?_ trivial
  ·have fW:Instr.findNow (tagD tag) (a.eval k') ([]:List MapEntry) 0=some none:=rfl;have hfk:=run_findKey (P:=P) (w:=w) (kt:=kt) (k:=a.eval k') (l:=[]) hk fW;simp only[execOp,hm,mo,Instr.lookup,Sem.run_bind,A0 hu,Result.andThen_ok,Sem.run_pure,run_checkKey hk iF _ 9999,hfk,DW hi hz];simp
  ·simp only[FOp.val,jc,kB,Bx,BH,Jae];exact P1 cU
 |_=>simp[Bl]at h5
end Go.AE
namespace Go.AE
variable {P:Program}{H:Heap}{g:G}{w:World}{e:Env}{a:Act}{o:Oper}{p:Bool}
def Cw (P:Program)(fs:Array Field)(zl:Nat):List (Nat×Nat×Opd)→List (Nat×Operand)→Bool
 |[],[]=>true
 |(off,sz,x)::r,(i,y)::r'=>mO x y&&(match fs[i]? with
   |some f=>f.offset == off&&P.cellsOf f.type == sz
   |none=>false)&&decide (off+sz≤zl)&&decide (sz≠0)&&Cw P fs zl r r'
 |_,_=>false
def mRow:Nat→List Opd→List (Nat×Operand)→Bool
 |_,[],[]=>true
 |k,x::r,(i,y)::r'=>i == k&&mO x y&&mRow (k+1) r r'
 |_,_,_=>false
def mOs:List Opd→List Operand→Bool
 |[],[]=>true
 |x::r,y::r'=>mO x y&&mOs r r'
 |_,_=>false
theorem Fu:∀(xs:List Opd) (ys:List Operand),mOs xs ys=true→xs.length=ys.length∧∀(j:Nat) (x:Opd) (y:Operand),xs[j]? = some x→ys[j]? = some y→mO x y=true
 |[],[],_=>⟨rfl,Zz⟩
 |[],_::_,h=>by simp[mOs]at h
 |_::_,[],h=>by simp[mOs]at h
 |x::r,y::r',h=>by
  simp only[mOs,Ja]at h;obtain⟨h1,h2⟩:=Fu r r' h.2;refine⟨by simp[h1],fun j x' y' e1 e2=>?_⟩
  cases j with
  |zero=>simp at e1 e2;subst e1;subst e2;exact h.1
  |succ j=>exact h2 j x' y' ZaL ZS
theorem Nq {fs:Array Field}{zl:Nat}:∀(xs:List (Nat×Nat×Opd)) (ys:List (Nat×Operand)),Cw P fs zl xs ys=true→
  xs.length=ys.length∧∀(j:Nat) (x:Nat×Nat×Opd) (y:Nat×Operand),xs[j]? = some x→ys[j]? = some y→
   mO x.2.2 y.2=true∧(∃f,fs[y.1]? = some f∧f.offset=x.1∧P.cellsOf f.type=x.2.1)∧x.1+x.2.1≤zl∧x.2.1≠0
 |[],[],_=>⟨rfl,Zz⟩
 |[],_::_,h=>by simp[Cw]at h
 |_::_,[],h=>by simp[Cw]at h
 |(off,sz,x)::r,(i,y)::r',h=>by
  simp only[Cw,Ja,decide_eq_true_eq]at h;obtain⟨⟨⟨⟨h1,h2⟩,h3⟩,h4⟩,h5⟩:=h;obtain⟨k1,k2⟩:=Nq r r' h5;refine⟨Zay,fun j x' y' e1 e2=>?_⟩
  cases j with
  |zero=>
   simp at e1 e2;subst e1;subst e2;refine⟨h1,?_,h3,h4⟩;split at h2
   ·rename_i f hf;simp at h2;exact⟨f,hf,h2.1,h2.2⟩
   ·simp at h2
  |succ j=>exact k2 j x' y' ZaL ZS
theorem FN:∀(k:Nat) (xs:List Opd) (ys:List (Nat×Operand)),mRow k xs ys=true→
  xs.length=ys.length∧∀(j:Nat) (x:Opd) (y:Nat×Operand),xs[j]? = some x→ys[j]? = some y→y.1=k+j∧mO x y.2=true
 |_,[],[],_=>⟨rfl,Zz⟩
 |_,[],_::_,h=>by simp[mRow]at h
 |_,_::_,[],h=>by simp[mRow]at h
 |k,x::r,(i,y)::r',h=>by
  simp only[mRow,Ja,beq_iff_eq]at h;obtain⟨⟨h1,h2⟩,h3⟩:=h;obtain⟨k1,k2⟩:=FN (k+1) r r' h3;refine⟨Zay,fun j x' y' e1 e2=>?_⟩
  cases j with
  |zero=>simp at e1 e2;subst e1;subst e2;exact⟨by simp[h1],h2⟩
  |succ j=>
   have:=k2 j x' y' ZaL ZS;exact⟨by rw[this.1];omega,this.2⟩
def BU (P:Program)(t:TypeId)(n:Nat)(agg:Bool):Bool:=
 match P.underlying t,P.info? t with
 |some d,some i=>BW d == agg&&(if agg then i.size == n else n == 1)
 |_,_=>false
theorem Hy {t:TypeId}{n:Nat}{agg:Bool}(h:BU P t n agg=true) :
  ∃d i,P.underlying t=some d∧P.info? t=some i∧BW d=agg∧(agg=true→i.size=n)∧(agg=false→n=1):=by
 unfold BU at h;split at h
 ·rename_i d i hd hi
  simp only[Ja,beq_iff_eq]at h;refine⟨d,i,hd,hi,h.1,fun ha=>?_,fun ha=>?_⟩
  ·subst ha;simpa using h.2
  ·subst ha;simpa using h.2
 ·simp at h
def Bo (P:Program)(t:TypeId)(sz:Nat):Bool:=
 match P.info? t with
 |some i=>i.size == sz
 |none=>false
theorem Er {t:TypeId}{sz:Nat}(h:Bo P t sz=true):∃i,P.info? t=some i∧i.size=sz:=by
 unfold Bo at h;split at h
 ·rename_i i hi;exact⟨i,hi,ZI⟩
 ·simp at h
def CA (P:Program)(t:TypeId)(zero:List C):Bool:=
 match P.info? t with
 |some i=>(match i.zero with
  |some z=>BD zero z
  |none=>false)
 |none=>false
theorem Rv {t:TypeId}{zero:List C}(h:CA P t zero=true):∃i z,P.info? t=some i∧i.zero=some z∧BD zero z=true:=by
 unfold CA at h;split at h
 ·rename_i i hi
  split at h
  ·rename_i z hz;exact⟨i,z,hi,hz,h⟩
  ·simp at h
 ·simp at h
def Dy (d:TypeDesc)(tag:Nat):Bool:=
 match d,tag with
 |.int .i64,0=>true
 |.string,1=>true
 |.bool,2=>true
 |_,_=>false
theorem LM {d:TypeDesc}{tag:Nat}(h:Dy d tag=true):d=tagD tag:=by
 unfold Dy at h;split at h <;> first|rfl|simp at h
def mF (P:Program)(o:Oper):FOp→Bool
 |.mv x=>match o.op with
  |.move y=>mO x y
  |.assign y=>mO x y
  |_=>false
 |.pick c a b=>match o.op with
  |.pick c' a' b'=>mO c c'&&mO a a'&&mO b b'
  |_=>false
 |.bin tag op a b=>match o.op with
  |.binOp op' t a' b' _=>op == op'&&mTag P tag t&&mO a a'&&mO b b'
  |_=>false
 |.not a=>match o.op with
  |.unOp .not _ a'=>mO a a'
  |_=>false
 |.fad off a=>match o.op with
  |.fieldAddr s y k=>mO a y&&(match P.underlying s with
   |some (.struct fs)=>(match fs[k]? with
    |some f=>f.offset == off&&(match P.info? f.type with
     |some i=>decide (i.size≠0)
     |none=>false)
    |none=>false)
   |_=>false)
  |_=>false
 |.iad sz a i=>match o.op with
  |.indexAddr t a' i'=>mO a a'&&mO i i'&&(match P.underlying t with
   |some (.slice el)=>Bo P el sz
   |_=>false)
  |_=>false
 |.ld n agg a=>match o.op with
  |.load t a'=>mO a a'&&BU P t n agg
  |_=>false
 |.nck a=>match o.op with
  |.nilCheck a'=>mO a a'
  |_=>false
 |.len a=>match o.op with
  |.call { callee:=.builtin .len,args:=⟨[a']⟩,argTypes:=ats }=>mO a a'&&(match ats[0]? with
   |some t=>(match P.underlying t with
    |some (.slice _)=>true
    |_=>false)
   |none=>false)
  |_=>false
 |.lens a=>match o.op with
  |.call { callee:=.builtin .len,args:=⟨[a']⟩,argTypes:=ats }=>mO a a'&&(match ats[0]? with
   |some t=>(match P.underlying t with
    |some .string=>true
    |_=>false)
   |none=>false)
  |_=>false
 |.lenm a=>false
 |.sli sz a lo hi=>match o.op with
  |.slice t a' lo' bO none=>mO a a'&&mOpt lo lo'&&mOpt hi bO&&(match P.underlying t with
   |some (.slice el)=>Bo P el sz
   |_=>false)
  |_=>false
 |.iaa sz n a i=>match o.op with
  |.indexAddr t a' i'=>mO a a'&&mO i i'&&(match P.underlying t with
   |some (.array m el)=>m == n&&Bo P el sz
   |_=>false)
  |_=>false
 |.aslp n a hi=>match o.op with
  |.slice t a' none bO none=>mO a a'&&mOpt hi bO&&(match P.underlying t with
   |some (.array m el)=>m == n&&(P.info? el).isSome
   |_=>false)
  |_=>false
 |.slm sz a hi=>false
 |.ldg n b _=>match o.op with
  |.load t (.global b')=>b' == b&&BU P t n true
  |_=>false
 |.iax sz n a i=>match o.op with
  |.index t a' i'=>mO a a'&&mO i i'&&(match P.underlying t with
   |some (.array m el)=>m == n&&BU P el sz true
   |_=>false)
  |_=>false
 |.asl n a=>false
 |.slis a lo hi=>match o.op with
  |.slice t a' lo' bO none=>mO a a'&&mOpt lo lo'&&mOpt hi bO&&(match P.underlying t with
   |some .string=>true
   |_=>false)
  |_=>false
 |.ext a i=>match o.op with
  |.extract a' i'=>mO a a'&&i == i'
  |_=>false
 |.fld off n agg a=>match o.op with
  |.field s y k=>mO a y&&(match P.underlying s with
   |some (.struct fs)=>(match fs[k]? with
    |some f=>f.offset == off&&BU P f.type n agg
    |none=>false)
   |_=>false)
  |_=>false
 |.idx a i=>match o.op with
  |.index t a' i'=>mO a a'&&mO i i'&&(match P.underlying t with
   |some .string=>true
   |_=>false)
  |_=>false
 |.bld zero parts=>match o.op with
  |.build t parts'=>(match P.underlying t with
   |some (.struct fs)=>CA P t zero&&fs.toList.all (fun f=>(P.info? f.type).isSome)&&Cw P fs zero.length parts parts'.toList
   |_=>false)
  |_=>false
 |.aG sz parts=>match o.op with
  |.buildSlice t n parts'=>n == parts'.size&&decide (n * sz≤2 ^ 24)&&mRow 0 parts parts'.toList&&decide (sz≠0)&&(match P.underlying t with
   |some (.slice el)=>Bo P el sz&&(match P.info? el with
    |some i=>i.zero.isSome
    |none=>false)
   |_=>false)
  |_=>false
 |.box a=>match o.op with
  |.box _ a'=>mO a a'
  |_=>false
 |.cvt k a=>match o.op with
  |.convert src dst a'=>mO a a'&&(match P.underlying dst,P.underlying src with
   |some (.int k'),some _=>k == k'
   |_,_=>false)
  |_=>false
 |.mkf f caps=>match o.op with
  |.makeFunc (.func f') ⟨[]⟩ caps'=>f == f'&&mOs caps caps'.toList
  |_=>false
 |.lup tag zero m k=>match o.op with
  |.lookup t m' k' false=>mO m m'&&mO k k'&&(match P.underlying t with
   |some (.map kt et)=>(match P.underlying kt with
    |some d=>Dy d tag
    |none=>false)&&(match P.info? et with
    |some i=>(match i.zero with
     |some z=>Du zero z
     |none=>false)
    |none=>false)
   |_=>false)
  |_=>false
 |.lup2 tag zero m k=>false
 |.mx a b=>false
 |.mn a b=>match o.op with
  |.call { callee:=.builtin .min,args:=⟨[a',b']⟩,argTypes:=_ }=>mO a a'&&mO b b'
  |_=>false
theorem KL {op:FOp}(hm:mF P o op=true)(hs:Sat H g w)(he:EnvOk w g e a)(hp:p=true)(ho:op.obl p e H):FOk P H g w e a o op:=by
 cases op with
 |mv x=>
  simp only[mF]at hm;split at hm
  ·exact s_mv (.inl ‹_›) hm hs he hp ho
  ·exact s_mv (.inr ‹_›) hm hs he hp ho
  ·simp at hm
 |pick c x y=>
  simp only[mF]at hm;split at hm
  ·simp only[Ja]at hm;exact Qb2h ‹_› hm.1.1 hm.1.2 hm.2 hs he hp ho
  ·simp at hm
 |bin tag bo x y=>
  simp only[mF]at hm;split at hm
  ·simp only[Ja,beq_iff_eq]at hm;obtain⟨⟨⟨rfl,h2⟩,h3⟩,h4⟩:=hm;exact Qb3i ‹_› h2 h3 h4 hs he hp ho
  ·simp at hm
 |not x=>
  simp only[mF]at hm;split at hm
  ·exact Qb30 ‹_› hm hs he hp ho
  ·simp at hm
 |fad off x=>
  simp only[mF]at hm;split at hm
  ·rename_i s y k bA
   rw[Ja]at hm;obtain⟨h1,h2⟩:=hm;split at h2
   ·rename_i fs pt
    split at h2
    ·rename_i f hf
     rw[Ja]at h2;obtain⟨h3,h4⟩:=h2;split at h4
     ·rename_i i hi
      exact Qb3o bA pt hf (by simpa using h3) hi (by simpa using h4) h1 hs he hp ho
     ·simp at h4
    ·simp at h2
   ·simp at h2
  ·simp at hm
 |iad sz x y=>
  simp only[mF]at hm;split at hm
  ·rename_i t x' y' bA
   simp only[Ja]at hm;obtain⟨⟨h1,h2⟩,h3⟩:=hm;split at h3
   ·rename_i el ft
    obtain⟨i,hi,hz⟩:=Er h3;exact Qb3r bA ft hi hz h1 h2 hs he hp ho
   ·simp at h3
  ·simp at hm
 |ld n agg x=>
  simp only[mF]at hm;split at hm
  ·rename_i t x' bA
   rw[Ja]at hm;obtain⟨d,i,h1,h2,h3,h4,h5⟩:=Hy hm.2;exact s_ld bA h1 h2 h3 h4 h5 hm.1 hs he hp ho
  ·simp at hm
 |nck x=>
  simp only[mF]at hm;split at hm
  ·exact Qb3z ‹_› hm hs he hp ho
  ·simp at hm
 |len x=>
  simp only[mF]at hm;split at hm
  ·rename_i x' ats bA
   rw[Ja]at hm;obtain⟨h1,h2⟩:=hm;split at h2
   ·rename_i t ht
    split at h2
    ·exact Qb3w bA ht ‹_› h1 hs he hp ho
    ·simp at h2
   ·simp at h2
  ·simp at hm
 |lens x=>
  simp only[mF]at hm;split at hm
  ·rename_i x' ats bA
   rw[Ja]at hm;obtain⟨h1,h2⟩:=hm;split at h2
   ·rename_i t ht
    split at h2
    ·exact Qb2g bA ht ‹_› h1 hs he hp ho
    ·simp at h2
   ·simp at h2
  ·simp at hm
 |lenm x=>
  simp[mF]at hm
 |sli sz x lo hi=>
  simp only[mF]at hm;split at hm
  ·rename_i t x' lo' bO bA
   simp only[Ja]at hm;obtain⟨⟨⟨h1,h2⟩,h3⟩,h4⟩:=hm;split at h4
   ·rename_i el ft
    obtain⟨i,hi,hz⟩:=Er h4;exact Qb31 bA ft hi hz h1 h2 h3 hs he hp ho
   ·simp at h4
  ·simp at hm
 |iaa sz n x y=>
  simp only[mF]at hm;split at hm
  ·rename_i t x' y' bA
   simp only[Ja]at hm;obtain⟨⟨h1,h2⟩,h3⟩:=hm;split at h3
   ·rename_i m el ft
    rw[Ja,beq_iff_eq]at h3;obtain⟨rfl,h3⟩:=h3;obtain⟨i,hi,hz⟩:=Er h3;exact Qb3q bA ft hi hz h1 h2 hs he hp ho
   ·simp at h3
  ·simp at hm
 |aslp n x hi=>
  simp only[mF]at hm;split at hm
  ·rename_i t x' bO bA
   simp only[Ja]at hm;obtain⟨⟨h1,h4⟩,h2⟩:=hm;split at h2
   ·rename_i m el ee
    rw[Ja,beq_iff_eq]at h2;obtain⟨rfl,h3⟩:=h2;obtain⟨i,hi⟩:=J4.1 h3;exact Qb2b bA ee hi h1 h4 hs he hp ho
   ·simp at h2
  ·simp at hm
 |slm sz x hi=>
  simp[mF]at hm
 |ldg n b l=>
  simp only[mF]at hm;split at hm
  ·rename_i t b' bA
   simp only[Ja,beq_iff_eq]at hm;obtain⟨rfl,h2⟩:=hm;obtain⟨d,i,k1,k2,k3,k4,k5⟩:=Hy h2;exact Qb3v bA k1 k2 k3 (k4 rfl) hs ho
  ·simp at hm
 |iax sz n x y=>
  simp only[mF]at hm;split at hm
  ·rename_i t x' y' bA
   simp only[Ja]at hm;obtain⟨⟨h1,h2⟩,h3⟩:=hm;split at h3
   ·rename_i m el ft
    rw[Ja,beq_iff_eq]at h3;obtain⟨rfl,h3⟩:=h3;obtain⟨d,i,k1,k2,k3,k4,k5⟩:=Hy h3;exact Qb3s bA ft k1 k3 k2 (k4 rfl) h1 h2 hs he hp ho
   ·simp at h3
  ·simp at hm
 |asl n x=>
  simp[mF]at hm
 |slis x lo hi=>
  simp only[mF]at hm;split at hm
  ·rename_i t x' lo' bO bA
   simp only[Ja]at hm;obtain⟨⟨⟨h1,h2⟩,h3⟩,h4⟩:=hm;split at h4
   ·exact Qb2i bA ‹_› h1 h2 h3 hs he hp ho
   ·simp at h4
  ·simp at hm
 |ext x i=>
  simp only[mF]at hm;split at hm
  ·rename_i x' i' bA
   simp only[Ja,beq_iff_eq]at hm;obtain⟨h1,rfl⟩:=hm;exact Qb3n bA h1 hs he hp ho
  ·simp at hm
 |fld off n agg x=>
  simp only[mF]at hm;split at hm
  ·rename_i s y k bA
   rw[Ja]at hm;obtain⟨h1,h2⟩:=hm;split at h2
   ·rename_i fs pt
    split at h2
    ·rename_i f hf
     rw[Ja]at h2;obtain⟨h3,h4⟩:=h2;obtain⟨d,i,k1,k2,k3,k4,k5⟩:=Hy h4;exact Qb3p bA pt hf (by simpa using h3) k2 k1 k3 k4 k5 h1 hs he hp ho
    ·simp at h2
   ·simp at h2
  ·simp at hm
 |idx x y=>
  simp only[mF]at hm;split at hm
  ·rename_i t x' y' bA
   simp only[Ja]at hm;obtain⟨⟨h1,h2⟩,h3⟩:=hm;split at h3
   ·exact Qb3t bA ‹_› h1 h2 hs he hp ho
   ·simp at h3
  ·simp at hm
 |bld zero parts=>
  simp only[mF]at hm;split at hm
  ·rename_i t parts' bA
   split at hm
   ·rename_i fs pt
    simp only[Ja]at hm;obtain⟨⟨h1,h2⟩,h3⟩:=hm;obtain⟨i,z,k1,k2,k3⟩:=Rv h1;obtain⟨k4,k5⟩:=Nq _ _ h3;rw[Jad]at h2;refine Qb3j bA pt k1 k2 k3 (fun f hf=>J4.1 (h2 f hf)) (by simpa using k4) (fun j x y e1 e2=>k5 j x y e1 ZS) hs he hp ho
   ·simp at hm
  ·simp at hm
 |aG sz parts=>
  simp only[mF]at hm;split at hm
  ·rename_i t n parts' bA
   simp only[Ja,decide_eq_true_eq,beq_iff_eq]at hm;obtain⟨⟨⟨⟨h1,h2⟩,h3⟩,h4⟩,h5⟩:=hm;split at h5
   ·rename_i el ft
    rw[Ja]at h5;obtain⟨i,hi,hz⟩:=Er h5.1;have h6:=h5.2;rw[hi]at h6;obtain⟨z,gc⟩:=J4.1 h6;obtain⟨k1,k2⟩:=FN _ _ _ h3;exact Qb3l bA ft hi gc hz h4 h1 h2 (by simpa using k1) (fun j x y e1 e2=>by
     have:=k2 j x y e1 ZS;exact⟨by simpa using this.1,this.2⟩) hs he hp ho
   ·simp at h5
  ·simp at hm
 |box x=>
  simp only[mF]at hm;split at hm
  ·exact Qb3k ‹_› hm hs he hp ho
  ·simp at hm
 |cvt k x=>
  simp only[mF]at hm;split at hm
  ·rename_i src dst x' bA
   rw[Ja]at hm;obtain⟨h1,h2⟩:=hm;split at h2
   ·simp only[beq_iff_eq]at h2;subst h2;exact Qb3m bA ‹_› ‹_› h1 hs he hp ho
   ·simp at h2
  ·simp at hm
 |mkf f caps=>
  simp only[mF]at hm;split at hm
  ·rename_i f' caps' bA
   simp only[Ja,beq_iff_eq]at hm;obtain⟨rfl,h2⟩:=hm;obtain⟨k1,k2⟩:=Fu _ _ h2;exact Qb3y bA (by simpa using k1) (fun j x y e1 e2=>k2 j x y e1 ZS) hs he hp ho
  ·simp at hm
 |lup tag zero m k=>
  simp only[mF]at hm;split at hm
  ·rename_i t m' k' bA
   simp only[Ja]at hm;obtain⟨⟨h1,h2⟩,h3⟩:=hm;split at h3
   ·rename_i kt et fR
    rw[Ja]at h3;obtain⟨h4,h5⟩:=h3;split at h4
    ·rename_i d hd
     have:=LM h4;subst this;split at h5
     ·rename_i i hi
      split at h5
      ·rename_i z hz
       exact Qb3x bA fR hd hi hz h5 h1 h2 hs he hp ho
      ·simp at h5
     ·simp at h5
    ·simp at h4
   ·simp at h3
  ·simp at hm
 |lup2 tag zero m k=>
  simp[mF]at hm
 |mx x y=>
  simp[mF]at hm
 |mn x y=>
  simp only[mF]at hm;split at hm
  ·simp only[Ja]at hm;exact s_mn ‹_› hm.1 hm.2 hs he hp ho
  ·simp at hm
def EOk (P:Program)(H:Heap)(g:G)(w:World)(a:Act)(o:Oper)(K:V→Heap→Prop):Prop:=
 ∀(Q:Exit→Act→World→Prop) (next:Act→World→Prop),
  (∀x v w' H' g',K x H'→Stp H g w H' g' w'→RepV w' g' x v→next (a.put o.dst v) w')→
  (∀v w' H' g',K (.pn v) H'→Stp H g w H' g' w'→Q (.panic [{ v:=v,recovered:=false }]) a w')→o.wp P a w next Q
theorem EOk.value {K:V→Heap→Prop}{v:Value}{w':World}{x:V}{H':Heap}{g':G}(hr:(execOp a.eval o).run P w=.ok (.value v) w')(hk:K x H')(aL:Stp H g w H' g' w')(hv:RepV w' g' x v) :
  EOk P H g w a o K:=by
 intro Q next hn i8;unfold Oper.wp;rw[hr,Oper.upon_value];exact hn x v w' H' g' hk aL hv
theorem EOk.skip {K:V→Heap→Prop}{w':World}{H':Heap}{g':G}(hr:(execOp a.eval o).run P w=.ok .skip w')(hk:K .unk H')(aL:Stp H g w H' g' w') :
  EOk P H g w a o K:=by
 intro Q next hn i8;unfold Oper.wp;rw[hr,Oper.upon_skip];exact hn .unk undef w' H' g' hk aL (.unk _)
theorem Sat.newName (hs:Sat H g w):∃l,g.io l=none∧H l=.none:=by
 obtain⟨N,hN⟩:=hs.names;exact⟨N,hN N (Jt _),hs.none_of_io (hN N (Jt _))⟩
def G.newObj (g:G)(l nb sz base:Nat):G:=
 { g with own:=fun b=>if b=nb then some (l,[])else g.own b,io:=fun x=>if x=l then some (nb,sz,base)else g.io x }
theorem Ef (hs:Sat H g w){l:Nat}(hl:g.io l=none)(sz base:Nat)(x:Go.Obj):Le g w (g.newObj l w.heap.size sz base) (w.alloc x):=by
 refine⟨fun b hb=>⟨hb,Dr _ _ (EL hs hb)⟩,fun m y hm=>?_,Zz,fun b T n hn=>?_,rfl,rfl,rfl⟩
 ·simp only[G.newObj];have:m≠l:=fun h=>by subst h;rw[hl]at hm;simp at hm
  rw[if_neg this];exact hm
 ·rw[Sg (Dr _ _ (Ff hn))];exact hn
theorem Qa0o (hs:Sat H g w){l:Nat}(sz base:Nat)(x:Go.Obj)(m:Nat):C0 g w (g.newObj l w.heap.size sz base) (w.alloc x) m:=by
 intro b q hb;have:=Ct hs hb;refine⟨?_,Dr _ _ this⟩;simp only[G.newObj];rw[if_neg Zx];exact hb
theorem Df (hs:Sat H g w){l:Nat}(hl:g.io l=none)(sz base:Nat)(x:Go.Obj)(ob:Obj)
  (bn:∀g',g'=g.newObj l w.heap.size sz base→SatObj (H.set l ob) g' (w.alloc x) l ob) :
  Stp H g w (H.set l ob) (g.newObj l w.heap.size sz base) (w.alloc x):=by
 have aU:=Ef hs hl sz base x;have hk:=Qa0o hs (l:=l) sz base x;have hH:H l=.none:=hs.none_of_io hl;refine⟨aU,fun m hm hn=>?_,⟨fun b hb=>?_,?_,fun b y hb=>?_,fun b m q hb=>?_,fun m=>?_⟩⟩
 ·have:m≠l:=fun h=>by subst h;exact hm hl
  rw[Heap.ai _ _ this];exact⟨hn,fun b q hb=>hk m b q hb⟩
 ·simp only[World.size_alloc]at hb;refine⟨(hs.fresh b Zx).1,?_⟩;simp only[G.newObj];rw[if_neg Zx];exact (hs.fresh b Zx).2
 ·obtain⟨N,hN⟩:=hs.names;refine⟨max N (l+1),fun m hm=>?_⟩;simp only[G.newObj];rw[if_neg Zx];exact hN m Zx
 ·simp only[G.newObj]at hb;split at hb
  ·rename_i h;subst h;exact (hs.fresh _ (Jt _)).1
  ·exact hs.excl b y hb
 ·simp only[G.newObj]at hb⊢;split at hb
  ·simp at hb;obtain⟨rfl,rfl⟩:=hb;simp
  ·split
   ·simp
   ·exact hs.named b m q hb
 ·by_cases hm:m=l
  ·subst hm;rw[Heap.aE];exact bn _ rfl
  ·have dx:=Heap.ai H ob hm;rw[dx,←dx];refine SatObj.keep hs aU (hk m) dx fun m' v left cur hc v' es hv=>?_;by_cases de:m'=l
   ·subst de;have lW:=hs.objs m;rw[hc]at lW;obtain⟨b,mb,si,se,h1,h2,h3,h4,h5⟩:=lW;rw[hl]at h4;simp at h4
   ·rw[Heap.ai _ _ de]at hv;exact .inl ⟨hv,hk m'⟩
theorem Tp {l:Nat}{cells:List C}{vs:Array Value}{T:TypeId}{H':Heap}(hr:∀(j:Nat) (c:C) (u:Value),cells[j]? = some c→vs[j]? = some u→RepC w g c u)(bz:vs.size=cells.length)
  (aU:Le g w (g.newObj l w.heap.size cells.length 0) (w.alloc (.cells vs T))) :
  SatObj H' (g.newObj l w.heap.size cells.length 0) (w.alloc (.cells vs T)) l (.st cells):=by
 refine⟨w.heap.size,cells.length,T,vs,ZG,ZG,Cj _ _,bz,fun k c v h1 h2=>.plain _ _ _ _ ((hr k c v h1 h2).mono aU)⟩
theorem Xz {cells:List C}{t:TypeId}{i:TypeInfo}{z:Value}{K:V→Heap→Prop}(hm:o.op=.alloc t)(hi:P.info? t=some i)(hz:i.zero=some z)(cU:BD cells z=true)
  (hs:Sat H g w) (ho:(EOp.alloc cells).eff P p e H K):EOk P H g w a o K:=by
 obtain⟨l,hl,hH⟩:=hs.newName;have hr:=Hg (w:=w) (g:=g) cU;have aU:=Ef hs hl cells.length 0 (.cells z.cells t);have aL:=Df hs hl cells.length 0 (.cells z.cells t) (.st cells) (fun g' hg=>by subst hg;exact Tp hr.2 hr.1 aU);refine EOk.value (v:=.pointer (some ⟨w.heap.size,0,none⟩)) (x:=.c (.ptr l 0)) ?_ (ho l hH) aL ?_
 ·simp[execOp,hm,Instr.alloc,DW hi hz,newVar,newRow]
 ·exact .c _ _ (.ptr l 0 w.heap.size cells.length 0 ZG)
theorem Qb1g {x:Opd}{x':Operand}{t:TypeId}{K:V→Heap→Prop}(hm:o.op=.box t x')(hx:mO x x'=true)
  (hs:Sat H g w) (he:EnvOk w g e a) (hp:p=true) (ho:(EOp.boxm x).eff P p e H K):EOk P H g w a o K:=by
 simp only[EOp.eff]at ho;obtain⟨h1,h2,h3⟩:=ho;have hr:=An he hx hp h1;obtain⟨hz,hc⟩:=Ga hr h2;obtain⟨l,hl,hH⟩:=hs.newName;have aU:=Ef hs hl (x.v e).cells.length 0 (.cells (a.eval x').cells t);have aL:=Df hs hl (x.v e).cells.length 0 (.cells (a.eval x').cells t) (.st (x.v e).cells) (fun g' hg=>by subst hg;exact Tp hc hz aU);refine EOk.value (v:=.pointer (some ⟨w.heap.size,0,none⟩)) (x:=.c (.ptr l 0)) ?_ (h3 l hH) aL ?_
 ·simp[execOp,hm,Instr.box,newVar,newRow]
 ·exact .c _ _ (.ptr l 0 w.heap.size (x.v e).cells.length 0 ZG)
def World.az (w:World)(b:Nat)(cs:Array Value)(T:TypeId):World:={ w with heap:=w.heap.setIfInBounds b (.cells cs T (0,0)) }
theorem GR {w:World}{b:Nat}{cs:Array Value}{T:TypeId}(h:b<w.heap.size):(World.az w b cs T).heap[b]? = some (.cells cs T (0,0)):=by
 simp[World.az,h]
theorem E4 {w:World}{b b':Nat}{cs:Array Value}{T:TypeId}(h:b'≠b):(World.az w b cs T).heap[b']? = w.heap[b']?:=by
 simp only[World.az];rw[Jr (Ne.symm h)]
theorem Qaf1 {w:World}{b k:Nat}{cs:Array Value}{T:TypeId}{v:Value}(h:w.heap[b]? = some (.cells cs T (0,0))) :
  w.setCell ⟨b,k,none⟩ v=World.az w b (cs.setIfInBounds k v) T:=by
 simp only[World.setCell,World.az];congr 1;apply Jag;apply Jbc;intro i;simp only[Jv,Jaa];by_cases hi:b=i
 ·subst hi;rw[if_pos rfl,h];have ae:b<w.heap.size:=by
   rcases Jh b w.heap.size with h'|h'
   ·exact h'
   ·simp[Ji h']at h
  simp[ae]
 ·rw[if_neg hi,Jr hi]
theorem Q7i (w:World)(b:Nat)(cs cs':Array Value)(T:TypeId):World.az (World.az w b cs T) b cs' T=World.az w b cs' T:=by
 simp only[World.az,Array.setIfInBounds_setIfInBounds]
theorem RK:∀(vs:List Value) (i:Nat) (w:World) (b k:Nat) (cs:Array Value) (T:TypeId),w.heap[b]? = some (.cells cs T (0,0))→k+i+vs.length≤cs.size→(∀v∈vs,v.oneCell'=true)→
  (storeCells ⟨b,k,none⟩ vs i).run P w=.ok () (World.az w b ((vs.zipIdx i).foldl (fun (cs:Array Value) (x:Value×Nat)=>cs.setIfInBounds (k+x.2) x.1) cs) T)
 |[],i,w,b,k,cs,T,h,_,_=>by
  simp only[storeCells,Sem.run_pure,List.zipIdx_nil,List.foldl_nil];congr 1;simp only[World.az];have ae:b<w.heap.size:=by
   rcases Jh b w.heap.size with h'|h'
   ·exact h'
   ·simp[Ji h']at h
  have:w.heap.setIfInBounds b (.cells cs T (0,0))=w.heap:=by
   apply Jag;apply Jbc;intro j;simp only[Jv];by_cases hj:b=j
   ·subst hj;rw[h];simp[ae]
   ·rw[Jr hj]
  rw[this]
 |v::vs,i,w,b,k,cs,T,h,hb,hv=>by
  simp only[J9]at hb;have ae:k+i<cs.size:=Zx
  have bW:w.cell? ⟨b,k+i,none⟩=some cs[k+i]:=by rw[Dt h];exact Jd ae
  have eS:w.frozen? ⟨b,k+i,none⟩=false:=by simp[World.frozen?,h]
  have h1:=hv v Zz;have aL:(store ⟨b,k+i,none⟩ v).run P w=.ok () (w.setCell ⟨b,k+i,none⟩ v):=by
   rw[run_store _ _ _ _ _ h1];simp[bW,eS]
  have iI:b<w.heap.size:=by
   rcases Jh b w.heap.size with h'|h'
   ·exact h'
   ·simp[Ji h']at h
  simp only[storeCells,Sem.run_bind,Ck,aL,Result.andThen_ok];rw[Qaf1 h];rw[RK vs (i+1) _ b k (cs.setIfInBounds (k+i) v) T (GR iI) ZD (fun x hx=>hv x Za9)];rw[Q7i];rfl
theorem Qbmu (hs:Sat H g w){l b:Nat}(hb:g.own b=some (l,[])){w':World}(bz:w'.heap.size=w.heap.size)(jo:∀b',b'≠b→w'.heap[b']? = w.heap[b']?)
  (gI:∀T n,w.shape? b=some (T,n)→w'.shape? b=some (T,n)) (ht:w'.tape=w.tape) (lQ:w'.os=w.os) (ry:w'.output=w.output):Le g w g w':=by
 refine⟨fun b' aZ=>⟨aZ,jo b' fun h=>?_⟩,fun _ _ h=>h,Zx,fun b' T n hn=>?_,ht,lQ,ry⟩
 ·subst h;rw[hs.excl _ _ hb]at aZ;simp at aZ
 ·by_cases h:b'=b
  ·subst h;exact gI T n hn
  ·rw[Sg (jo b' h)];exact hn
theorem Qazk {l b:Nat}(hb:g.own b=some (l,[])){w':World}(jo:∀b',b'≠b→w'.heap[b']? = w.heap[b']?){m:Nat}(hm:m≠l):C0 g w g w' m:=by
 intro b' q hq;refine⟨hq,jo b' fun h=>?_⟩;subst h;rw[hb]at hq;simp at hq;exact hm hq.1.symm
theorem RH {l b:Nat}(hb:g.own b=some (l,[])){w':World}(aU:Le g w g w')(jo:∀b',b'≠b→w'.heap[b']? = w.heap[b']?){q:List Nat}(hq:q≠[]){c:C}{v:Value}
  (h:RepO w g l q c v):RepO w' g l q c v:=by
 refine h.move aU fun r b' aZ=>⟨aZ,jo b' fun h=>?_⟩;subst h;rw[hb]at aZ;simp only[Jb,Jn,true_and]at aZ;have:=congrArg List.length aZ;simp at this;exact hq (Jw.1 Zx)
theorem Q9q (hs:Sat H g w){l b:Nat}(hb:g.own b=some (l,[])){w':World}(bz:w'.heap.size=w.heap.size)(jo:∀b',b'≠b→w'.heap[b']? = w.heap[b']?)
  (gI:∀T n,w.shape? b=some (T,n)→w'.shape? b=some (T,n)) (ht:w'.tape=w.tape) (lQ:w'.os=w.os) (ry:w'.output=w.output) (ob:Obj) (iU:H l≠.none)
  (bn:Le g w g w'→SatObj (H.set l ob) g w' l ob) (oi:∀v es,ob=.map v es→∃v0 es0,H l=.map v0 es0∧v0<v):Stp H g w (H.set l ob) g w':=by
 have aU:=Qbmu hs hb bz jo gI ht lQ ry;have hk:=fun (m:Nat) (hm:m≠l)=>Qazk (g:=g) (w:=w) hb jo hm;refine⟨aU,fun m hm hn=>?_,⟨fun b' aZ=>hs.fresh b' Zx,hs.names,hs.excl,hs.named,fun m=>?_⟩⟩
 ·have:m≠l:=fun h=>iU (h▸hn);rw[Heap.ai _ _ this];exact⟨hn,fun b' q hq=>hk m this b' q hq⟩
 ·by_cases hm:m=l
  ·subst hm;rw[Heap.aE];exact bn aU
  ·have dx:=Heap.ai H ob hm;rw[dx,←dx];refine SatObj.keep hs aU (hk m hm) dx fun m' v left cur hc v' es hv=>?_;by_cases de:m'=l
   ·subst de;rw[Heap.aE]at hv;obtain⟨v0,es0,q1,q2⟩:=oi v' es hv;exact .inr ⟨v0,es0,q1,q2⟩
   ·rw[Heap.ai _ _ de]at hv;exact .inl ⟨hv,hk m' de⟩
theorem Ee {w:World}{b:Nat}{x:Go.Obj}(h:w.heap[b]? = some x):b<w.heap.size:=by
 rcases Jh b w.heap.size with h'|h'
 ·exact h'
 ·simp[Ji h']at h
theorem HO (hs:Sat H g w){l b:Nat}(hb:g.own b=some (l,[])){cs cs':Array Value}{T:TypeId}(hw:w.heap[b]? = some (.cells cs T (0,0)))(bz:cs'.size=cs.size)(ob:Obj)(iU:H l≠.none)
  (bn:Le g w g (World.az w b cs' T)→(World.az w b cs' T).heap[b]? = some (.cells cs' T (0,0))→SatObj (H.set l ob) g (World.az w b cs' T) l ob)
  (oi:∀v es,ob≠.map v es):Stp H g w (H.set l ob) g (World.az w b cs' T):=by
 have ae:=Ee hw;refine Q9q hs hb (by simp[World.az]) (fun b' h=>E4 h) (fun T' n hn=>?_) rfl rfl rfl ob iU (fun aU=>bn aU (GR ae)) (fun v es h=>absurd h (oi v es));simp only[World.shape?,hw,Jb,Jn]at hn;simp only[World.shape?,GR ae,Jb,Jn];rw[bz];exact hn
theorem L4 {row vs:List C}{k j:Nat}(hb:k+vs.length≤row.length):(Dl row k vs)[j]? = if k≤j∧j<k+vs.length then vs[j-k]? else row[j]?:=by
 unfold Dl;by_cases hj:k≤j∧j<k+vs.length
 ·rw[if_pos hj,Jx,Jm ZD,Jj ZD];congr 1;simp;omega
 ·rw[if_neg hj];by_cases hl:j<k
  ·rw[Jx,Jj ZD,Jp,if_pos hl]
  ·rw[Jm ZD,Js];congr 1;simp;omega
theorem L3 {row vs:List C}{k:Nat}(hb:k+vs.length≤row.length):(Dl row k vs).length=row.length:=by
 simp[Dl];omega
theorem Qb3a {n:Nat}{x y:Opd}{x' y':Operand}{t:TypeId}{i:TypeInfo}{K:V→Heap→Prop}(hm:o.op=.store t x' y')(hi:P.info? t=some i)(bz:i.size=n)(hx:mO x x'=true)(hy:mO y y'=true)
  (hs:Sat H g w) (he:EnvOk w g e a) (hp:p=true) (ho:(EOp.sto n x y).eff P p e H K):EOk P H g w a o K:=by
 simp only[EOp.eff]at ho;obtain⟨h1,h2,h3,h4,h5,h6⟩:=ho;have hr:=An he hx hp h1;have i6:=An he hy hp h2;have cm:=GL i6 (fun hn=>by rw[hn]at h4;simp at h4;omega);rw[Bv h3]at hr;have ef:=hr.aR;generalize hq:a.eval x'=xv at ef;generalize jc:(x.v e).c1=cc at ef h6;have kj:∀v∈(a.eval y').cells.toList,v.oneCell'=true:=by
  intro v hv;obtain⟨j,hj⟩:=Jab hv;have cw:(a.eval y').cells[j]? = some v:=ZU
  have ae:j<(y.v e).cells.length:=by
   rw[←cm.1];rcases Jh j (a.eval y').cells.size with h|h
   ·exact h
   ·rw[Ji h]at cw;simp at cw
  exact (cm.2 j _ v (Je ae) cw).one
 have run:∀(b k:Nat) (cs:Array Value) (T:TypeId),xv=.pointer (some ⟨b,k,none⟩)→w.heap[b]? = some (.cells cs T (0,0))→k+n≤cs.size→
   ∃cs':Array Value,(execOp a.eval o).run P w=.ok .skip (World.az w b cs' T)∧cs'.size=cs.size∧
    ∀j,cs'[j]? = if k≤j∧j<k+n then (a.eval y').cells[j-k]? else cs[j]?:=by
  intro b k cs T hv hw hb;have am:(a.eval y').cells.toList.length=n:=by simp[cm.1,h4]
  have hf:=fun j=>Rr k (a.eval y').cells.toList 0 cs j ZY;refine⟨_,?_,(hf 0).1,fun j=>?_⟩
  ·have pX:(a.eval y').cells.size=n:=by rw[cm.1,h4]
   simp only[execOp,hm,hq,hv,Instr.storeAt,Instr.sureAddr,Sem.run_bind,Sem.run_pure,Result.andThen_ok,storeVar,Bi hi,bz];rw[if_neg (by simp[pX])];rw[RK _ 0 w b k cs T hw ZY kj];rfl
  ·rw[(hf j).2];simp only[J0,am,Jv]
 cases ef with
 |ptr l k b sz base bR=>
  simp only[BQ]at h6;split at h6
  ·rename_i cells hH
   obtain⟨h7,h8⟩:=h6;have bn:=hs.objs l;rw[hH]at bn;obtain⟨b',sz',T,cs,q1,q2,q3,q4,q5⟩:=bn;rw[bR]at q1;simp only[Jb,Jn]at q1;obtain⟨rfl,rfl,rfl⟩:=q1;obtain⟨cs',r1,r2,r3⟩:=run b (0+k) cs T rfl q3 Zx;refine EOk.skip (g':=g) r1 h8 ?_;refine HO hs q2 q3 r2 _ Zaw (fun aU fm=>?_) Zz;refine⟨b,sz,T,cs',bR,q2,fm,by rw[r2,q4,L3 h7],fun j c v e1 e2=>?_⟩;rw[L4 h7]at e1;rw[r3]at e2;by_cases hj:k≤j∧j<k+(y.v e).cells.length
   ·rw[if_pos hj]at e1;rw[if_pos Zx]at e2;exact .plain _ _ _ _ ((cm.2 _ _ _ e1 (by rw[←e2];congr 1;omega)).mono aU)
   ·rw[if_neg hj]at e1;rw[if_neg Zx]at e2;exact RH q2 aU (fun b' h=>E4 h) Zz (q5 j c v e1 e2)
  ·exact h6.elim
 |ep s z i k b off m cap gH hz dm=>
  simp only[BQ]at h6;split at h6
  ·simp_all
  ·rename_i l sz st nn z' i' k' mo
   simp only[C.ep.injEq]at mo;obtain⟨rfl,rfl,rfl,rfl⟩:=mo;split at h6
   ·rename_i y' rows hH
    obtain⟨rfl,rfl,h7,h8,h9,cS⟩:=h6;have bn:=hs.objs l;rw[hH]at bn
    cases gH with
    |bS=>omega
    |af _ _ _ _ _ _ base T mm bR hn gI dV=>
     obtain⟨b',base',T',cs,val,q1,q2,q3,q4,q5,q6,q7,q8⟩:=SatVec.of bn bR;rw[bR]at q1;simp only[Jb,Jn,true_and]at q1;obtain⟨rfl,rfl⟩:=q1;have aK:rows[st+i]? = some (rows.getD (st+i) []):=by
      rw[J2,Je Zx];rfl
     generalize fg:rows.getD (st+i) []=row at aK cS;have dQ:=q6 _ _ aK;have aW:(st+i) * z+z≤rows.length * z:=by
      have:(st+i+1) * z≤rows.length * z:=Jo _ Zx;rw[Jk,Jak]at this;exact this
     obtain⟨cs',r1,r2,r3⟩:=run b (base+st * z+i * z+k) cs T' rfl q3 (by
      have:st * z+i * z=(st+i) * z:=(by rw[Jk]);omega)
     refine EOk.skip (g':=g) r1 cS ?_;refine HO hs q2 q3 r2 _ Zaw (fun aU fm=>?_) Zz;have gA:k+(y.v e).cells.length≤row.length:=Zx;have ez:∀(i2:Nat) (row2:List C) (j:Nat) (c:C),(rows.set (st+i) (Dl row k (y.v e).cells))[i2]? = some row2→row2[j]? = some c→
       ∃v,cs'[base+i2 * z+j]? = some v∧RepO (World.az w b cs' T') g l [i2,j] c v:=by
      intro i2 row2 j c e1 e2;have aL:st * z+i * z=(st+i) * z:=(by rw[Jk]);rw[Jar]at e1;split at e1
      ·rename_i mf
       subst mf;rw[if_pos Zx]at e1;simp only[Jb]at e1;subst e1;rw[L4 gA]at e2;by_cases hj:k≤j∧j<k+(y.v e).cells.length
       ·rw[if_pos hj]at e2;have fb:j-k<(a.eval y').cells.size:=(by rw[cm.1];omega);refine⟨(a.eval y').cells[j-k],?_,?_⟩
        ·rw[r3,if_pos Zx];rw[show base+(st+i) * z+j-(base+st * z+i * z+k)=j-k by omega];exact Jd fb
        ·exact .plain _ _ _ _ ((cm.2 _ _ _ e2 (Jd fb)).mono aU)
       ·rw[if_neg hj]at e2;refine⟨val (st+i) j,?_,RH q2 aU (fun b' h=>E4 h) Zz (q8 _ _ _ _ aK e2)⟩;rw[r3,if_neg Zx];exact q7 _ _ _ _ aK e2
      ·rename_i mf
       have cj:=q6 _ _ e1;have iG:j<z:=by
        rw[←cj];rcases Jh j row2.length with h|h
        ·exact h
        ·rw[Jf h]at e2;simp at e2
       refine⟨val i2 j,?_,RH q2 aU (fun b' h=>E4 h) Zz (q8 _ _ _ _ e1 e2)⟩;rw[r3,if_neg ?_]
       ·exact q7 _ _ _ _ e1 e2
       ·intro fX;rcases Jh i2 (st+i)with h|h
        ·have:(i2+1) * z≤(st+i) * z:=Jo _ Zx;rw[Jk,Jak]at this;omega
        ·have:(st+i+1) * z≤i2 * z:=Jo _ Zx;rw[Jk,Jak]at this;omega
     refine .inr ⟨b,base,T',cs',fun i2 j=>cs'.getD (base+i2 * z+j) undef,bR,q2,fm,by rw[r2];simpa using q4,by simpa using q5,fun i2 row2 e1=>?_,fun i2 row2 j c e1 e2=>?_,fun i2 row2 j c e1 e2=>?_⟩
     ·rw[Jar]at e1;split at e1
      ·rw[if_pos Zx]at e1;simp only[Jb]at e1;subst e1;rw[L3 gA];exact dQ
      ·exact q6 _ _ e1
     ·obtain⟨v,f1,f2⟩:=ez i2 row2 j c e1 e2;show _=some (cs'.getD (base+i2 * z+j) undef);rw[Jc,f1];rfl
     ·obtain⟨v,f1,f2⟩:=ez i2 row2 j c e1 e2;show RepO _ _ _ _ _ (cs'.getD (base+i2 * z+j) undef);rw[Jc,f1];exact f2
   ·exact h6.elim
  ·exact h6.elim
 |_=>simp[BQ]at h6
theorem Hd {i j n sz:Nat}(hi:i<n)(hj:j<sz):i * sz+j<n * sz:=by
 have:(i+1) * sz≤n * sz:=Jo _ Zx;rw[Jk,Jak]at this;omega
theorem Ej {q n sz:Nat}(h:q<n * sz):q / sz<n∧q % sz<sz∧q / sz * sz+q % sz=q:=by
 have hz:0<sz:=by
  rcases Jan sz with h0|h0
  ·subst h0;simp at h
  ·exact h0
 exact⟨Nat.div_lt_of_lt_mul (by rw[Jbf];exact h),Jbl _ hz,by rw[Jbf];exact Nat.div_add_mod q sz⟩
theorem G3 (hs:Sat H g w){s:C}{v:Value}(h:RepC w g s v)(ho:bh H s){sz:Nat}(hz:s.aO=sz)(hn:∀r∈rowsOf H s,ak r=true) :
  ∃f:Nat→Value,(Builtin.firstCells sz (ay s) v).run P w=.ok ((List.range (ay s * sz)).map f).toArray w∧
   (∀q,q<ay s * sz→(f q).oneCell'=true)∧
   ∀(i:Nat) (row:List C) (j:Nat) (c:C),(rowsOf H s)[i]? = some row→row[j]? = some c→RepC w g c (f (i * sz+j)):=by
 obtain⟨ad,cap,rfl,h1,h2,h3,h4⟩:=G5 hs h ho;by_cases h0:ay s=0
 ·refine⟨fun _=>undef,?_,fun q hq=>by rw[h0]at hq;simp at hq,fun i row j c e1 _=>?_⟩
  ·rw[h0]
   cases ad with
   |none=>simp[Builtin.firstCells]
   |some x=>simp[Builtin.firstCells,loadCells,loadCellsFrom]
  ·have:(rowsOf H s)[i]? = none:=Jf Zx;rw[this]at e1;simp at e1
 ·obtain⟨b,off,rfl,h5⟩:=h4 h0;rw[hz]at h3 h5;have known:∀(i:Nat) (row:List C) (j:Nat) (c:C),(rowsOf H s)[i]? = some row→row[j]? = some c→w.cell? ⟨b,off+(i * sz+j),none⟩=some (getV w b off (i * sz+j))∧RepC w g c (getV w b off (i * sz+j)):=by
   intro i row j c e1 e2;obtain⟨u,k1,k2⟩:=h5 i row j c e1 e2 (Ix (hn row (Jg e1)) e2);rw[Jas]at k1;simp only[getV,k1,Jz];exact⟨trivial,k2⟩
  have flat:∀q,q<ay s * sz→w.cell? ⟨b,off+q,none⟩=some (getV w b off q)∧(getV w b off q).oneCell'=true:=by
   intro q hq;obtain⟨a1,a2,a3⟩:=Ej hq;have e1:(rowsOf H s)[q / sz]? = some ((rowsOf H s)[q / sz]'Zx):=Je Zx;have hl:=h3 _ _ e1;have e2:((rowsOf H s)[q / sz]'Zx)[q % sz]? = some (((rowsOf H s)[q / sz]'Zx)[q % sz]'Zx):=Je Zx;have:=known _ _ _ _ e1 e2;rw[a3]at this;exact⟨this.1,this.2.one⟩
  refine⟨getV w b off,?_,fun q hq=>(flat q hq).2,fun i row j c e1 e2=>(known i row j c e1 e2).2⟩;simp only[Builtin.firstCells];exact run_loadCells w _ _ _ fun j hj=>by rw[Ck];exact (flat j hj).1
theorem KI (n:Nat):∀(r c:Nat),Builtin.growBy n r c≤max c (n+(n+768) / 4)
 |0,c=>by simp[Builtin.growBy];omega
 |r+1,c=>by
  simp only[Builtin.growBy];split
  ·omega
  ·have:=KI n r (c+(c+768) / 4);omega
theorem Qbjm {need cap:Nat}(h:cap<need):Builtin.nextslicecap need cap≤2 * need+512:=by
 unfold Builtin.nextslicecap;split
 ·omega
 ·split
  ·omega
  ·have:=KI need 4 cap;omega
theorem Q7k {ats:Array TypeId}{ty t t2 el el2:TypeId}{i:TypeInfo}{sz:Nat}(h0:ats[0]? = some t)(h1:ats[1]? = some t2)(hu:P.underlying t=some (.slice el))(ee:P.underlying t2=some (.slice el2))
  (hi:P.info? el=some i) (hz:i.size=sz) {base:Option Addr} {n cap m cap2:Nat} {a2:Option Addr} {f:Nat→Value} (eD:n+m≤cap)
  (hf:(Builtin.firstCells sz m (.slice a2 m cap2)).run P w=.ok ((List.range (m * sz)).map f).toArray w)
  {w':World} (aL:∀x,base=some x→(storeCells (x.add (n * sz)) ((List.range (m * sz)).map f)).run P w=.ok () w') (kr:base=none→w'=w) :
  (Builtin.append_ ats ty #[.slice base n cap,.slice a2 m cap2]).run P w=.ok (.slice base (n+m) cap) w':=by
 simp only[Builtin.append_,h0,h1];simp[A0 hu,A0 ee,Bi hi,hz,Builtin.lenOf,eD,hf]
 cases base with
 |none=>simp[kr rfl]
 |some x=>simp[aL x rfl]
theorem Lu {ats:Array TypeId}{ty t t2 el el2:TypeId}{i:TypeInfo}{sz:Nat}{z:Value}(h0:ats[0]? = some t)(h1:ats[1]? = some t2)(hu:P.underlying t=some (.slice el))(ee:P.underlying t2=some (.slice el2))
  (hi:P.info? el=some i) (hz:i.size=sz) (cU:i.zero=some z) (kZ:z.cells.size=sz) (pI:i.bytes≤128) (mu:i.bytes≠0) {base:Option Addr} {n cap m cap2:Nat} {a2:Option Addr} {f f1:Nat→Value} (eD:¬n+m≤cap) (eA:n+m≤LIM)
  (iZ:(Builtin.firstCells sz m (.slice a2 m cap2)).run P w.drew=.ok ((List.range (m * sz)).map f).toArray w.drew)
  (kN:(Builtin.firstCells sz n (.slice base n cap)).run P w.drew=.ok ((List.range (n * sz)).map f1).toArray w.drew) :
  ∃(newCap:Nat) (rest:Array Value),n+m≤newCap∧rest.size=(newCap-(n+m)) * sz∧
   (Builtin.append_ ats ty #[.slice base n cap,.slice a2 m cap2]).run P w=.ok (.slice (some ⟨w.heap.size,0,none⟩) (n+m) newCap)
    (w.drew.alloc (.cells (((List.range (n * sz)).map f1).toArray++((List.range (m * sz)).map f).toArray++rest) el)):=by
 rw[CY]at eA;have tz:=Qbjm (Nat.lt_of_not_le eD);have rI:Builtin.nextslicecap (n+m) cap * i.bytes≤(2 * (n+m)+512) * 128:=Nat.mul_le_mul tz pI;have h48:(2:Nat) ^ 48=281474976710656:=ZK
 generalize ez:(Question.appendCap (n+m) cap el).cut (w.tape w.drawn (.appendCap (n+m) cap el))=newCap;refine⟨newCap,Builtin.zeroCells z.cells (newCap-(n+m)),?_,?_,?_⟩
 ·rw[←ez];simp[Question.cut]
 ·simp[Builtin.zeroCells,kZ]
 ·simp only[Builtin.append_,h0,h1];simp[A0 hu,A0 ee,Bi hi,hz,Builtin.lenOf,eD,Hs hi,mu];rw[if_neg Zx];simp[Question.forced,ez,kN,iZ,DW hi cU,newRow];rw[←Jam];simp
def G.handOver (g:G)(l l' st n nb sz base:Nat):G:=
 { g with
  own:=fun b=>if b=nb then some (l',[])else match g.own b with
   |none=>none
   |some (m,[])=>if m=l then none else some (m,[])
   |some (m,i::r)=>if m=l then (if st≤i∧i<st+n then some (l',(i-st)::r)else none)else some (m,i::r)
  io:=fun x=>if x=l' then some (nb,sz,base)else g.io x }
theorem Qaoo {l l' st n nb sz base b m:Nat}{q:List Nat}(hb:g.own b=some (m,q))(hm:m≠l)(ma:b≠nb):(g.handOver l l' st n nb sz base).own b=some (m,q):=by
 simp only[G.handOver,if_neg ma,hb]
 cases q with
 |nil=>simp[hm]
 |cons i r=>simp[hm]
theorem Q3a {l l' st n nb sz base b i:Nat}{r:List Nat}(hb:g.own b=some (l,(st+i)::r))(hi:i<n)(ma:b≠nb):(g.handOver l l' st n nb sz base).own b=some (l',i::r):=by
 simp only[G.handOver,if_neg ma,hb];simp[hi]
theorem N5 (hs:Sat H g w){l l':Nat}(du:g.io l'=none)(hl:H l≠.none){st n nb sz base:Nat}{w':World}{rows:List (List C)}
  (ma:(nb<w.heap.size∧g.own nb=some (l,[]))∨nb=w.heap.size) (bz:w.heap.size≤w'.heap.size) (rB:nb<w'.heap.size) (lI:w'.heap.size≤max w.heap.size (nb+1)) (jo:∀b,b≠nb→b<w.heap.size→w'.heap[b]? = w.heap[b]?)
  (gI:nb<w.heap.size→∀T k,w.shape? nb=some (T,k)→w'.shape? nb=some (T,k)) (ht:w'.tape=w.tape) (lQ:w'.os=w.os) (ry:w'.output=w.output)
  (bn:Le g w (g.handOver l l' st n nb sz base) w'→SatVec (g.handOver l l' st n nb sz base) w' l' sz rows) (y4:∀v es,H l≠.map v es) :
  Stp H g w ((H.set l .none).set l' (.vec sz rows)) (g.handOver l l' st n nb sz base) w':=by
 have k9:l≠l':=fun h=>by subst h;exact hl (hs.none_of_io du)
 have cW:g.per nb=false:=by
  rcases ma with ⟨_,h⟩|h
  ·exact hs.excl _ _ h
  ·exact (hs.fresh nb Zx).1
 have aU:Le g w (g.handOver l l' st n nb sz base) w':=by
  refine⟨fun b hb=>⟨hb,jo b (fun h=>by subst h;rw[cW]at hb;simp at hb) (EL hs hb)⟩,fun m x hm=>?_,bz,fun b T k hn=>?_,ht,lQ,ry⟩
  ·simp only[G.handOver];have:m≠l':=fun h=>by subst h;rw[du]at hm;simp at hm
   rw[if_neg this];exact hm
  ·have ae:=Ff hn;by_cases h:b=nb
   ·subst h;exact gI ae T k hn
   ·rw[Sg (jo b h ae)];exact hn
 have bx:∀(m b:Nat) (q:List Nat),g.own b=some (m,q)→m≠l→b≠nb:=by
  intro m b q hb hm h;subst h;rcases ma with ⟨_,h⟩|h
  ·rw[hb]at h;simp at h;exact hm h.1
  ·have:=Ct hs hb;omega
 have hk:∀m,m≠l→C0 g w (g.handOver l l' st n nb sz base) w' m:=by
  intro m hm b q hb;have h1:=bx m b q hb hm;exact⟨Qaoo hb hm h1,jo b h1 (Ct hs hb)⟩
 refine⟨aU,fun m hm hn=>?_,⟨fun b hb=>?_,?_,fun b y hb=>?_,fun b m q hb=>?_,fun m=>?_⟩⟩
 ·have h1:m≠l':=fun h=>by subst h;exact hm du
  have h2:m≠l:=fun h=>by subst h;exact hl hn
  rw[Heap.ai _ _ h1,Heap.ai _ _ h2];exact⟨hn,fun b q hb=>hk m h2 b q hb⟩
 ·have h1:w.heap.size≤b:=Zx
  have h2:b≠nb:=Zx
  refine⟨(hs.fresh b h1).1,?_⟩;simp only[G.handOver,if_neg h2,(hs.fresh b h1).2]
 ·obtain⟨N,hN⟩:=hs.names;refine⟨max N (l'+1),fun m hm=>?_⟩;simp only[G.handOver];rw[if_neg Zx];exact hN m Zx
 ·by_cases h:b=nb
  ·subst h;exact cW
  ·have:∃z,g.own b=some z:=by
    simp only[G.handOver,if_neg h]at hb
    cases ho:g.own b with
    |none=>rw[ho]at hb;simp at hb
    |some z=>exact⟨z,rfl⟩
   obtain⟨z,hz⟩:=this;exact hs.excl b z hz
 ·simp only[G.handOver]at hb⊢;split
  ·simp
  ·rename_i eY
   split at hb
   ·simp at hb;exact absurd hb.1.symm eY
   ·split at hb
    ·simp at hb
    ·rename_i m0 ho
     split at hb
     ·simp at hb
     ·simp at hb;obtain⟨rfl,rfl⟩:=hb;exact hs.named _ _ _ ho
    ·rename_i m0 i r ho
     split at hb
     ·split at hb
      ·simp at hb;exact absurd hb.1.symm eY
      ·simp at hb
     ·simp at hb;obtain⟨rfl,rfl⟩:=hb;exact hs.named _ _ _ ho
 ·by_cases de:m=l'
  ·subst de;rw[Heap.aE];exact .inr (bn aU)
  ·rw[Heap.ai _ _ de];by_cases hm:m=l
   ·subst hm;rw[Heap.aE];trivial
   ·have dx:((H.set l .none).set l' (.vec sz rows)) m=H m:=(by rw[Heap.ai _ _ de,Heap.ai _ _ hm]);rw[Heap.ai _ _ hm,←dx];refine SatObj.keep hs aU (hk m hm) dx fun k v left cur hc v' es hv=>?_;by_cases h1:k=l'
    ·subst h1;rw[Heap.aE]at hv;simp at hv
    ·rw[Heap.ai _ _ h1]at hv;by_cases h2:k=l
     ·subst h2;rw[Heap.aE]at hv;simp at hv
     ·rw[Heap.ai _ _ h2]at hv;exact .inl ⟨hv,hk k h2⟩
theorem Hi {g':G}{w':World}{l' sz nb base n m:Nat}{T:TypeId}{arr:Array Value}{R1 R2:List (List C)}(bR:g'.io l'=some (nb,sz,base))(i9:g'.own nb=some (l',[]))
  (hw:w'.heap[nb]? = some (.cells arr T (0,0))) (aW:base+(n+m) * sz≤arr.size) (eA:n+m≤LIM) (fG:R1.length=n) (zq:R2.length=m)
  (iT:∀(i:Nat) (row:List C),R1[i]? = some row→row.length=sz) (ig:∀(i:Nat) (row:List C),R2[i]? = some row→row.length=sz)
  (h1:∀(i:Nat) (row:List C) (j:Nat) (c:C),R1[i]? = some row→row[j]? = some c→∃v,arr[base+i * sz+j]? = some v∧RepO w' g' l' [i,j] c v)
  (h2:∀(i:Nat) (row:List C) (j:Nat) (c:C),R2[i]? = some row→row[j]? = some c→∃v,arr[base+(n+i) * sz+j]? = some v∧RepC w' g' c v) :
  SatVec g' w' l' sz (R1++R2):=by
 have cq:∀(i:Nat) (row:List C) (j:Nat) (c:C),(R1++R2)[i]? = some row→row[j]? = some c→∃v,arr[base+i * sz+j]? = some v∧RepO w' g' l' [i,j] c v:=by
  intro i row j c e1 e2;by_cases hi:i<n
  ·rw[Jj Zx]at e1;exact h1 i row j c e1 e2
  ·rw[Jm Zx]at e1;obtain⟨v,k1,k2⟩:=h2 (i-R1.length) row j c e1 e2;rw[fG,show n+(i-n)=i by omega]at k1;exact⟨v,k1,.plain _ _ _ _ k2⟩
 refine⟨nb,base,T,arr,fun i j=>arr.getD (base+i * sz+j) undef,bR,i9,hw,by rw[Jai,fG,zq];exact aW,by rw[Jai,fG,zq];exact eA,fun i row e1=>?_,fun i row j c e1 e2=>?_,fun i row j c e1 e2=>?_⟩
 ·by_cases hi:i<n
  ·rw[Jj Zx]at e1;exact iT i row e1
  ·rw[Jm Zx]at e1;exact ig _ row e1
 ·obtain⟨v,k1,k2⟩:=cq i row j c e1 e2;show _=some (arr.getD (base+i * sz+j) undef);rw[Jc,k1];rfl
 ·obtain⟨v,k1,k2⟩:=cq i row j c e1 e2;show RepO _ _ _ _ _ (arr.getD (base+i * sz+j) undef);rw[Jc,k1];exact k2
theorem P5 {n m sz:Nat}{f1 f:Nat→Value}{rest:Array Value} :
  (∀i j,i<n→j<sz→(((List.range (n * sz)).map f1).toArray++((List.range (m * sz)).map f).toArray++rest)[0+i * sz+j]? = some (f1 (i * sz+j)))∧
  (∀i j,i<m→j<sz→(((List.range (n * sz)).map f1).toArray++((List.range (m * sz)).map f).toArray++rest)[0+(n+i) * sz+j]? = some (f (i * sz+j))):=by
 constructor
 ·intro i j hi hj;have:=Hd hi hj;rw[Jam,Jal ZD];simp only[Jaw,Jl,J6];rw[Jaf this];rfl
 ·intro i j hi hj;have:=Hd hi hj;have e0:0+(n+i) * sz+j=n * sz+(i * sz+j):=ZaU
  rw[e0,Jam,Array.getElem?_append_right Zz];rw[Jal ZD];simp only[Jaw,Jl,List.size_toArray,List.length_map,Jbd,Nat.add_sub_cancel_left];rw[Jaf this];rfl
def G.newVirt (g:G)(l sz:Nat):G:={ g with io:=fun x=>if x=l then some (0,sz+1,0)else g.io x }
theorem LQ (hs:Sat H g w){l:Nat}(hl:g.io l=none)(sz:Nat):Stp H g w (H.set l (.vec sz [])) (g.newVirt l sz) w:=by
 have aU:Le g w (g.newVirt l sz) w:=by
  refine⟨fun b hb=>⟨hb,rfl⟩,fun m x hm=>?_,Jt _,fun _ _ _ h=>h,rfl,rfl,rfl⟩;simp only[G.newVirt];have:m≠l:=fun h=>by subst h;rw[hl]at hm;simp at hm
  rw[if_neg this];exact hm
 have hk:∀m,C0 g w (g.newVirt l sz) w m:=fun m b q hb=>⟨hb,rfl⟩;refine⟨aU,fun m hm hn=>?_,⟨hs.fresh,?_,hs.excl,fun b m q hb=>?_,fun m=>?_⟩⟩
 ·have:m≠l:=fun h=>by subst h;exact hm hl
  rw[Heap.ai _ _ this];exact⟨hn,fun b q hb=>hk m b q hb⟩
 ·obtain⟨N,hN⟩:=hs.names;refine⟨max N (l+1),fun m hm=>?_⟩;simp only[G.newVirt];rw[if_neg Zx];exact hN m Zx
 ·simp only[G.newVirt];split
  ·simp
  ·exact hs.named b m q hb
 ·by_cases hm:m=l
  ·subst hm;rw[Heap.aE];exact .inl ⟨rfl,_,by simp[G.newVirt];rfl,Zz⟩
  ·have dx:=Heap.ai H (.vec sz []) hm;rw[dx,←dx];refine SatObj.keep hs aU (hk m) dx fun m' v left cur hc v' es hv=>?_;by_cases de:m'=l
   ·subst de;rw[Heap.aE]at hv;simp at hv
   ·rw[Heap.ai _ _ de]at hv;exact .inl ⟨hv,hk m'⟩
theorem Ye (hs:Sat H g w)(l:Nat)(hm:∀v es,H l≠.map v es):Stp H g w (H.set l .none) g w:=by
 refine⟨.refl _ _,fun m hm hn=>?_,⟨hs.fresh,hs.names,hs.excl,hs.named,fun m=>?_⟩⟩
 ·by_cases h:m=l
  ·subst h;rw[Heap.aE];exact⟨rfl,fun b q hb=>⟨hb,rfl⟩⟩
  ·rw[Heap.ai _ _ h];exact⟨hn,fun b q hb=>⟨hb,rfl⟩⟩
 ·by_cases h:m=l
  ·subst h;rw[Heap.aE];trivial
  ·have dx:=Heap.ai H .none h;rw[dx,←dx];refine SatObj.keep hs (.refl _ _) (fun b q hb=>⟨hb,rfl⟩) dx fun m' v left cur hc v' es hv=>?_;by_cases de:m'=l
   ·subst de;rw[Heap.aE]at hv;simp at hv
   ·rw[Heap.ai _ _ de]at hv;exact .inl ⟨hv,fun b q hb=>⟨hb,rfl⟩⟩
theorem Qb23 {sz:Nat}{x y:Opd}{x' y':Operand}{ats:Array TypeId}{t t2 el el2:TypeId}{i:TypeInfo}{z:Value}{K:V→Heap→Prop}
  (hm:o.op=.call { callee:=.builtin .append,args:=#[x',y'],argTypes:=ats }) (h0:ats[0]? = some t) (h1:ats[1]? = some t2) (hu:P.underlying t=some (.slice el)) (ee:P.underlying t2=some (.slice el2))
  (hi:P.info? el=some i) (hz:i.size=sz) (cU:i.zero=some z) (kZ:z.cells.size=sz) (pI:i.bytes≤128) (mu:i.bytes≠0) (hx:mO x x'=true) (hy:mO y y'=true)
  (hs:Sat H g w) (he:EnvOk w g e a) (hp:p=true) (ho:(EOp.app sz x y).eff P p e H K):EOk P H g w a o K:=by
 simp only[EOp.eff]at ho;obtain⟨q1,q2,q3,q4,q5⟩:=ho;have gK:=An he hx hp q1;have i6:=An he hy hp q2;rw[Bv q3]at gK;rw[Bv q4]at i6;have jw:=gK.aR;have fu:=i6.aR;generalize lM:a.eval x'=xv at jw;generalize vh:a.eval y'=yv at fu;generalize (x.v e).c1=A at jw q5;generalize (y.v e).c1=B at fu q5;have dz:(execOp a.eval o).run P w=((Builtin.append_ ats o.type #[xv,yv]).run P w).andThen fun v w'=>.ok (.value v) w':=by
  simp[execOp,hm,resolve,invoke,builtin,lM,vh]
 unfold appT at q5;obtain⟨b1,b2,q5⟩:=q5;obtain⟨ady,capy,lc,by1,by2,by3,by4⟩:=G5 hs fu b1;rw[b2]at by3;have iR:=IA hs;split at q5
 ·
  rename_i z' rows
  obtain⟨rfl,c2,c3,c4,c5⟩:=q5;have qn:∀r∈rowsOf H B,ak r=true:=fun r hr=>c3 r (Jay _ hr);have jj:∃ad,xv=.slice ad rows.length rows.length:=by
   cases jw with
   |bP _ _ ad=>exact⟨ad,rfl⟩
   |sl _ _ _ b off cap val hl hf eC cW fg qt mQ=>rw[hf rfl];exact⟨_,rfl⟩
  obtain⟨ad,rfl⟩:=jj;by_cases kx:ay B=0
  ·have bT:rows=[]:=by
    rcases c2 with h|h
    ·exact h
    ·exact absurd (Jw.1 Zx) h
   subst bT;obtain⟨l,hl,xI⟩:=hs.newName;obtain⟨f,f1,f2,f3⟩:=G3 hs fu b1 b2 qn;rw[lc]at f1;have cH:=Q7k (P:=P) (w:=w) (ty:=o.type) (base:=ad) (n:=0) (cap:=0) (m:=ay B) h0 h1 hu ee hi hz Zx f1 (w':=w)
    (fun x _=>by rw[kx];simp[storeCells]) (fun _=>rfl)
   refine EOk.value (v:=.slice ad (0+ay B) 0) (by rw[dz,lc];simp only[Jax];rw[cH];rfl) (c5 l xI) ?_ ?_ (g':=g.newVirt l z')
   ·have vg:rowsOf H B=[]:=Jw.1 Zx;rw[vg];exact LQ hs hl z'
   ·simp only[Jax,kx,J0];exact .c _ _ (.bS _ _ _ _)
  ·obtain⟨l,hl,xI⟩:=iR.sat.newName;have wQ:=jw.mono iR.le;have pD:=fu.mono iR.le;have hA:∀r∈rowsOf H (C.sl true z' rows),ak r=true:=fun r hr=>c3 r (Ja0 _ hr);obtain⟨f,f1,f2,f3⟩:=G3 iR.sat pD b1 b2 qn;obtain⟨f',f1',f2',f3'⟩:=G3 iR.sat wQ (s:=.sl true z' rows) trivial (sz:=z') rfl hA;rw[lc]at f1;simp only[ay]at f1';obtain⟨newCap,rest,k1,k2,k3⟩:=Lu (P:=P) (w:=w) (ty:=o.type) h0 h1 hu ee hi hz cU kZ pI mu (base:=ad) (n:=rows.length) (cap:=rows.length) (m:=ay B) Zx c4 f1 f1';have bE:=P5 (n:=rows.length) (m:=ay B) (sz:=z') (f1:=f') (f:=f) (rest:=rest);generalize dI:(((List.range (rows.length * z')).map f').toArray++((List.range (ay B * z')).map f).toArray++rest)=arr at k3 bE;have kT:arr.size=newCap * z':=by
    rw[←dI];simp[k2];rw[←Jk,←Jk];congr 1;omega
   have aL:=Df iR.sat hl z' 0 (.cells arr el) (.vec z' (rows++rowsOf H B)) (fun g' hg=>by
    subst hg;have aU:=Ef iR.sat hl z' 0 (.cells arr el);refine .inr (Hi (nb:=w.drew.heap.size) (base:=0) (T:=el) (arr:=arr) (n:=rows.length) (m:=ay B) ZG ZG (Cj _ _)
     (by rw[kT,J6];exact Jo _ k1) c4 rfl Zx ?_ by3 ?_ ?_)
    ·cases jw with
     |bP=>simp
     |sl _ _ _ b off cap val hl hf eC cW fg qt mQ=>exact fg
    ·intro i row j c e1 e2;have tD:row.length=z':=by
      cases jw with
      |bP=>simp at e1
      |sl _ _ _ b off cap val hl hf eC cW fg qt mQ=>exact fg _ _ e1
     refine⟨f' (i * z'+j),bE.1 i j ?_ ?_,.plain _ _ _ _ ((f3' i row j c e1 e2).mono aU)⟩
     ·rcases Jh i rows.length with h|h
      ·exact h
      ·rw[Jf h]at e1;simp at e1
     ·rw[←tD];rcases Jh j row.length with h|h
      ·exact h
      ·rw[Jf h]at e2;simp at e2
    ·intro i row j c e1 e2;refine⟨f (i * z'+j),bE.2 i j ?_ ?_,(f3 i row j c e1 e2).mono aU⟩
     ·rcases Jh i (rowsOf H B).length with h|h
      ·omega
      ·rw[Jf h]at e1;simp at e1
     ·rw[←by3 i row e1];rcases Jh j row.length with h|h
      ·exact h
      ·rw[Jf h]at e2;simp at e2)
   refine EOk.value (v:=.slice (some ⟨w.heap.size,0,none⟩) (rows.length+ay B) newCap) (by rw[dz,lc,k3];rfl) (c5 l xI) (iR.trans aL) ?_;have:=RepC.af (w:=w.drew.alloc (.cells arr el)) (g:=g.newObj l w.drew.heap.size z' 0) l z' 0 (rows.length+ay B) newCap w.heap.size 0 el arr.size ZG k1
    ZR (by rw[kT];simp)
   simpa using RepV.c _ _ this
 ·
  rename_i l z' st n
  split at q5
  ·rename_i y0 rows hH
   obtain⟨tV,tY,c2,qn,c4,c5⟩:=q5;subst tY;subst tV;have bn:=hs.objs l;rw[hH]at bn;have mc:H l≠.none:=Zaw
   have iD:∀v es,H l≠.map v es:=Zaw
   have kQ:(∃ad,xv=.slice ad 0 0∧n=0)∨∃b base cap T mm,xv=.slice (some ⟨b,base+st * z',none⟩) n cap∧g.io l=some (b,z',base)∧n≤cap∧w.shape? b=some (T,mm)∧base+(st+cap) * z'≤mm:=by
    cases jw with
    |bS _ _ _ ad=>exact .inl ⟨ad,rfl,rfl⟩
    |af _ _ _ _ cap b base T mm bR hn gI dV=>exact .inr ⟨b,base,cap,T,mm,rfl,bR,hn,gI,dV⟩
   have bN:((rows.drop st).take n).length=n:=ZD
   have gL:∀(i:Nat) (row:List C),((rows.drop st).take n)[i]? = some row→i<n∧rows[st+i]? = some row:=by
    intro i row h;simp only[Jp,Js]at h;split at h
    ·exact⟨by assumption,h⟩
    ·simp at h
   have jlt:∀{row:List C} {j:Nat} {c:C} {k:Nat},row.length=k→row[j]? = some c→j<k:=by
    intro row j c k hk hj;rw[←hk];rcases Jh j row.length with h|h
    ·exact h
    ·rw[Jf h]at hj;simp at hj
   have grow:∀(ad:Option Addr) (cap:Nat),xv=.slice ad n cap→¬n+ay B≤cap→EOk P H g w a o K:=by
    intro ad cap jj qm;have pD:=fu.mono iR.le;obtain⟨f,f1,f2,f3⟩:=G3 iR.sat pD b1 b2 qn;rw[lc]at f1;have iA:∃f':Nat→Value,(Builtin.firstCells z' n (.slice ad n cap)).run P w.drew=.ok ((List.range (n * z')).map f').toArray w.drew∧
      ∀(i:Nat) (row:List C) (j:Nat) (c:C),((rows.drop st).take n)[i]? = some row→row[j]? = some c→RepO w g l [st+i,j] c (f' (i * z'+j)):=by
     rcases kQ with ⟨ad',h1,h2⟩|⟨b,base,cap',T,mm,h1,h2,h3,h4,h5⟩
     ·rw[jj]at h1;simp only[Value.slice.injEq]at h1;subst h2;refine⟨fun _=>undef,?_,fun i row j c e1 _=>by simp at e1⟩
      cases ad with
      |none=>simp[Builtin.firstCells]
      |some q=>simp[Builtin.firstCells,loadCells,loadCellsFrom]
     ·rw[jj]at h1;simp only[Value.slice.injEq]at h1;obtain⟨rfl,_,rfl⟩:=h1;obtain⟨b',base',T',cs,val,r1,r2,r3,r4,r5,r6,r7,r8⟩:=SatVec.of bn h2;rw[h2]at r1;simp only[Jb,Jn,true_and]at r1;obtain⟨rfl,rfl⟩:=r1;have aW:(st+n) * z'≤rows.length * z':=Jo _ c2;rw[Jk]at aW;refine⟨fun q=>cs.getD (base+st * z'+q) undef,?_,fun i row j c e1 e2=>?_⟩
      ·simp only[Builtin.firstCells];refine run_loadCells _ _ _ _ fun j hj=>?_;rw[Ck];rw[show w.drew.cell? ⟨b,base+st * z'+j,none⟩=w.cell? ⟨b,base+st * z'+j,none⟩ from rfl,Dt r3];rw[Jc,Jd Zx];rfl
      ·obtain⟨hi,e1'⟩:=gL i row e1;have:=r7 _ _ _ _ e1' e2;rw[Jk]at this;have e3:base+st * z'+(i * z'+j)=base+(st * z'+i * z')+j:=Zx;show RepO _ _ _ _ _ (cs.getD (base+st * z'+(i * z'+j)) undef);rw[e3,Jc,this];exact r8 _ _ _ _ e1' e2
    obtain⟨f',f1',f3'⟩:=iA;obtain⟨newCap,rest,k1,k2,k3⟩:=Lu (P:=P) (w:=w) (ty:=o.type) h0 h1 hu ee hi hz cU kZ pI mu (base:=ad) (n:=n) (cap:=cap) (m:=ay B) qm c4 f1 f1';have bE:=P5 (n:=n) (m:=ay B) (sz:=z') (f1:=f') (f:=f) (rest:=rest);generalize dI:(((List.range (n * z')).map f').toArray++((List.range (ay B * z')).map f).toArray++rest)=arr at k3 bE;have kT:arr.size=newCap * z':=by
     rw[←dI];simp[k2];rw[←Jk,←Jk];congr 1;omega
    obtain⟨l',du,gZ⟩:=iR.sat.newName;have k9:l'≠l:=fun h=>ZaB;have aL:=N5 iR.sat (l:=l) (l':=l') du mc (st:=st) (n:=n) (nb:=w.drew.heap.size) (sz:=z') (base:=0) (w':=w.drew.alloc (.cells arr el)) (rows:=(rows.drop st).take n++rowsOf H B)
     (.inr rfl) Zz Zz Zz (fun b hb ae=>Dr _ _ ae) (fun h=>absurd h (Nat.lt_irrefl _)) rfl rfl rfl (fun aU=>by
      refine Hi (nb:=w.drew.heap.size) (base:=0) (T:=el) (arr:=arr) (n:=n) (m:=ay B) Zak Zak (Cj _ _)
       (by rw[kT,J6];exact Jo _ k1) c4 bN Zx (fun i row h=>?_) by3 (fun i row j c e1 e2=>?_) (fun i row j c e1 e2=>?_)
      ·obtain⟨hi,h'⟩:=gL i row h;rcases bn with ⟨r1,_⟩|⟨b',base',T',cs,val,r1,r2,r3,r4,r5,r6,r7,r8⟩
       ·rw[r1]at h';simp at h'
       ·exact r6 _ _ h'
      ·obtain⟨hi,h'⟩:=gL i row e1;have dQ:row.length=z':=by
        rcases bn with ⟨r1,_⟩|⟨b',base',T',cs,val,r1,r2,r3,r4,r5,r6,r7,r8⟩
        ·rw[r1]at h';simp at h'
        ·exact r6 _ _ h'
       refine⟨f' (i * z'+j),bE.1 i j hi (jlt dQ e2),?_⟩;refine (f3' i row j c e1 e2).move (iR.le.trans aU) fun q b hb=>?_;have bB:=Ct hs hb;have dt:b≠w.drew.heap.size:=(by simp only[World.size_drew];omega);exact⟨Q3a hb hi dt,Dr _ _ bB⟩
      ·refine⟨f (i * z'+j),bE.2 i j ?_ (jlt (by3 i row e1) e2),(f3 i row j c e1 e2).mono aU⟩;rcases Jh i (rowsOf H B).length with h|h
       ·omega
       ·rw[Jf h]at e1;simp at e1) iD
    refine EOk.value (v:=.slice (some ⟨w.heap.size,0,none⟩) (n+ay B) newCap) (by rw[dz,jj,lc,k3];rfl) (c5 l' (by rw[Heap.ai _ _ k9];exact gZ)) (iR.trans aL) ?_;have:=RepC.af (w:=w.drew.alloc (.cells arr el)) (g:=g.handOver l l' st n w.drew.heap.size z' 0) l' z' 0 (n+ay B) newCap w.heap.size 0 el arr.size Zak k1
     ZR (by rw[kT];simp)
    simpa using RepV.c _ _ this
   rcases kQ with ⟨ad,jj,rfl⟩|⟨b,base,cap,T,mm,jj,bR,y6,gI,dV⟩
   ·by_cases kx:ay B=0
    ·
     obtain⟨f,f1,f2,f3⟩:=G3 hs fu b1 b2 qn;rw[lc]at f1;have cH:=Q7k (P:=P) (w:=w) (ty:=o.type) (base:=ad) (n:=0) (cap:=0) (m:=ay B) h0 h1 hu ee hi hz Zx f1 (w':=w)
      (fun x _=>by rw[kx];simp[storeCells]) (fun _=>rfl)
     have hd:=Ye hs l iD;obtain⟨l',du,gZ⟩:=hd.sat.newName;refine EOk.value (v:=.slice ad (0+ay B) 0) (by rw[dz,jj,lc,cH];rfl) (c5 l' gZ) ?_ ?_ (g':=g.newVirt l' z')
     ·have vg:rowsOf H B=[]:=Jw.1 Zx;rw[vg];simp only[List.take_zero,Jav];exact hd.trans (LQ hd.sat du z')
     ·simp only[kx,J0];exact .c _ _ (.bS _ _ _ _)
    ·exact grow ad 0 jj Zx
   ·by_cases eD:n+ay B≤cap
    ·
     obtain⟨b',base',T',cs,val,r1,r2,r3,r4,r5,r6,r7,r8⟩:=SatVec.of bn bR;rw[bR]at r1;simp only[Jb,Jn,true_and]at r1;obtain⟨rfl,rfl⟩:=r1;have vP:mm=cs.size∧T=T':=by
      simp only[World.shape?,r3,Jb,Jn]at gI;exact⟨gI.2.symm,gI.1.symm⟩
     obtain⟨rfl,rfl⟩:=vP;obtain⟨f,f1,f2,f3⟩:=G3 hs fu b1 b2 qn;rw[lc]at f1;have nC:(st+(n+ay B)) * z'≤(st+cap) * z':=Jo _ Zx;rw[Jk,Jk]at nC;have aW:base+st * z'+n * z'+ay B * z'≤cs.size:=by
      rw[Jk]at dV nC;omega
     have iX:=fun k=>Rr (base+st * z'+n * z') ((List.range (ay B * z')).map f) 0 cs k ZD;generalize sr:(((List.range (ay B * z')).map f).zipIdx 0).foldl (fun (cs:Array Value) (x:Value×Nat)=>cs.setIfInBounds (base+st * z'+n * z'+x.2) x.1) cs=cs' at iX;have jY:=RK (P:=P) ((List.range (ay B * z')).map f) 0 w b (base+st * z'+n * z') cs T r3 ZD (by
      intro v hv;simp only[Jbe,Jbk]at hv;obtain⟨q,hq,rfl⟩:=hv;exact f2 q hq)
     rw[sr]at jY;have cH:=Q7k (P:=P) (w:=w) (ty:=o.type) (base:=some ⟨b,base+st * z',none⟩) (n:=n) (cap:=cap) (m:=ay B) h0 h1 hu ee hi hz eD f1 (w':=World.az w b cs' T)
      (fun x hx=>by simp only[Jb]at hx;subst hx;rw[Ck];exact jY) (fun h=>ZF)
     have iI:=Ee r3;obtain⟨l',du,gZ⟩:=hs.newName;have k9:l'≠l:=fun h=>ZaB;have lI:cs'.size=cs.size:=(iX 0).1;have aL:=N5 hs (l:=l) (l':=l') du mc (st:=st) (n:=n) (nb:=b) (sz:=z') (base:=base+st * z') (w':=World.az w b cs' T) (rows:=(rows.drop st).take n++rowsOf H B)
      (.inl ⟨iI,r2⟩) (by simp[World.az]) (by simp[World.az];exact iI) (by simp[World.az];omega) (fun b' aZ _=>E4 aZ)
      (fun _ T0 k hk=>by
       simp only[World.shape?,r3,Jb,Jn]at hk;simp only[World.shape?,GR iI,lI,Jb,Jn];exact hk) rfl rfl rfl (fun aU=>by
       refine Hi (nb:=b) (base:=base+st * z') (T:=T) (arr:=cs') (n:=n) (m:=ay B) Zak Zak (GR iI)
        (by rw[lI,Jk];omega) c4 bN Zx (fun i row h=>r6 _ _ (gL i row h).2) by3 (fun i row j c e1 e2=>?_) (fun i row j c e1 e2=>?_)
       ·obtain⟨hi,h'⟩:=gL i row e1;have hj:=jlt (r6 _ _ h') e2;have ae:=Hd hi hj;refine⟨val (st+i) j,?_,?_⟩
        ·rw[(iX _).2,if_neg Zx,←r7 _ _ _ _ h' e2];congr 1;rw[Jk];omega
        ·refine (r8 _ _ _ _ h' e2).move aU fun q b2 bX=>?_;have dt:b2≠b:=fun h=>(by subst h;rw[r2]at bX;simp at bX);exact⟨Q3a bX hi dt,E4 dt⟩
       ·have hj:=jlt (by3 i row e1) e2;have hi:i<ay B:=by
         rcases Jh i (rowsOf H B).length with h|h
         ·omega
         ·rw[Jf h]at e1;simp at e1
        have ae:=Hd hi hj;refine⟨f (i * z'+j),?_,(f3 i row j c e1 e2).mono aU⟩;have rI:(n+i) * z'=n * z'+i * z':=(by rw[Jk]);rw[(iX _).2,if_pos ZD];rw[show base+st * z'+(n+i) * z'+j-(base+st * z'+n * z'+0)=i * z'+j by omega];simp only[Jl];rw[Jaf ae];rfl) iD
     refine EOk.value (v:=.slice (some ⟨b,base+st * z',none⟩) (n+ay B) cap) (by rw[dz,jj,lc,cH];rfl) (c5 l' (by rw[Heap.ai _ _ k9];exact gZ)) aL ?_;have:=RepC.af (w:=World.az w b cs' T) (g:=g.handOver l l' st n b z' (base+st * z')) l' z' 0 (n+ay B) cap b (base+st * z') T cs.size Zak eD
      (by simp only[World.shape?,GR iI,lI]) (by rw[J6];rw[Jk]at dV;omega)
     simpa using RepV.c _ _ this
    ·exact grow _ cap jj eD
  ·exact q5.elim
 ·exact q5.elim
end Go.AE
namespace Go.AE
open Go.MapKept (IsKey findNow_spec run_checkKey run_findKey run_keyThatStays)
variable {P:Program}{H:Heap}{g:G}{w:World}{e:Env}{a:Act}{o:Oper}{p:Bool}
theorem Qb27 {sz:Nat}{zero:List C}{x:Opd}{x' y':Operand}{t el:TypeId}{i:TypeInfo}{z:Value}{K:V→Heap→Prop}(hm:o.op=.makeSlice t x' y')(hu:P.underlying t=some (.slice el))
  (hi:P.info? el=some i) (hz:i.size=sz) (pZ:sz≠0) (cU:i.zero=some z) (j5:BD zero z=true) (kZ:zero.length=sz) (pI:i.bytes≤128) (hx:mO x x'=true) (hy:mO x y'=true)
  (hs:Sat H g w) (he:EnvOk w g e a) (hp:p=true) (ho:(EOp.mks sz zero x).eff P p e H K):EOk P H g w a o K:=by
 simp only[EOp.eff]at ho;obtain⟨q1,q2,q3,q4,q5⟩:=ho;have e1:=Cg he hx hp q1 q2;have e2:=Cg he hy hp q1 q2;generalize hk:Ag (x.v e)=k at *;have hr:=Hg (w:=w) (g:=g) j5;rw[CY]at q4;have yf:IntKind.i64.wrap k=k:=Ha (by unfold inR;simp[IntKind.min,IntKind.max,IntKind.signed,IntKind.bits];omega);have nE:(i.bytes:Int) * k≤128 * 549755813888:=by
  have h1:(i.bytes:Int) * k≤128 * k:=Int.mul_le_mul_of_nonneg_right Zx q3;omega
 have h48:(2:Int) ^ 48=281474976710656:=ZK
 obtain⟨l,hl,hH⟩:=hs.newName;have cN:z.cells.size=sz:=by rw[hr.1,kZ]
 have cC:k.toNat * sz=0∨k.toNat * sz≠0:=Zx
 have cH:∃arr:Array Value,(execOp a.eval o).run P w=.ok (.value (.slice (some ⟨w.heap.size,0,none⟩) k.toNat k.toNat)) (w.alloc (.cells arr el))∧arr.size=k.toNat * sz∧
   ∀q,q<k.toNat * sz→arr[q]? = z.cells[q % sz]?:=by
  by_cases hn:k.toNat * sz=0
  ·refine⟨(Array.range 0).map (fun _=>default),?_,ZaG,fun q hq=>Zx⟩;simp only[execOp,hm,e1,e2,Instr.makeSlice,Sem.run_bind,A0 hu,Result.andThen_ok,asInt,asIntOf,Sem.run_pure,Hs hi,yf];rw[if_neg ZD];simp[Bi hi,hz,hn,newRow]
  ·refine⟨(Array.range (k.toNat * sz)).map (z.cells[· % z.cells.size]!),?_,Zz,fun q hq=>?_⟩
   ·simp only[execOp,hm,e1,e2,Instr.makeSlice,Sem.run_bind,A0 hu,Result.andThen_ok,asInt,asIntOf,Sem.run_pure,Hs hi,yf];rw[if_neg ZD];simp only[Sem.run_bind,run_askRoom,Result.andThen_ok,Bi hi,hz,if_neg hn,DW hi cU,Sem.run_pure];simp[newRow]
   ·have ae:q % sz<z.cells.size:=(by rw[cN];exact Jbl _ (by omega));simp only[Ja5,cN];rw[Array.getElem?_range,if_pos hq];simp[ae]
 obtain⟨arr,h1,h2,h3⟩:=cH;have aU:=Ef hs hl sz 0 (.cells arr el);have aL:=Df hs hl sz 0 (.cells arr el) (.vec sz (List.replicate k.toNat zero)) (fun g' hg=>by
  subst hg;have dc:∀(i:Nat) (row:List C),(List.replicate k.toNat zero)[i]? = some row→i<k.toNat∧row=zero:=by
   intro i row h;rw[List.getElem?_replicate]at h;split at h
   ·exact⟨by assumption,by simpa using h.symm⟩
   ·simp at h
  have:=Hi (g':=g.newObj l w.heap.size sz 0) (w':=w.alloc (.cells arr el)) (l':=l) (sz:=sz) (nb:=w.heap.size) (base:=0) (n:=k.toNat) (m:=0) (T:=el) (arr:=arr) (R1:=List.replicate k.toNat zero) (R2:=[])
   ZG ZG (Cj _ _) ZZ (by rw[CY];omega) Zz rfl (fun i row h=>by rw[(dc i row h).2,kZ]) Zz
   (fun i row j c h h'=>by
    obtain⟨bO,rfl⟩:=dc i row h;have hj:j<sz:=by
     rw[←kZ];rcases Jh j row.length with h0|h0
     ·exact h0
     ·rw[Jf h0]at h';simp at h'
    have gA:=Hd bO hj;have vO:(i * sz+j) % sz=j:=(by rw[Jbf,Nat.mul_add_mod];exact Nat.mod_eq_of_lt hj);have yH:j<z.cells.size:=(by rw[cN];exact hj);refine⟨z.cells[j],?_,.plain _ _ _ _ ((hr.2 j c _ h' (Jd yH)).mono aU)⟩;rw[J6,h3 _ gA,vO];exact Jd yH) Zz
  rw[Jav]at this;exact .inr this)
 refine EOk.value h1 (q5 l hH) aL ?_;have:=RepC.af (w:=w.alloc (.cells arr el)) (g:=g.newObj l w.heap.size sz 0) l sz 0 k.toNat k.toNat w.heap.size 0 el arr.size ZG (Jt _)
  (by simp only[World.shape?,Cj]) ZZ
 simpa using RepV.c _ _ this
theorem Qb1h {K:V→Heap→Prop}{sz:Nat}{parts:List Opd}{t el:TypeId}{n:Nat}{parts':Array (Nat×Operand)}{i:TypeInfo}{z:Value}
  (hm:o.op=.buildSlice t n parts') (hu:P.underlying t=some (.slice el)) (hi:P.info? el=some i) (hz:i.zero=some z) (bz:i.size=sz) (oy:sz≠0)
  (hn:n=parts'.size) (pK:n * sz≤2 ^ 24) (iU:parts.length=parts'.size)
  (hx:∀(j:Nat) (x:Opd) (y:Nat×Operand),parts[j]? = some x→parts'[j]? = some y→y.1=j∧mO x y.2=true)
  (hs:Sat H g w) (he:EnvOk w g e a) (hp:p=true) (hK:(EOp.bslm sz parts).eff P p e H K):EOk P H g w a o K:=by
 simp only[EOp.eff]at hK;obtain⟨ho,hK⟩:=hK;have rm:(parts'.map fun (x:Nat×Operand)=>(x.1,a.eval x.2)).toList=parts'.toList.map fun (x:Nat×Operand)=>(x.1,a.eval x.2):=Zz
 have bE:∀(j:Nat) (y:Nat×Value),(parts'.toList.map fun (x:Nat×Operand)=>(x.1,a.eval x.2))[j]? = some y→
   ∃x y',parts[j]? = some x∧parts'[j]? = some y'∧y=(y'.1,a.eval y'.2):=by
  intro j y hj;simp only[Jl]at hj
  cases cw:parts'.toList[j]? with
  |none=>rw[cw]at hj;simp at hj
  |some y'=>
   rw[cw]at hj;simp at hj;have ae:j<parts.length:=by
    rw[iU];rcases Jh j parts'.size with h|h
    ·exact h
    ·simp[Ji h]at cw
   exact⟨_,y',Je ae,by simpa using cw,hj.symm⟩
 have aK:∀x∈parts,x.fine p e∧(x.v e).cells.length=sz∧(x.v e).cells≠[]:=fun x hx=>by
  obtain⟨q1,q2⟩:=ho x hx;exact⟨q1,q2,fun hn=>oy (by rw[←q2,hn];rfl)⟩
 have kA:(parts'.toList.map fun (x:Nat×Operand)=>(x.1,a.eval x.2)).length=n:=ZaG
 obtain⟨out,f1,f2,f3,f4⟩:=FV sz (parts'.toList.map fun (x:Nat×Operand)=>(x.1,a.eval x.2)) 0
  ((Array.range (n * sz)).map ((if n * sz=0 then #[]else z.cells)[· % (if n * sz=0 then #[]else z.cells).size]!)) (fun j y hj=>by
   obtain⟨x,y',e1,e2,rfl⟩:=bE j y hj;obtain⟨q1,q2⟩:=hx j x y' e1 e2;obtain⟨q3,q4,q5⟩:=aK x (Jg e1);refine⟨by simp[q1],?_⟩;rw[(GL (An he q2 hp q3) q5).1,q4]) (by rw[kA];simp)
 obtain⟨l,hl,hH⟩:=hs.newName;have cH:(execOp a.eval o).run P w=.ok (.value (.slice (some ⟨w.heap.size,0,none⟩) n n)) (w.alloc (.cells out el)):=by
  simp only[execOp,hm,Instr.buildSlice,Sem.run_bind,A0 hu,Result.andThen_ok,Bi hi,bz,rm];rw[if_neg Zx];by_cases h0:n * sz=0
  ·simp only[if_pos h0]at f1⊢;simp only[Sem.run_bind,Sem.run_pure,Result.andThen_ok];rw[f1];simp[newRow]
  ·simp only[if_neg h0]at f1⊢;simp only[Sem.run_bind,Sem.run_pure,Result.andThen_ok,DW hi hz];rw[f1];simp[newRow]
 have cY:(parts.map fun x=>(x.v e).cells).length=n:=by simp[iU,hn]
 have dX:∀(k:Nat) (row:List C),(parts.map fun x=>(x.v e).cells)[k]? = some row→∃x y,parts[k]? = some x∧parts'[k]? = some y∧row=(x.v e).cells:=by
  intro k row hk;simp only[Jl]at hk
  cases hj:parts[k]? with
  |none=>rw[hj]at hk;simp at hk
  |some x=>
   rw[hj]at hk;simp at hk;have ae:k<parts'.size:=by
    rw[←iU];rcases Jh k parts.length with h|h
    ·exact h
    ·rw[Jf h]at hj;simp at hj
   exact⟨x,parts'[k],rfl,Jd ae,hk.symm⟩
 have bW:∀(k:Nat) (row:List C) (j:Nat) (c:C),(parts.map fun x=>(x.v e).cells)[k]? = some row→row[j]? = some c→∃u,out[0+k * sz+j]? = some u∧RepC w g c u:=by
  intro k row j c hk hj;obtain⟨x,y,e1,e2,rfl⟩:=dX k row hk;obtain⟨q1,q2⟩:=hx k x y e1 e2;obtain⟨q3,q4,q5⟩:=aK x (Jg e1);have hr:=GL (An he q2 hp q3) q5;have iG:j<sz:=by
   rw[←q4];rcases Jh j (x.v e).cells.length with h|h
   ·exact h
   ·rw[Jf h]at hj;simp at hj
  have cj:j<(a.eval y.2).cells.size:=by rw[hr.1,q4];exact iG
  have:=f4 k (y.1,a.eval y.2) j (by simp only[Jl,Jv,e2,Jq]) iG;simp only[J6]at this⊢;rw[this];exact⟨_,Jd cj,hr.2 j c _ hj (Jd cj)⟩
 have lP:out.size=n * sz:=by
  rw[f2];simp
 have hn24:n≤16777216:=by
  have dk:n * 1≤n * sz:=Ja3 _ Zx;have xP:(2:Nat) ^ 24=16777216:=ZK
  rw[xP]at pK;omega
 have aU:=Ef hs hl sz 0 (.cells out el);have aL:=Df hs hl sz 0 (.cells out el) (.vec sz (parts.map fun x=>(x.v e).cells)) (fun g' hg=>by
  subst hg;have:=Hi (g':=g.newObj l w.heap.size sz 0) (w':=w.alloc (.cells out el)) (l':=l) (sz:=sz) (nb:=w.heap.size) (base:=0) (n:=n) (m:=0) (T:=el) (arr:=out) (R1:=parts.map fun x=>(x.v e).cells) (R2:=[])
   ZG ZG (Cj _ _) (by rw[lP];simp) (by rw[CY];omega) cY rfl
   (fun k row hk=>by obtain⟨x,y,e1,e2,rfl⟩:=dX k row hk;exact (aK x (Jg e1)).2.1) Zz
   (fun k row j c hk hj=>by
    obtain⟨u,e1,e2⟩:=bW k row j c hk hj;exact⟨u,e1,.plain _ _ _ _ (e2.mono aU)⟩) Zz
  rw[Jav]at this;exact .inr this)
 have dH:parts.length=n:=by rw[iU,hn]
 refine EOk.value cH (hK l hH) aL ?_;rw[dH];have:=RepC.af (w:=w.alloc (.cells out el)) (g:=g.newObj l w.heap.size sz 0) l sz 0 n n w.heap.size 0 el out.size ZG (Jt _)
  (by simp only[World.shape?,Cj]) (by rw[lP];simp)
 simpa using RepV.c _ _ this
theorem Qb26 {t:TypeId}{K:V→Heap→Prop}(hm:o.op=.makeMap t none)(hs:Sat H g w)(ho:EOp.mkm.eff P p e H K):EOk P H g w a o K:=by
 simp only[EOp.eff]at ho;obtain⟨l,hl,hH⟩:=hs.newName;have aL:=Df hs hl 0 0 (.map #[] 0) (.map 0 []) (fun g' hg=>by
  subst hg;exact⟨w.heap.size,#[],0,ZG,ZG,Cj _ _,rfl,by simp[CY],Zz,Zz,Zz⟩)
 refine EOk.value (v:=.map (some w.heap.size)) (w':=w.alloc (.map #[] 0)) (by simp[execOp,hm,Instr.makeMap]) (ho l hH) aL (.c _ _ (.mp l w.heap.size ZG))
def World.putObj' (w:World)(b:Nat)(x:Go.Obj):World:={ w with heap:=w.heap.setIfInBounds b x }
theorem N0 {w:World}{b:Nat}{x:Go.Obj}(h:b<w.heap.size):(World.putObj' w b x).heap[b]? = some x:=by simp[World.putObj',h]
theorem SN {w:World}{b b':Nat}{x:Go.Obj}(h:b'≠b):(World.putObj' w b x).heap[b']? = w.heap[b']?:=by
 simp only[World.putObj'];rw[Jr (Ne.symm h)]
theorem Fm {b:Nat}{x y:Go.Obj}(h:w.heap[b]? = some x)(hx:∀c T f,x≠.cells c T f):(setObj b y).run P w=.ok () (World.putObj' w b y):=by
 simp only[setObj,Sem.run,h];cases x <;> first|rfl|exact absurd rfl (hx _ _ _)
theorem Lv (hs:Sat H g w){l b:Nat}(hb:g.own b=some (l,[])){ms ms':Array MapEntry}{clock clock':Nat}(hw:w.heap[b]? = some (.map ms clock)){n:Nat}{es es':List (C×V)}(hH:H l=.map n es)
  (bn:Le g w g (World.putObj' w b (.map ms' clock'))→(World.putObj' w b (.map ms' clock')).heap[b]? = some (.map ms' clock')→SatObj (H.set l (.map (n+1) es')) g (World.putObj' w b (.map ms' clock')) l (.map (n+1) es')) :
  Stp H g w (H.set l (.map (n+1) es')) g (World.putObj' w b (.map ms' clock')):=by
 have ae:=Ee hw;refine Q9q hs hb (by simp[World.putObj']) (fun b' h=>SN h) (fun T' k hk=>?_) rfl rfl rfl _ Zaw (fun aU=>bn aU (N0 ae)) (fun v x h=>?_)
 ·simp[World.shape?,hw]at hk
 ·simp at h;exact⟨n,es,hH,Zx⟩
theorem Lx:∀(es:List (C×V)) (k:C) (v:V) (j:Nat) (x:C×V),es[j]? = some x→AR k x.1=true→(∀i y,i<j→es[i]? = some y→AR k y.1=false)→updE k v es=es.set j (k,v)
 |[],_,_,_,_,h,_,_=>ZF
 |y::es,k,v,0,x,h,hk,_=>by simp at h;subst h;simp[updE,hk]
 |y::es,k,v,j+1,x,h,hk,hh=>by
  have h0:=hh 0 y Zx rfl;simp only[updE,h0,Ju,if_false,List.set_cons_succ];rw[Lx es k v j x ZI hk fun i z hi hz=>hh (i+1) z Zx ZaM]
theorem P3:∀(es:List (C×V)) (k:C) (v:V),(∀x∈es,AR k x.1=false)→updE k v es=es++[(k,v)]
 |[],_,_,_=>rfl
 |y::es,k,v,h=>by
  simp only[updE,h y Zz,Ju,if_false,List.cons_append];rw[P3 es k v fun x hx=>h x Za9]
theorem If {c:C}{v:Value}{l:Nat}(h:RepC w g (.mp l) v):∃b,v=.map (some b)∧g.io l=some (b,0,0):=by
 cases h with
 |mp _ b bR=>exact⟨b,rfl,bR⟩
theorem K9 {tag:Nat}{x k y:Opd}{x' k' y':Operand}{t kt et:TypeId}{K:V→Heap→Prop}(hm:o.op=.mapUpdate t x' k' y'∨o.op=.insert t x' k' y')(hu:P.underlying t=some (.map kt et))
  (tG:P.underlying kt=some (tagD tag)) (hx:mO x x'=true) (hk:mO k k'=true) (hy:mO y y'=true)
  (hs:Sat H g w) (he:EnvOk w g e a) (hp:p=true) (ho:(EOp.upd tag x k y).eff P p e H K):EOk P H g w a o K:=by
 simp only[EOp.eff]at ho;obtain⟨q1,q2,q3,q4,q5,_,q6⟩:=ho;have gK:=An he hx hp q1;have rb:=An he hk hp q2;have i6:=An he hy hp q3;rw[Bv q4]at gK;rw[Bv q5]at rb;have jw:=gK.aR;have pG:=rb.aR;generalize lM:a.eval x'=xv at jw;generalize vk:a.eval k'=kv at pG;generalize vh:a.eval y'=yv at i6;generalize (x.v e).c1=A at jw q6;generalize (k.v e).c1=kc at pG q6;generalize y.v e=yc at i6 q6;have dz:(execOp a.eval o).run P w=((Instr.mapUpdate t xv kv yv).run P w).andThen fun _ w'=>.ok .skip w':=by
  rcases hm with hm|hm <;> simp[execOp,hm,lM,vk,vh]
 unfold updT at q6;split at q6
 ·rename_i l
  split at q6
  ·rename_i n es hH
   obtain⟨c1,c2,c3⟩:=q6;obtain⟨b,rfl,bR⟩:=If (c:=.unk) jw;have bn:=hs.objs l;rw[hH]at bn;obtain⟨b',ms,clock,r1,r2,r3,r4,r5,r6,r7,r8⟩:=bn;rw[bR]at r1;simp only[Jb,Jn,and_true]at r1;subst r1;have iF:=Gx c1 pG;have df:(getObj b).run P w=.ok (.map ms clock) w:=Zan
   rcases Kh c1 pG r4 r6 r8 with ⟨f1,f2,f3⟩|⟨j,m,ent,f1,f2,f3,f4,f5,f6,f7⟩
   ·
    rw[P3 es kc yc f3]at c3;refine EOk.skip (g':=g) (w':=World.putObj' w b (.map (ms.push { key:=kv,val:=yv,born:=clock }) (clock+1))) ?_ c3 ?_
    ·rw[dz];simp only[Instr.mapUpdate,Sem.run_bind,A0 hu,Result.andThen_ok,df,run_checkKey tG iF _ 9999,run_findKey tG f1,Fm r3 Zz]
    ·refine Lv hs r2 r3 hH fun aU fm=>?_;refine⟨b,_,_,aU.io _ _ bR,r2,fm,by simp[r4],by simp;omega,fun i' x' m' e1 e2=>?_,fun i' m' e1=>?_,fun i' j' m1 m2 e1 e2 jp=>?_⟩
     ·rw[J7]at e2;split at e2
      ·rename_i bO;simp at e2;subst e2
       rw[Jm Zx]at e1;rw[bO,r4]at e1;simp at e1;subst e1;exact⟨pG.mono aU,i6.mono aU⟩
      ·rename_i bO
       have:i'<es.length:=by
        rw[←r4];rcases Jh i' ms.size with h|h
        ·exact h
        ·rw[Ji h]at e2;simp at e2
       rw[Jj this]at e1;exact (r6 i' x' m' e1 e2).mono aU
     ·rw[J7]at e1;split at e1
      ·simp at e1;subst e1;simp
      ·have:=r7 i' m' e1;omega
     ·have old:∀(i':Nat) (m1:MapEntry),ms[i']? = some m1→m1.born<clock∧m1.key≠kv:=by
       intro i' m1 h1;refine⟨r7 _ _ h1,fun kB=>?_⟩;have ae:i'<es.length:=by
        rw[←r4];rcases Jh i' ms.size with h|h
        ·exact h
        ·rw[Ji h]at h1;simp at h1
       have tN:=Je ae;have:=(DB c1 (Jg tN) pG (r6 _ _ _ tN h1).1).2 kB;rw[f3 _ (Jg tN)]at this;simp at this
      rw[J7]at e1 e2;split at e1 <;> split at e2
      ·omega
      ·simp at e1;subst e1;have:=old _ _ e2;rcases jp with h|h
       ·simp at h;omega
       ·simp at h;exact absurd h.symm this.2
      ·simp at e2;subst e2;have:=old _ _ e1;rcases jp with h|h
       ·simp at h;omega
       ·simp at h;exact absurd h this.2
      ·exact r8 _ _ _ _ e1 e2 jp
   ·
    rw[Lx es kc yc j ent f4 f6 f7]at c3;have iG:j<ms.size:=by
     rcases Jh j ms.size with h|h
     ·exact h
     ·rw[Ji h]at f2;simp at f2
    refine EOk.skip (g':=g) (w':=World.putObj' w b (.map (ms.modify j fun e=>{ e with key:=kv,val:=yv }) clock)) ?_ c3 ?_
    ·rw[dz];simp only[Instr.mapUpdate,Sem.run_bind,A0 hu,Result.andThen_ok,df,run_checkKey tG iF _ 9999,run_findKey tG f1,f2,Jq,Jz,f3,run_keyThatStays iF];rw[Fm r3 Zz];rfl
    ·refine Lv hs r2 r3 hH fun aU fm=>?_;refine⟨b,_,_,aU.io _ _ bR,r2,fm,by simp[r4],by simpa using r5,fun i' x' m' e1 e2=>?_,fun i' m' e1=>?_,fun i' j' m1 m2 e1 e2 jp=>?_⟩
     ·rw[Jaa]at e2;rw[Jar]at e1;split at e2
      ·rename_i hj
       subst hj;rw[if_pos rfl,if_pos Zx]at e1;simp at e1;subst e1;rw[f2]at e2;simp at e2;subst e2;exact⟨pG.mono aU,i6.mono aU⟩
      ·rename_i hj
       rw[if_neg hj]at e1;exact (r6 i' x' m' e1 e2).mono aU
     ·rw[Jaa]at e1;split at e1
      ·rename_i hj;subst hj;rw[f2]at e1;simp at e1;subst e1;exact r7 j m f2
      ·exact r7 _ _ e1
     ·have old:∀(i':Nat) (m1:MapEntry),(ms.modify j fun e=>{ e with key:=kv,val:=yv })[i']? = some m1→∃m0,ms[i']? = some m0∧m0.born=m1.born∧m0.key=m1.key:=by
       intro i' m1 h1;rw[Jaa]at h1;split at h1
       ·rename_i hj;subst hj;rw[f2]at h1;simp at h1;subst h1;exact⟨m,f2,rfl,f3⟩
       ·exact⟨m1,h1,rfl,rfl⟩
      obtain⟨n1,k1,k2,k3⟩:=old _ _ e1;obtain⟨n2,k4,k5,k6⟩:=old _ _ e2;refine r8 _ _ _ _ k1 k4 ?_;rcases jp with h|h
      ·exact .inl (by rw[k2,k5,h])
      ·exact .inr (by rw[k3,k6,h])
  ·exact q6.elim
 ·exact q6.elim
end Go.AE
namespace Go.AE
variable {P:Program}{H:Heap}{g:G}{w:World}{e:Env}{a:Act}{o:Oper}{p:Bool}
theorem SW {f:FuncId}(h:fnOk P f=true)(args:Array Value)(w:World):(callFunc f args).run P w=.ok (.enter f args) w:=by
 unfold fnOk at h;split at h
 ·rename_i fn hf
  simp only[Ja,bne_iff_ne,ne_eq]at h;obtain⟨h1,h2⟩:=h;have hn:fn.body≠none:=by intro hb;rw[hb]at h1;simp at h1
  simp[callFunc,hf,h2,hn]
 ·simp at h
theorem LD {f:FuncId}{args:List V}{K:V→Heap→Prop}(hc:Qs P f args H K)(hs:Sat H g w){vs:List Value}(hl:vs.length=args.length)
  (hv:∀(j:Nat) (x:V) (u:Value),args[j]? = some x→vs[j]? = some u→RepV w g x u) (hr:(execOp a.eval o).run P w=.ok (.enter f vs.toArray) w):EOk P H g w a o K:=by
 intro Q next hn i8;unfold Oper.wp;rw[hr,Oper.upon_enter];refine (hc.2 g w vs hs hl hv).mono fun en w' h=>?_;rcases h with ⟨v,x,H',g',rfl,hk,aL,dc⟩|⟨v,H',g',rfl,hk,aL⟩
 ·exact hn x v w' H' g' hk aL dc
 ·exact i8 v w' H' g' hk aL
theorem Ku (he:EnvOk w g e a)(hp:p=true){xs:List Opd}{ys:List Operand}(hm:mOs xs ys=true)(hf:∀x∈xs,x.fine p e) :
  (ys.map a.eval).length=(xs.map fun x=>x.v e).length∧∀(j:Nat) (x:V) (u:Value),(xs.map fun x=>x.v e)[j]? = some x→(ys.map a.eval)[j]? = some u→RepV w g x u:=by
 obtain⟨h1,h2⟩:=Fu xs ys hm;refine⟨by simp[h1],fun j x u e1 e2=>?_⟩;simp only[Jl]at e1 e2
 cases hj:xs[j]? with
 |none=>rw[hj]at e1;simp at e1
 |some x0=>
  cases cw:ys[j]? with
  |none=>rw[cw]at e2;simp at e2
  |some y0=>
   rw[hj]at e1;rw[cw]at e2;simp at e1 e2;subst e1;subst e2;exact An he (h2 j x0 y0 hj cw) hp (hf x0 (Jg hj))
theorem Qb1i {f:Nat}{xs:List Opd}{as:Array Operand}{ats:Array TypeId}{K:V→Heap→Prop}(hm:o.op=.call { callee:=.value (.func f),args:=as,argTypes:=ats })(hx:mOs xs as.toList=true)
  (hs:Sat H g w) (he:EnvOk w g e a) (hp:p=true) (hf:∀x∈xs,x.fine p e) (hc:Qs P f (xs.map fun x=>x.v e) H K):EOk P H g w a o K:=by
 obtain⟨h1,h2⟩:=Ku he hp hx hf;refine LD hc hs h1 h2 ?_;have dI:as.map a.eval=(as.toList.map a.eval).toArray:=by apply Jag;simp
 simp only[execOp,hm,resolve,Deferred.ofValue,Act.eval,Sem.run_bind,Sem.run_pure,Result.andThen_ok,invoke];have:(#[]++as.map a.eval++#[]:Array Value)=(as.toList.map a.eval).toArray:=by rw[dI];simp
 rw[this];exact SW hc.1 _ w
theorem Xy {x:Opd}{y:Operand}{xs:List Opd}{as:Array Operand}{ats:Array TypeId}{K:V→Heap→Prop}(hm:o.op=.call { callee:=.value y,args:=as,argTypes:=ats })(hy:mO x y=true)(hx:mOs xs as.toList=true)
  (hs:Sat H g w) (he:EnvOk w g e a) (hp:p=true) (ho:(EOp.ba x xs).eff P p e H K):EOk P H g w a o K:=by
 simp only[EOp.eff]at ho;obtain⟨q1,hf,q2⟩:=ho;have hr:=An he hy hp q1;split at q2
 ·rename_i n caps hv
  rw[hv]at hr;obtain⟨cv,hq,cm,pE⟩:=hr.aR.fn_inv;obtain⟨h1,h2⟩:=Ku he hp hx hf;refine LD (vs:=as.toList.map a.eval++cv) q2 hs (by rw[Jai,Jai,h1];simp[cm]) (fun j z u e1 e2=>?_) ?_
  ·by_cases hj:j<(xs.map fun x=>x.v e).length
   ·rw[Jj hj]at e1;rw[Jj (by rw[h1];exact hj)]at e2;exact h2 j z u e1 e2
   ·rw[Jm Zx]at e1 e2;rw[h1]at e2;simp only[Jl]at e1
    cases hc:caps[j-(xs.map fun x=>x.v e).length]? with
    |none=>rw[hc]at e1;simp at e1
    |some c=>
     rw[hc]at e1;simp at e1;subst e1;exact .c _ _ (pE _ c u hc e2)
  ·have dI:as.map a.eval=(as.toList.map a.eval).toArray:=by apply Jag;simp
   simp only[execOp,hm,resolve,hq,Deferred.ofValue,Sem.run_bind,Sem.run_pure,Result.andThen_ok,invoke];have:(#[]++as.map a.eval++cv.toArray:Array Value)=(as.toList.map a.eval++cv).toArray:=by rw[dI];simp
   rw[this];exact SW q2.1 _ w
 ·exact q2.elim
theorem Qauc {t el:TypeId}(h:P.underlying t=some (.slice el))(d:Nat)(b:Option Addr)(n c:Nat)(w:World):(Op.equalIn (d+1) t (.slice b n c) (.slice none 0 0)).run P w=.ok b.isNone w:=by
 cases b <;> simp[Op.equalIn,A0 h]
theorem L9 {α:Type}:∀(l:List α) (i:Nat) (h:i<l.length),(l[i]::l.eraseIdx i).Perm l
 |x::l,0,_=>Zz
 |x::l,i+1,h=>by
  simp only[List.getElem_cons_succ,List.eraseIdx_cons_succ];exact (List.Perm.swap x _ _).trans ((L9 l i ZI).cons x)
theorem Qb1j {x:Opd}{x' y':Operand}{t t' el:TypeId}{K:V→Heap→Prop}(hm:o.op=.binOp .eql t x' y' t')(hu:P.underlying t=some (.slice el))(hx:mO x x'=true)(hy:a.eval y'=.slice none 0 0)
  (hs:Sat H g w) (he:EnvOk w g e a) (hp:p=true) (ho:(EOp.nilq x).eff P p e H K):EOk P H g w a o K:=by
 simp only[EOp.eff]at ho;obtain⟨q1,q2⟩:=ho;have hr:=An he hx hp q1;split at q2
 ·rename_i fl sz rows hv
  rw[hv]at hr;have pE:=hr.aR;generalize hq:a.eval x'=xv at pE;have ja:(execOp a.eval o).run P w=((binOp .eql t xv (.slice none 0 0)).run P w).andThen fun v w'=>.ok (.value v) w':=by
   simp only[execOp,hm,hq,hy,Sem.run_bind];rw[AK]
   ·simp
   ·intro cs ds h;simp at h
   ·intro h;simp at h
  have mo:∀b:Option Addr,∀n c,(Op.equal t (.slice b n c) (.slice none 0 0)).run P w=.ok b.isNone w:=by
   intro b n c;exact Qauc hu 9999 b n c w
  cases pE with
  |bP _ _ ad=>
   refine EOk.value (g':=g) (v:=.bool ad.isNone) (w':=w) ?_ (q2 ad.isNone (fun _=>rfl)) (.refl hs) (.c _ _ (.bool _));rw[ja];simp only[binOp,Sem.run_bind,mo,Result.andThen_ok,Sem.run_pure]
  |sl=>
   refine EOk.value (g':=g) (v:=.bool false) (w':=w) ?_ (q2 false Zz) (.refl hs) (.c _ _ (.bool _));rw[ja];simp only[binOp,Sem.run_bind,mo,Result.andThen_ok,Sem.run_pure];rfl
 ·exact q2.elim
theorem Qb29 {x:Opd}{x':Operand}{t kt et:TypeId}{K:V→Heap→Prop}(hm:o.op=.range t x')(hu:P.underlying t=some (.map kt et))(hx:mO x x'=true)
  (hs:Sat H g w) (he:EnvOk w g e a) (hp:p=true) (ho:(EOp.rng x).eff P p e H K):EOk P H g w a o K:=by
 simp only[EOp.eff]at ho;obtain⟨q1,q2⟩:=ho;have hr:=An he hx hp q1;obtain⟨l',du,gZ⟩:=hs.newName;split at q2
 ·rename_i l hv
  rw[hv]at hr;split at q2
  ·rename_i n es hH
   obtain⟨c1,c2⟩:=q2;obtain⟨b,hq,bR⟩:=If (c:=.unk) hr.aR;have bn:=hs.objs l;rw[hH]at bn;obtain⟨b',ms,clock,r1,r2,r3,r4,r5,r6,r7,r8⟩:=bn;rw[bR]at r1;simp only[Jb,Jn,and_true]at r1;subst r1;have df:(getObj b).run P w=.ok (.map ms clock) w:=Zan
   have k9:l≠l':=fun h=>by subst h;rw[du]at bR;simp at bR
   have aL:=Df hs du 0 0 (.mapIter (some b) clock #[] clock) (.iter (some (l,n)) es none) (fun g' hg=>by
    subst hg;refine⟨w.heap.size,b,clock,#[],ZG,ZG,Cj _ _,by simp[G.newObj,k9,bR],fun v es' iw=>?_⟩;rw[Heap.ai _ _ k9,hH]at iw;simp only[Obj.map.injEq]at iw;obtain⟨rfl,rfl⟩:=iw;refine⟨Jt _,fun _=>⟨ms,(Dr _ _ (Ee r3)).trans r3,r4,c1,c1,fun x=>⟨fun hx=>?_,fun hx=>?_⟩,Zz⟩⟩
    ·obtain⟨i,hi⟩:=Jab hx;have ae:i<ms.size:=by
      rw[r4];rcases Jh i es.length with h|h
      ·exact h
      ·rw[Jf h]at hi;simp at hi
     exact⟨i,ms[i],hi,Jd ae,Zz⟩
    ·obtain⟨i,m,h1,_⟩:=hx;exact Jg h1)
   refine EOk.value (v:=.pointer (some ⟨w.heap.size,0,none⟩)) (w':=w.alloc (.mapIter (some b) clock #[] clock)) ?_ (c2 l' gZ) aL (.c _ _ (.itr l' w.heap.size ZG));simp[execOp,hm,hq,Instr.range,A0 hu,df]
  ·exact q2.elim
 ·rename_i hv
  rw[hv]at hr;have hq:a.eval x'=.map none:=by
   have:=hr.aR;generalize a.eval x'=xv at this;cases this;rfl
  have aL:=Df hs du 0 0 (.mapIter none 0 #[] 0) (.iter none [] none) (fun g' hg=>by
   subst hg;exact⟨w.heap.size,0,#[],0,ZG,ZG,Cj _ _,rfl⟩)
  refine EOk.value (v:=.pointer (some ⟨w.heap.size,0,none⟩)) (w':=w.alloc (.mapIter none 0 #[] 0)) ?_ (q2 l' gZ) aL (.c _ _ (.itr l' w.heap.size ZG));simp[execOp,hm,hq,Instr.range,A0 hu]
 ·exact q2.elim
theorem I5 {v:Value}{l:Nat}(h:RepC w g (.itr l) v):∃b,v=.pointer (some ⟨b,0,none⟩)∧g.io l=some (b,0,0):=by
 cases h with
 |itr _ b bR=>exact⟨b,rfl,bR⟩
theorem Qbjq {r mb since:Nat}{seen:Array Nat}{ms:Array MapEntry}{t:TypeId}(hr:w.heap[r]? = some (.mapIter (some mb) since seen since))(gm:w.heap[mb]? = some (.map ms since))
  (ae:∀(i:Nat) (m:MapEntry),ms[i]? = some m→m.born<since) :
  ((∀(i:Nat) (m:MapEntry),ms[i]? = some m→m.born∈seen)∧(Instr.next (.pointer (some ⟨r,0,none⟩)) false t).run P w=.ok (.tuple #[.bool false]) w)∨
  ∃(w1:World) (i:Nat) (m:MapEntry),ms[i]? = some m∧m.born∉seen∧(w1=w∨w1=w.drew)∧
   (Instr.next (.pointer (some ⟨r,0,none⟩)) false t).run P w=.ok (.tuple #[.bool true,m.key,m.val]) (World.putObj' w1 r (.mapIter (some mb) since (seen.push m.born) since)):=by
 have g1:(getObj r).run P w=.ok (.mapIter (some mb) since seen since) w:=by simp[getObj,Sem.run,hr]
 have g2:(getObj mb).run P w=.ok (.map ms since) w:=by simp[getObj,Sem.run,gm]
 have iA:∀m∈ms,m.born<since:=by
  intro m hm;obtain⟨i,hi⟩:=Jaj hm;exact ae i m hi
 have wU:(!seen.isEmpty&&!ms.isEmpty&&ms.all (fun m=>decide (m.born≥since)))=false:=by
  by_cases h:ms=#[]
  ·subst h;simp
  ·have bx:0<ms.size:=by
    rcases Jan ms.size with h0|h0
    ·exact absurd (Jat.1 h0) h
    ·exact h0
   have:ms.all (fun m=>decide (m.born≥since))=false:=by
    rw[Bool.eq_false_iff];intro cq;rw[Array.all_eq_true]at cq;have:=cq 0 bx;simp at this;have:=iA ms[0] (Jba bx);omega
   rw[this];simp
 generalize gP:ms.filter (fun m=>!seen.contains m.born)=left;have bZ:∀m,m∈left↔m∈ms∧m.born∉seen:=by
  intro m;rw[←gP];simp[Array.mem_filter]
 have r9:left.filter (fun m=>decide (m.born<since))=left:=by
  rw[Array.filter_eq_self];intro m hm;simpa using iA m ((bZ m).1 hm).1
 have rG:left.filter (fun m=>decide (m.born≥since))=#[]:=by
  rw[Array.filter_eq_empty_iff];intro m hm;have:=iA m ((bZ m).1 hm).1;simp;omega
 have bV:(Instr.next (.pointer (some ⟨r,0,none⟩)) false t).run P w =
   ((choose (.mapNext ((if left.isEmpty then #[none]else #[])++left.map some).size)).run P w).andThen fun k w'=>
    (match ((if left.isEmpty then #[none]else #[])++left.map some)[k]? with
     |some (some e)=>(do setObj r (.mapIter (some mb) since (seen.push e.born) since);pure (.tuple #[.bool true,e.key,e.val]):Sem Value)
     |some none=>pure (.tuple #[.bool false])
     | none => stuck "Next: no such candidate").run P w' := by
  simp only[Instr.next,Sem.run_bind,g1,Result.andThen_ok,g2];simp only[wU,Ju,if_false,gP,r9,rG,Array.append_empty];simp only[Sem.run_bind]
  first|rfl|(congr 1;funext k w';split <;> simp)
 by_cases tM:left=#[]
 ·left;refine⟨fun i m hm=>?_,?_⟩
  ·by_cases hc:m.born∈seen
   ·exact hc
   ·have:m∈left:=(bZ m).2 ⟨Jau hm,hc⟩;rw[tM]at this;simp at this
  ·rw[bV,tM];simp[Question.forced]
 ·right;have kh:0<left.size:=by
   rcases Jan left.size with h0|h0
   ·exact absurd (Jat.1 h0) tM
   ·exact h0
  have mg:left.isEmpty=false:=by simpa using tM
  have hk:∃(k:Nat) (w1:World),k<left.size∧(w1=w∨w1=w.drew)∧(choose (.mapNext left.size)).run P w=.ok k w1:=by
   by_cases h1:left.size≤1
   ·exact⟨0,w,kh,.inl rfl,by simp[Question.forced,h1]⟩
   ·refine⟨w.tape w.drawn (.mapNext left.size) % left.size,w.drew,Jbl _ kh,.inr rfl,?_⟩;simp[Question.forced,h1,Question.cut]
  obtain⟨k,w1,k1,k2,k3⟩:=hk;have rO:left[k]? = some left[k]:=Jd k1;obtain⟨m1,m2⟩:=(bZ left[k]).1 (Jba k1);obtain⟨i,hi⟩:=Jaj m1;refine⟨w1,i,left[k],hi,m2,k2,?_⟩;rw[bV];simp only[mg,Ju,if_false,Array.empty_append,Array.size_map,k3,Result.andThen_ok,Ja5,rO,Jq,Sem.run_bind];have cG:w1.heap[r]? = some (.mapIter (some mb) since seen since):=by rcases k2 with rfl|rfl <;> exact hr
  rw[Fm cG Zz];rfl
theorem Qb28 {x:Opd}{x':Operand}{K:V→Heap→Prop}(hm:o.op=.next x' false)(hx:mO x x'=true)
  (hs:Sat H g w) (he:EnvOk w g e a) (hp:p=true) (ho:(EOp.nxt x).eff P p e H K):EOk P H g w a o K:=by
 simp only[EOp.eff]at ho;obtain⟨q1,q2⟩:=ho;have hr:=An he hx hp q1;split at q2
 ·rename_i i hv
  rw[hv]at hr;obtain⟨b,hq,bR⟩:=I5 hr.aR;have bn:=hs.objs i;split at q2
  ·rename_i left cur hH
   rw[hH]at bn;obtain⟨b',si,se,la,r1,r2,r3,r4⟩:=bn;rw[bR]at r1;simp only[Jb,Jn,and_true]at r1;subst r1;have df:(getObj b).run P w=.ok (.mapIter none si se la) w:=Zan
   refine EOk.value (g':=g) (v:=.tuple #[.bool false]) (w':=w) (by simp[execOp,hm,hq,Instr.next,df]) q2 (.refl hs) (.tup _ [.bool false] rfl fun j x u e1 e2=>?_)
   cases j with
   |zero=>simp at e1 e2;subst e1;subst e2;exact .c _ _ (.bool _)
   |succ j=>simp at e1
  ·rename_i l n left cur hH
   obtain⟨⟨es,pw⟩,c1,c2⟩:=q2;rw[hH]at bn;obtain⟨b',mb,si,se,r1,r2,r3,r4,r5⟩:=bn;rw[bR]at r1;simp only[Jb,Jn,and_true]at r1;subst r1;obtain⟨_,h5⟩:=r5 n es pw;obtain⟨ms,f1,f2,f3,f4,f5,f6⟩:=h5 rfl;have eX:=hs.objs l;rw[pw]at eX;obtain⟨mb',ms',clock,d1,d2,d3,d4,d5,d6,d7,d8⟩:=eX;rw[r4]at d1;simp only[Jb,Jn,and_true]at d1;subst d1;rw[f1]at d3;simp only[Jb,Go.Obj.map.injEq]at d3;obtain⟨rfl,rfl⟩:=d3;have dz:(execOp a.eval o).run P w=((Instr.next (.pointer (some ⟨b,0,none⟩)) false o.type).run P w).andThen fun v w'=>.ok (.value v) w':=by
    simp[execOp,hm,hq]
   rcases Qbjq (P:=P) (t:=o.type) r3 f1 d7 with ⟨k1,k2⟩|⟨w1,ix,m,k1,k2,k3,k4⟩
   ·have iU:left=[]:=by
     cases left with
     |nil=>rfl
     |cons y r=>
      obtain⟨iy,my,a1,a2,a3⟩:=(f5 y).1 Zz;exact absurd (k1 iy my a2) a3
    refine EOk.value (g':=g) (v:=.tuple #[.bool false]) (w':=w) (by rw[dz,k2];rfl) (c1 iU) (.refl hs) (.tup _ [.bool false] rfl fun j x u e1 e2=>?_)
    cases j with
    |zero=>simp at e1 e2;subst e1;subst e2;exact .c _ _ (.bool _)
    |succ j=>simp at e1
   ·have gw:ix<es.length:=by
     rw[←f2];rcases Jh ix ms.size with h|h
     ·exact h
     ·rw[Ji h]at k1;simp at k1
    have gD:=Je gw;generalize hxx:es[ix]=xx at gD;have dA:xx∈left:=(f5 xx).2 ⟨ix,m,gD,k1,k2⟩;obtain⟨q,oG,lM⟩:=List.getElem_of_mem dA;have ki:=L9 left q oG;rw[lM]at ki;have cr:(xx::left.eraseIdx q).Nodup:=ki.nodup_iff.2 f4;have nl:∀y,y∈left.eraseIdx q↔y∈left∧y≠xx:=by
     intro y;rw[←ki.mem_iff];rw[Jaz]at cr;constructor
     ·intro hy;exact⟨by simp[hy],fun h=>cr.1 (h▸hy)⟩
     ·rintro⟨hy,bx⟩;simp at hy;exact hy.resolve_left bx
    have hk:=c2 xx (left.eraseIdx q) dA nl (Jaz.1 cr).2 (by rw[List.length_eraseIdx,if_pos oG];omega);have db:Stp H g w H g w1:=by
     rcases k3 with rfl|rfl
     ·exact .refl hs
     ·exact IA hs
    have fy:∀bb:Nat,w1.heap[bb]? = w.heap[bb]?:=(by intro bb;rcases k3 with rfl|rfl <;> rfl);have wd:l≠i:=fun h=>(by subst h;rw[pw]at hH;simp at hH);have vT:mb≠b:=fun h=>(by subst h;rw[f1]at r3;simp at r3);have aL:Stp H g w1 (H.set i (.iter (some (l,n)) (left.eraseIdx q) (some xx))) g (World.putObj' w1 b (.mapIter (some mb) si (se.push m.born) si)):=by
     have ae:b<w1.heap.size:=Ee ((fy b).trans r3);refine Q9q db.sat r2 (by simp[World.putObj']) (fun b' h=>SN h) (fun T' k hk=>?_) rfl rfl rfl _ Zaw (fun aU=>?_) Zz
     ·simp[World.shape?,fy,r3]at hk
     ·refine⟨b,mb,si,se.push m.born,bR,r2,N0 ae,r4,fun v es' iw=>?_⟩;rw[Heap.ai _ _ wd,pw]at iw;simp only[Obj.map.injEq]at iw;obtain⟨rfl,rfl⟩:=iw;refine⟨Jt _,fun _=>⟨ms,?_,f2,f3,(Jaz.1 cr).2,fun y=>?_,fun y hy=>?_⟩⟩
      ·rw[SN vT,fy];exact f1
      ·rw[nl y,f5 y];constructor
       ·rintro⟨⟨iy,my,a1,a2,a3⟩,bx⟩;refine⟨iy,my,a1,a2,fun dm=>?_⟩;rw[Jbj]at dm;rcases dm with dm|dm
        ·exact a3 dm
        ·have:=d8 iy ix my m a2 k1 (.inl dm);subst this;rw[gD]at a1;simp at a1;exact bx a1.symm
       ·rintro⟨iy,my,a1,a2,a3⟩;rw[Jbj,not_or]at a3;refine⟨⟨iy,my,a1,a2,a3.1⟩,fun h=>?_⟩;subst h;have yL:iy<es.length:=by
         rcases Jh iy es.length with h|h
         ·exact h
         ·rw[Jf h]at a1;simp at a1
        have:iy=ix:=(List.getElem_inj (h₀:=yL) (h₁:=gw) f3).1 (by
         rw[Je yL]at a1;simp at a1;rw[a1,hxx])
        subst this;rw[k1]at a2;simp at a2;subst a2;exact a3.2 rfl
      ·simp at hy;subst hy;exact⟨ix,m,gD,k1,Zz⟩
    have sN:=d6 ix xx m gD k1;refine EOk.value (v:=.tuple #[.bool true,m.key,m.val]) (by rw[dz,k4];rfl) hk (db.trans aL) (.tup _ [.bool true,m.key,m.val] rfl fun j y u e1 e2=>?_);have rN:=(db.trans aL).le
    match j with
    |0=>simp at e1 e2;subst e1;subst e2;exact .c _ _ (.bool _)
    |1=>simp at e1 e2;subst e1;subst e2;exact .c _ _ (sN.1.mono rN)
    |2=>simp at e1 e2;subst e1;subst e2;exact sN.2.mono rN
    |j+3=>simp at e1
  ·exact q2.elim
 ·exact q2.elim
theorem Qb25 {x:Opd}{x':Operand}{K:V→Heap→Prop}(hm:o.op=.entry x')(hx:mO x x'=true)
  (hs:Sat H g w) (he:EnvOk w g e a) (hp:p=true) (ho:(EOp.ent x).eff P p e H K):EOk P H g w a o K:=by
 simp only[EOp.eff]at ho;obtain⟨q1,q2⟩:=ho;have hr:=An he hx hp q1;split at q2
 ·rename_i i hv
  rw[hv]at hr;obtain⟨b,hq,bR⟩:=I5 hr.aR;have bn:=hs.objs i;split at q2
  ·rename_i l n left xx hH
   obtain⟨⟨es,pw⟩,c1⟩:=q2;rw[hH]at bn;obtain⟨b',mb,si,se,r1,r2,r3,r4,r5⟩:=bn;rw[bR]at r1;simp only[Jb,Jn,and_true]at r1;subst r1;obtain⟨_,h5⟩:=r5 n es pw;obtain⟨ms,f1,f2,f3,f4,f5,f6⟩:=h5 rfl;obtain⟨ix,m,k1,k2,k3⟩:=f6 xx rfl;have eX:=hs.objs l;rw[pw]at eX;obtain⟨mb',ms',clock,d1,d2,d3,d4,d5,d6,d7,d8⟩:=eX;rw[r4]at d1;simp only[Jb,Jn,and_true]at d1;subst d1;rw[f1]at d3;simp only[Jb,Go.Obj.map.injEq]at d3;obtain⟨rfl,rfl⟩:=d3;have g1:(getObj b).run P w=.ok (.mapIter (some mb) si se si) w:=Zan
   have g2:(getObj mb).run P w=.ok (.map ms si) w:=by simp[getObj,Sem.run,f1]
   have sj:ms.find? (fun x=>x.born == m.born)=some m:=by
    cases hf:ms.find? (fun x=>x.born == m.born)with
    |none=>
     rw[Array.find?_eq_none]at hf;have:=hf m (Jau k2);simp at this
    |some m'=>
     have h1:=Array.find?_some hf;obtain⟨i',bO⟩:=Jaj (Array.mem_of_find?_eq_some hf);have:i'=ix:=d8 i' ix m' m bO k2 (.inl Zah);subst this;rw[k2]at bO;exact bO.symm
   refine EOk.value (g':=g) (v:=.tuple #[m.key,m.val]) (w':=w) ?_ c1 (.refl hs) (.tup _ [m.key,m.val] rfl fun j y u e1 e2=>?_)
   ·simp[execOp,hm,hq,Instr.entry,g1,k3,g2,sj]
   ·have sN:=d6 ix xx m k1 k2
    match j with
    |0=>simp at e1 e2;subst e1;subst e2;exact .c _ _ sN.1
    |1=>simp at e1 e2;subst e1;subst e2;exact sN.2
    |j+2=>simp at e1
  ·exact q2.elim
 ·exact q2.elim
theorem Qb24 {sz:Nat}{x y:Opd}{x' y':Operand}{ats:Array TypeId}{t el:TypeId}{i:TypeInfo}{K:V→Heap→Prop}
  (hm:o.op=.call { callee:=.builtin .copy,args:=#[x',y'],argTypes:=ats }) (b7:ats[0]? = some t) (hu:P.underlying t=some (.slice el))
  (hi:P.info? el=some i) (hz:i.size=sz) (hx:mO x x'=true) (hy:mO y y'=true)
  (hs:Sat H g w) (he:EnvOk w g e a) (hp:p=true) (ho:(EOp.cpy sz x y).eff P p e H K):EOk P H g w a o K:=by
 simp only[EOp.eff]at ho;obtain⟨q1,q2,q3,q4,q5,q6,q7⟩:=ho;have gK:=An he hx hp q1;have i6:=An he hy hp q2;rw[Bv q4]at i6;have qg:=i6.aR;generalize (y.v e).c1=sx at *;rw[Bv q3]at gK;have ef:=gK.aR;generalize (x.v e).c1=cx at *;generalize vm:a.eval x'=xv at ef;generalize tr:a.eval y'=yv at qg;split at q7
 ·rename_i l z' st n
  split at q7
  ·rename_i y2 rows hH
   obtain⟨rfl,rfl,k3,k4,k5,k6⟩:=q7;obtain⟨f,f1,f2,f3⟩:=G3 (P:=P) hs qg q5 q6 k5;obtain⟨ad,cap2,rfl,r1',r2',r3',_⟩:=G5 hs qg q5;rw[q6]at r3';have vQ:Nat.min (ay sx) n=ay sx:=Nat.min_eq_left k4;generalize kx:ay sx=m at *;by_cases qo:m=0
   ·subst qo;have bM:rowsOf H sx=[]:=Jw.1 Zx;have e0:rows.take st++rowsOf H sx++rows.drop (st+0)=rows:=(by rw[bM];simp);rw[e0,Heap.set_self _ _ _ hH]at k6;refine EOk.value (g':=g) (v:=.int .i64 0) (w':=w) ?_ k6 (.refl hs) (.c _ _ (.int _ _));simp at f1
    cases ef with
    |bS _ _ _ ad2=>cases ad2 <;> simp[execOp,hm,resolve,invoke,builtin,vm,tr,Builtin.copy_,Builtin.lenOf,b7,A0 hu,Bi hi,hz,f1,storeCells,goInt]
    |af=>simp[execOp,hm,resolve,invoke,builtin,vm,tr,Builtin.copy_,Builtin.lenOf,b7,A0 hu,Bi hi,hz,f1,storeCells,goInt]
   ·cases ef with
    |bS=>exact absurd (Nat.le_zero.1 k4) qo
    |af _ _ _ _ cap b base T mm bR hn' gI dV=>
     have bn:=hs.objs l;rw[hH]at bn;obtain⟨b',base',T',cs,val,r1,r2,r3,r4,r5,r6,r7,r8⟩:=SatVec.of bn bR;rw[bR]at r1;simp only[Jb,Jn,true_and]at r1;obtain⟨rfl,rfl⟩:=r1;have am:((List.range (m * y2)).map f).length=m * y2:=Zz;have kj:∀v∈(List.range (m * y2)).map f,v.oneCell'=true:=by
      intro v hv;obtain⟨q,hq,rfl⟩:=Jbe.1 hv;exact f2 q (Jbk.1 hq)
     have aW:(st+n) * y2≤rows.length * y2:=Jo _ k3;have yN:m * y2≤n * y2:=Jo _ k4;rw[Jk]at aW;have hf:=fun j=>Rr (base+st * y2) ((List.range (m * y2)).map f) 0 cs j ZY;have cH:=RK (P:=P) ((List.range (m * y2)).map f) 0 w b (base+st * y2) cs T' r3 ZY kj;generalize sr:(((List.range (m * y2)).map f).zipIdx 0).foldl (fun (cs:Array Value) (x:Value×Nat)=>cs.setIfInBounds (base+st * y2+x.2) x.1) cs=cs' at hf cH;refine EOk.value (g':=g) (v:=.int .i64 m) (w':=World.az w b cs' T') ?_ k6 ?_ (.c _ _ (.int _ _))
     ·simp[execOp,hm,resolve,invoke,builtin,vm,tr,Builtin.copy_,Builtin.lenOf,b7,A0 hu,Bi hi,hz,vQ,f1,cH,goInt]
     ·refine HO hs r2 r3 (hf 0).1 _ Zaw (fun aU fm=>?_) Zz;have aK:∀(i2:Nat) (row:List C),(rows.take st++rowsOf H sx++rows.drop (st+m))[i2]? = some row→
        (st≤i2∧i2<st+m∧(rowsOf H sx)[i2-st]? = some row)∨((i2<st∨st+m≤i2)∧rows[i2]? = some row):=by
       intro i2 row h;by_cases h1:i2<st
       ·rw[Jx,Jj ZD,Jp,if_pos h1]at h;exact .inr ⟨.inl h1,h⟩
       ·by_cases h2:i2<st+m
        ·rw[Jj ZD,Jm ZD]at h;refine .inl ⟨Zx,h2,?_⟩;have e:i2-(rows.take st).length=i2-st:=ZD;rw[e]at h;exact h
        ·rw[Jm ZD,Js]at h;refine .inr ⟨.inr Zx,?_⟩;rw[←h];congr 1;simp;omega
      have eL:∀(i2:Nat) (row:List C) (j:Nat) (c:C),(rows.take st++rowsOf H sx++rows.drop (st+m))[i2]? = some row→row[j]? = some c→
        ∃v,cs'[base+i2 * y2+j]? = some v∧RepO (World.az w b cs' T') g l [i2,j] c v:=by
       intro i2 row j c e1 e2;have fb:j<row.length:=(Jao.1 e2).1;rcases aK i2 row e1 with ⟨a1,a2,a3⟩|⟨a1,a2⟩
       ·rw[r3' _ _ a3]at fb;have hq1:(i2-st) * y2+j<m * y2:=Hd Zx fb;refine⟨f ((i2-st) * y2+j),?_,.plain _ _ _ _ ((f3 _ _ _ _ a3 e2).mono aU)⟩;have pm:i2 * y2=st * y2+(i2-st) * y2:=(by rw[←Jk];congr 1;omega);rw[(hf _).2,if_pos ZY,pm];have:base+(st * y2+(i2-st) * y2)+j-(base+st * y2+0)=(i2-st) * y2+j:=Zx;rw[this,Jl,Jaf hq1];rfl
       ·refine⟨val i2 j,?_,RH r2 aU (fun b' h=>E4 h) Zz (r8 _ _ _ _ a2 e2)⟩;have hjy:j<y2:=(by rw[←r6 _ _ a2];exact fb);rw[(hf _).2,if_neg ?_]
        ·exact r7 _ _ _ _ a2 e2
        ·rw[am];intro fX;rcases a1 with h|h
         ·have:(i2+1) * y2≤st * y2:=Jo _ Zx;rw[Jk,Jak]at this;omega
         ·have:(st+m) * y2≤i2 * y2:=Jo _ h;rw[Jk]at this;omega
      have k9:(rows.take st++rowsOf H sx++rows.drop (st+m)).length=rows.length:=ZD;refine .inr ⟨b,base,T',cs',fun i2 j=>cs'.getD (base+i2 * y2+j) undef,bR,r2,fm,?_,?_,fun i2 row h=>?_,fun i2 row j c e1 e2=>?_,fun i2 row j c e1 e2=>?_⟩
      ·rw[(hf 0).1,k9];exact r4
      ·rw[k9];exact r5
      ·rcases aK i2 row h with ⟨_,_,a3⟩|⟨_,a2⟩
       ·exact r3' _ _ a3
       ·exact r6 _ _ a2
      ·obtain⟨v,h1,h2⟩:=eL i2 row j c e1 e2;rw[h1];simp[Jc,h1]
      ·obtain⟨v,h1,h2⟩:=eL i2 row j c e1 e2;have e0:cs'.getD (base+i2 * y2+j) undef=v:=(by simp[Jc,h1]);show RepO _ _ _ _ _ (cs'.getD (base+i2 * y2+j) undef);rw[e0];exact h2
  ·exact q7.elim
 ·exact q7.elim
def Dx (P:Program)(el:TypeId)(sz:Nat):Bool:=
 match P.info? el with
 |some i=>i.size == sz&&decide (i.bytes≤128)&&decide (i.bytes≠0)&&(match i.zero with
  |some z=>z.cells.size == sz
  |none=>false)
 |none=>false
theorem LF {el:TypeId}{sz:Nat}(h:Dx P el sz=true):∃i z,P.info? el=some i∧i.size=sz∧i.zero=some z∧z.cells.size=sz∧i.bytes≤128∧i.bytes≠0:=by
 unfold Dx at h;split at h
 ·rename_i i hi
  simp only[Ja,decide_eq_true_eq,beq_iff_eq]at h;obtain⟨⟨⟨h1,h2⟩,h3⟩,h4⟩:=h;split at h4
  ·rename_i z hz;exact⟨i,z,hi,h1,hz,by simpa using h4,h2,h3⟩
  ·simp at h4
 ·simp at h
def mMap (P:Program)(t:TypeId)(tag:Nat):Bool:=
 match P.underlying t with
 |some (.map kt _)=>(match P.underlying kt with
  |some d=>Dy d tag
  |none=>false)
 |_=>false
theorem KS {t:TypeId}{tag:Nat}(h:mMap P t tag=true):∃kt et,P.underlying t=some (.map kt et)∧P.underlying kt=some (tagD tag):=by
 unfold mMap at h;split at h
 ·rename_i kt et hu
  split at h
  ·rename_i d hd;have:=LM h;subst this;exact⟨kt,et,hu,hd⟩
  ·simp at h
 ·simp at h
def mE (P:Program)(o:Oper):EOp→Bool
 |.alloc cells=>match o.op with
  |.alloc t=>CA P t cells
  |_=>false
 |.boxm x=>match o.op with
  |.box _ x'=>mO x x'
  |_=>false
 |.sto n x y=>match o.op with
  |.store t x' y'=>Bo P t n&&mO x x'&&mO y y'
  |_=>false
 |.app sz x y=>match o.op with
  |.call { callee:=.builtin .append,args:=⟨[x',y']⟩,argTypes:=ats }=>mO x x'&&mO y y'&&(match ats[0]?,ats[1]? with
   |some t,some t2=>(match P.underlying t,P.underlying t2 with
    |some (.slice el),some (.slice _)=>Dx P el sz
    |_,_=>false)
   |_,_=>false)
  |_=>false
 |.mks sz zero x=>match o.op with
  |.makeSlice t x' y'=>mO x x'&&mO x y'&&zero.length == sz&&decide (sz≠0)&&(match P.underlying t with
   |some (.slice el)=>Dx P el sz&&CA P el zero
   |_=>false)
  |_=>false
 |.mkm=>match o.op with
  |.makeMap _ none=>true
  |_=>false
 |.upd tag x k y=>match o.op with
  |.mapUpdate t x' k' y'=>mO x x'&&mO k k'&&mO y y'&&mMap P t tag
  |.insert t x' k' y'=>mO x x'&&mO k k'&&mO y y'&&mMap P t tag
  |_=>false
 |.del tag x k=>false
 |.clrm x=>false
 |.clrs sz zero x=>false
 |.call f xs=>match o.op with
  |.call { callee:=.value (.func f'),args:=as,argTypes:=_ }=>f == f'&&mOs xs as.toList
  |_=>false
 |.ba x xs=>match o.op with
  |.call { callee:=.value y,args:=as,argTypes:=_ }=>mO x y&&mOs xs as.toList
  |_=>false
 |.rng x=>match o.op with
  |.range t x'=>mO x x'&&(match P.underlying t with
   |some (.map _ _)=>true
   |_=>false)
  |_=>false
 |.nxt x=>match o.op with
  |.next x' false=>mO x x'
  |_=>false
 |.ent x=>match o.op with
  |.entry x'=>mO x x'
  |_=>false
 |.nilq x=>match o.op with
  |.binOp .eql t x' (.const (.slice none 0 0)) _=>mO x x'&&(match P.underlying t with
   |some (.slice _)=>true
   |_=>false)
  |_=>false
 |.cpy sz x y=>match o.op with
  |.call { callee:=.builtin .copy,args:=⟨[x',y']⟩,argTypes:=ats }=>mO x x'&&mO y y'&&(match ats[0]? with
   |some t=>(match P.underlying t with
    |some (.slice el)=>Bo P el sz
    |_=>false)
   |none=>false)
  |_=>false
 |.bslm sz parts=>match o.op with
  |.buildSlice t n parts'=>n == parts'.size&&decide (n * sz≤2 ^ 24)&&mRow 0 parts parts'.toList&&decide (sz≠0)&&(match P.underlying t with
   |some (.slice el)=>Bo P el sz&&(match P.info? el with
    |some i=>i.zero.isSome
    |none=>false)
   |_=>false)
  |_=>false
theorem FX {op:EOp}{K:V→Heap→Prop}(hm:mE P o op=true)(hs:Sat H g w)(he:EnvOk w g e a)(hp:p=true)(ho:op.eff P p e H K):EOk P H g w a o K:=by
 cases op with
 |alloc cells=>
  simp only[mE]at hm;split at hm
  ·obtain⟨i,z,h1,h2,h3⟩:=Rv hm;exact Xz ‹_› h1 h2 h3 hs ho
  ·simp at hm
 |boxm x=>
  simp only[mE]at hm;split at hm
  ·exact Qb1g ‹_› hm hs he hp ho
  ·simp at hm
 |sto n x y=>
  simp only[mE]at hm;split at hm
  ·simp only[Ja]at hm;obtain⟨i,h1,h2⟩:=Er hm.1.1;exact Qb3a ‹_› h1 h2 hm.1.2 hm.2 hs he hp ho
  ·simp at hm
 |app sz x y=>
  simp only[mE]at hm;split at hm
  ·rename_i x' y' ats bA
   simp only[Ja]at hm;obtain⟨⟨h1,h2⟩,h3⟩:=hm;split at h3
   ·rename_i t t2 ht ca
    split at h3
    ·rename_i el el2 hu ee
     obtain⟨i,z,k1,k2,k3,k4,k5,k6⟩:=LF h3;exact Qb23 bA ht ca hu ee k1 k2 k3 k4 k5 k6 h1 h2 hs he hp ho
    ·simp at h3
   ·simp at h3
  ·simp at hm
 |bslm sz parts=>
  simp only[mE]at hm;split at hm
  ·rename_i t n parts' bA
   simp only[Ja,decide_eq_true_eq,beq_iff_eq]at hm;obtain⟨⟨⟨⟨h1,h2⟩,h3⟩,h4⟩,h5⟩:=hm;split at h5
   ·rename_i el ft
    rw[Ja]at h5;obtain⟨i,hi,hz⟩:=Er h5.1;have h6:=h5.2;rw[hi]at h6;obtain⟨z,gc⟩:=J4.1 h6;obtain⟨k1,k2⟩:=FN _ _ _ h3;exact Qb1h bA ft hi gc hz h4 h1 h2 (by simpa using k1) (fun j x y e1 e2=>by
     have:=k2 j x y e1 ZS;exact⟨by simpa using this.1,this.2⟩) hs he hp ho
   ·simp at h5
  ·simp at hm
 |mks sz zero x=>
  simp only[mE]at hm;split at hm
  ·rename_i t x' y' bA
   simp only[Ja,decide_eq_true_eq,beq_iff_eq]at hm;obtain⟨⟨⟨⟨h1,h2⟩,h3⟩,h4⟩,h5⟩:=hm;split at h5
   ·rename_i el hu
    rw[Ja]at h5;obtain⟨i,z,k1,k2,k3,k4,k5,k6⟩:=LF h5.1;obtain⟨i',z',l1,l2,l3⟩:=Rv h5.2;rw[k1]at l1;simp at l1;subst l1;exact Qb27 bA hu k1 k2 h4 l2 l3 h3 k5 h1 h2 hs he hp ho
   ·simp at h5
  ·simp at hm
 |mkm=>
  simp only[mE]at hm;split at hm
  ·exact Qb26 ‹_› hs ho
  ·simp at hm
 |upd tag x k y=>
  simp only[mE]at hm;split at hm
  ·simp only[Ja]at hm;obtain⟨kt,et,h1,h2⟩:=KS hm.2;exact K9 (.inl ‹_›) h1 h2 hm.1.1.1 hm.1.1.2 hm.1.2 hs he hp ho
  ·simp only[Ja]at hm;obtain⟨kt,et,h1,h2⟩:=KS hm.2;exact K9 (.inr ‹_›) h1 h2 hm.1.1.1 hm.1.1.2 hm.1.2 hs he hp ho
  ·simp at hm
 |del tag x k=>
  simp[mE]at hm
 |clrm x=>
  simp[mE]at hm
 |clrs sz zero x=>
  simp[mE]at hm
 |call f xs=>
  simp only[mE]at hm;split at hm
  ·simp only[Ja,beq_iff_eq]at hm;obtain⟨rfl,h2⟩:=hm;simp only[EOp.eff]at ho;exact Qb1i ‹_› h2 hs he hp ho.1 ho.2
  ·simp at hm
 |ba x xs=>
  simp only[mE]at hm;split at hm
  ·simp only[Ja]at hm;exact Xy ‹_› hm.1 hm.2 hs he hp ho
  ·simp at hm
 |rng x=>
  simp only[mE]at hm;split at hm
  ·rename_i t x' bA
   rw[Ja]at hm;obtain⟨h1,h2⟩:=hm;split at h2
   ·exact Qb29 bA ‹_› h1 hs he hp ho
   ·simp at h2
  ·simp at hm
 |nxt x=>
  simp only[mE]at hm;split at hm
  ·exact Qb28 ‹_› hm hs he hp ho
  ·simp at hm
 |ent x=>
  simp only[mE]at hm;split at hm
  ·exact Qb25 ‹_› hm hs he hp ho
  ·simp at hm
 |cpy sz x y=>
  simp only[mE]at hm;split at hm
  ·rename_i x' y' ats bA
   rw[Ja,Ja]at hm;obtain⟨⟨h1,h3⟩,h2⟩:=hm;split at h2
   ·rename_i t ht
    split at h2
    ·rename_i el hu
     obtain⟨i,l1,l2⟩:=Er h2;exact Qb24 bA ht hu l1 l2 h1 h3 hs he hp ho
    ·simp at h2
   ·simp at h2
  ·simp at hm
 |nilq x=>
  simp only[mE]at hm;split at hm
  ·rename_i t x' t' bA
   rw[Ja]at hm;obtain⟨h1,h2⟩:=hm;split at h2
   ·exact Qb1j bA ‹_› h1 rfl hs he hp ho
   ·simp at h2
  ·simp at hm
def mG (ops:Array Oper):Option (Nat×Bool)→Option (Nat×Bool)→Bool
 |none,none=>true
 |some (j,b),some (t,b')=>(match ops[j]? with
  |some o=>o.dst == some t
  |none=>false)&&b == b'
 |_,_=>false
def mDst (n:Nat)(d d':Option Nat):Bool:=
 d == d'&&(match d with
  |some t=>decide (t<n)
  |none=>true)
def AX (P:Program)(n:Nat)(ops:Array Oper)(o:Oper):Item→Bool
 |.f d g op=>mDst n o.dst d&&mG ops o.guard g&&mF P o op
 |.p d g f xs=>mDst n o.dst d&&mG ops o.guard g&&mE P o (.call f xs)
 |.e d g op=>mDst n o.dst d&&mG ops o.guard g&&mE P o op
 |.chk _ _ _=>false
def mIts (P:Program)(n:Nat)(ops:Array Oper):Nat→List Item→Bool
 |i,[]=>i == ops.size
 |i,x::r=>(match ops[i]? with
  |some o=>AX P n ops o x
  |none=>false)&&mIts P n ops (i+1) r
def Post (n:Nat)(H:Heap)(g:G)(w:World)(K:Env→Heap→Prop)(a:Act)(w':World):Prop:=
 ∃e' H' g',K e' H'∧Stp H g w H' g' w'∧EnvOk w' g' e' a∧a.defers=[]∧a.tmps.size=n
theorem EnvOk.mono {g':G}{w':World}(aU:Le g w g' w')(h:EnvOk w g e a):EnvOk w' g' e a:=fun t=>(h t).mono aU
theorem EnvOk.put {n:Nat}{d:Option Nat}{x:V}{v:Value}(h:EnvOk w g e a)(hv:RepV w g x v)(hn:a.tmps.size=n)(hd:∀t,d=some t→t<n):EnvOk w g (putE d x e) (a.put d v):=by
 intro t
 cases d with
 |none=>exact h t
 |some s=>
  have hs:=hd s rfl;simp only[putE,lk,Act.put];by_cases ht:t=s
  ·subst ht;rw[if_pos rfl];have:(a.tmps.setIfInBounds t v).getD t undef=v:=by
    rw[Jc,Jy Zx];rfl
   rw[this];exact hv
  ·rw[if_neg ht];have:(a.tmps.setIfInBounds s v).getD t undef=a.tmps.getD t undef:=by
    rw[Jc,Jr (Ne.symm ht),←Jc]
   rw[this];exact h t
theorem Bz (a:Act)(d:Option Nat)(v:Value):(a.put d v).tmps.size=a.tmps.size∧(a.put d v).defers=a.defers:=by
 cases d <;> simp[Act.put]
theorem GA {n:Nat}{ops:Array Oper}{gd:Option (Nat×Bool)}(hm:mG ops o.guard gd=true)(he:EnvOk w g e a)(ho:gdO e gd):Region.wanted o (yielded ops a.tmps)=gdB e gd:=by
 unfold Region.wanted
 cases hg:o.guard with
 |none=>
  cases gd with
  |none=>rfl
  |some x=>rw[hg]at hm;simp[mG]at hm
 |some jb=>
  obtain⟨j,b⟩:=jb
  cases gd with
  |none=>rw[hg]at hm;simp[mG]at hm
  |some tb=>
   obtain⟨t,b'⟩:=tb;rw[hg]at hm;simp only[mG,Ja,beq_iff_eq]at hm;obtain⟨h1,rfl⟩:=hm;split at h1
   ·rename_i oj hoj
    simp at h1;simp only[yielded,hoj,Option.bind_some,h1];have hv:=he t;simp only[gdO]at ho;simp only[gdB];have bE:∀c,a.tmps.getD t undef=.bool c→a.tmps[t]? = some (.bool c):=by
     intro c hc;rw[Jc]at hc
     cases hx:a.tmps[t]? with
     |none=>rw[hx]at hc;simp[undef]at hc
     |some y=>rw[hx]at hc;simp at hc;rw[hc]
    have cd:a.tmps.getD t undef=undef→∀c,a.tmps[t]?≠some (.bool c):=by
     intro hu c hc;rw[Jc,hc]at hu;simp[undef]at hu
    split at ho
    ·rename_i c ie
     rw[ie]at hv;have:=bE _ hv.aR.bu;simp only[ie];simp[this]
    ·rename_i q c ie
     rw[ie]at hv;simp only[ie]
     cases hv with
     |gd _ _ _ k1 k2=>
      cases q with
      |true=>
       have:=bE _ (k1 rfl).aR.bu;simp[this]
      |false=>
       have:=cd (k2 rfl);simp only[Bool.false_and]
       cases hx:a.tmps[t]? with
       |none=>simp
       |some y=>cases y <;> simp_all
    ·rename_i q v ma ie
     rw[ie]at hv;subst ho;have e0:gdB e (some (t,b))=false:=by
      simp only[gdB,ie]
      cases v with
      |c x=>cases x <;> simp
      |_=>rfl
     refine Eq.trans ?_ e0.symm
     cases hv with
     |gd _ _ _ k1 k2=>
      have:=cd (k2 rfl)
      cases hx:a.tmps[t]? with
      |none=>simp
      |some y=>cases y <;> simp_all
    ·exact ho.elim
   ·simp at h1
theorem Dd {n:Nat}{d d':Option Nat}(h:mDst n d d'=true):d=d'∧∀t,d=some t→t<n:=by
 unfold mDst at h;rw[Ja]at h;refine⟨by simpa using h.1,fun t ht=>?_⟩;subst ht;simpa using h.2
theorem IW {f:Nat}{xs:List Opd}{r:V}(hm:mE P o (.call f xs)=true)(hs:Sat H g w)(he:EnvOk w g e a)(hp:p=true)(hf:∀x∈xs,x.fine p e)(hc:D0 P f (xs.map fun x=>x.v e) r) :
  EOk P H g w a o (fun v H'=>v=r∧H'=H):=
 FX (op:=.call f xs) hm hs he hp ⟨hf,hc.2 H _ ⟨rfl,rfl⟩⟩
theorem PG {KP:Value→Heap→Prop}{K:V→Heap→Prop}{x:V}{v:Value}(h:BE KP K x H)(hr:RepV w g x v):K x H:=by
 cases hr <;> exact h
theorem Qbi1 {n:Nat}{ops:Array Oper}{i:Nat}{x:Item}{rest:List Item}{KP:Value→Heap→Prop}{K:Env→Heap→Prop}{Q:Exit→Act→World→Prop}{next:Act→World→Prop}(ql:ops[i]? = some o)(hm:AX P n ops o x=true)
  (hs:Sat H g w) (he:EnvOk w g e a) (hn:a.tmps.size=n) (hd:a.defers=[]) (hr:regT P (x::rest) e H KP K)
  (i8:∀v H' g' w',KP v H'→Stp H g w H' g' w'→Q (.panic [{ v:=v,recovered:=false }]) a w')
  (bV:∀e' H' g' a' w',regT P rest e' H' KP K→Stp H g w H' g' w'→EnvOk w' g' e' a'→a'.tmps.size=n→a'.defers=[]→next a' w') :
  (if Region.wanted o (yielded ops a.tmps)then o.wp P a w next Q∨(o.asks P a w∧LetsOut Q)else next (a.put o.dst undef) w):=by
 cases x with
 |f d gd op=>
  simp only[AX,Ja]at hm;obtain⟨⟨h1,h2⟩,h3⟩:=hm;obtain⟨d9,dF⟩:=Dd h1;simp only[regT]at hr;obtain⟨r1,r2,r3⟩:=hr;rw[GA (n:=n) h2 he r1];by_cases hg:gdB e gd=true
  ·rw[if_pos hg];obtain⟨v,w',g',k1,k2,k3,k4⟩:=KL h3 hs he hg (r2 hg);left;unfold Oper.wp;rw[k1,Oper.upon_value,d9];refine bV _ _ _ _ _ (r3 fun _=>k4) k2 (((he.mono k2.le).put (n:=n) ?_ hn (d9▸dF))) Zac Zad
   cases gd with
   |none=>exact k3
   |some tb=>exact .gd _ _ _ (fun _=>k3) (fun h=>by rw[hg]at h;simp at h)
  ·rw[if_neg hg];have kL:gdB e gd=false:=Zab
   rw[d9];refine bV _ _ _ _ _ (r3 fun h=>absurd h hg) (.refl hs) (he.put (n:=n) ?_ hn (d9▸dF)) Zac Zad
   cases gd with
   |none=>simp[gdB]at kL
   |some tb=>exact .gd _ _ _ (fun h=>absurd h hg) (fun _=>rfl)
 |p d gd f xs=>
  simp only[AX,Ja]at hm;obtain⟨⟨h1,h2⟩,h3⟩:=hm;obtain⟨d9,dF⟩:=Dd h1;simp only[regT]at hr;obtain⟨r1,v0,r2,r3⟩:=hr;rw[GA (n:=n) h2 he r1];by_cases hg:gdB e gd=true
  ·rw[if_pos hg];obtain⟨s1,s2⟩:=r2 hg;left;refine IW h3 hs he hg s1 s2 Q next (fun x v w' H' g' hk aL dc=>?_) fun v w' H' g' hk _=>absurd hk.1.symm (s2.1 v);obtain⟨rfl,rfl⟩:=hk;rw[d9];refine bV _ _ _ _ _ r3 aL (((he.mono aL.le).put (n:=n) ?_ hn (d9▸dF))) Zac Zad
   cases gd with
   |none=>exact dc
   |some tb=>exact .gd _ _ _ (fun _=>dc) (fun h=>by rw[hg]at h;simp at h)
  ·rw[if_neg hg];have kL:gdB e gd=false:=Zab
   rw[d9];refine bV _ _ _ _ _ r3 (.refl hs) (he.put (n:=n) ?_ hn (d9▸dF)) Zac Zad
   cases gd with
   |none=>simp[gdB]at kL
   |some tb=>exact .gd _ _ _ (fun h=>absurd h hg) (fun _=>rfl)
 |e d gd op=>
  simp only[AX,Ja]at hm;obtain⟨⟨h1,h2⟩,h3⟩:=hm;obtain⟨d9,dF⟩:=Dd h1;simp only[regT]at hr;obtain⟨r1,r2,r3⟩:=hr;rw[GA (n:=n) h2 he r1];by_cases hg:gdB e gd=true
  ·rw[if_pos hg];left;refine FX h3 hs he hg (r2 hg) Q next (fun x v w' H' g' hk aL dc=>?_) fun v w' H' g' hk aL=>i8 v H' g' w' hk aL;rw[d9];exact bV _ _ _ _ _ (PG hk dc) aL (((he.mono aL.le).put (n:=n) dc hn (d9▸dF))) Zac Zad
  ·rw[if_neg hg];have kL:gdB e gd=false:=Zab
   rw[d9];exact bV _ _ _ _ _ (r3 kL) (.refl hs) (he.put (n:=n) (.unk _) hn (d9▸dF)) Zac Zad
 |chk d gd op=>simp[AX]at hm
theorem Pm {n:Nat}{ops:Array Oper}{KP:Value→Heap→Prop}{K:Env→Heap→Prop}{Q:Exit→Act→World→Prop}{H0:Heap}{g0:G}{w0:World}(hQ:∀a' w',Post n H0 g0 w0 K a' w'→Q .normal a' w')
  (hP:∀v a' w',Post n H0 g0 w0 (fun _ H'=>KP v H') a' w'→Q (.panic [{ v:=v,recovered:=false }]) a' w') :
  ∀(its:List Item) (i:Nat) (e:Env) (H:Heap) (g:G) (w:World) (a:Act),mIts P n ops i its=true→Stp H0 g0 w0 H g w→EnvOk w g e a→a.tmps.size=n→a.defers=[]→regT P its e H KP K→
   wpOps P ops Q (List.range' i its.length) a w
 |[],i,e,H,g,w,a,_,aL,he,hn,hd,hr=>hQ a w ⟨e,H,g,hr,aL,he,hd,hn⟩
 |x::rest,i,e,H,g,w,a,hm,aL,he,hn,hd,hr=>by
  simp only[mIts,Ja]at hm;obtain⟨h1,h2⟩:=hm;split at h1
  ·rename_i o ho
   simp only[J9,List.range'_succ,wpOps,ho];have:=Qbi1 (Q:=Q) (next:=wpOps P ops Q (List.range' (i+1) rest.length)) ho h1 aL.sat he hn hd hr (fun v H' g' w' k1 k2=>hP v a w' ⟨e,H',g',k1,aL.trans k2,he.mono k2.le,hd,hn⟩) fun e' H' g' a' w' k1 k2 k3 k4 k5=>
    Pm hQ hP rest (i+1) e' H' g' w' a' h2 (aL.trans k2) k3 k4 k5 k1
   simpa using this
  ·simp at h1
theorem Kz {n:Nat}{ops:Array Oper}:∀(its:List Item) (i:Nat),mIts P n ops i its=true→i+its.length=ops.size
 |[],i,h=>by simpa[mIts]using h
 |x::r,i,h=>by
  simp only[mIts,Ja]at h;have:=Kz r (i+1) h.2;simp only[J9];omega
end Go.AE
namespace Go.AE
variable {P:Program}
def optL:Option Opd→List Opd
 |none=>[]
 |some x=>[x]
def FOp.opds:FOp→List Opd
 |.mv x=>[x]
 |.pick c a b=>[c,a,b]
 |.bin _ _ a b=>[a,b]
 |.not a=>[a]
 |.fad _ a=>[a]
 |.iad _ a i=>[a,i]
 |.ld _ _ a=>[a]
 |.nck a=>[a]
 |.len a=>[a]
 |.lens a=>[a]
 |.lenm a=>[a]
 |.sli _ a lo hi=>a::(optL lo++optL hi)
 |.slis a lo hi=>a::(optL lo++optL hi)
 |.ext a _=>[a]
 |.asl _ a=>[a]
 |.aslp _ a hi=>a::optL hi
 |.ldg _ _ _=>[]
 |.iax _ _ a i=>[a,i]
 |.slm _ a hi=>[a,hi]
 |.iaa _ _ a i=>[a,i]
 |.fld _ _ _ a=>[a]
 |.idx a i=>[a,i]
 |.bld _ parts=>parts.map fun p=>p.2.2
 |.aG _ parts=>parts
 |.box a=>[a]
 |.cvt _ a=>[a]
 |.mkf _ caps=>caps
 |.lup _ _ m k=>[m,k]
 |.lup2 _ _ m k=>[m,k]
 |.mx a b=>[a,b]
 |.mn a b=>[a,b]
def EOp.opds:EOp→List Opd
 |.alloc _=>[]
 |.boxm a=>[a]
 |.sto _ a v=>[a,v]
 |.app _ a b=>[a,b]
 |.mks _ _ n=>[n]
 |.mkm=>[]
 |.upd _ m k v=>[m,k,v]
 |.del _ m k=>[m,k]
 |.clrm m=>[m]
 |.clrs _ _ m=>[m]
 |.call _ args=>args
 |.ba f args=>f::args
 |.rng m=>[m]
 |.nxt it=>[it]
 |.ent it=>[it]
 |.nilq a=>[a]
 |.bslm _ parts=>parts
 |.cpy _ a b=>[a,b]
def FOp.hfree:FOp→Bool
 |.iad _ _ _=>false
 |.ld _ _ _=>false
 |.len _=>false
 |.lenm _=>false
 |.sli _ _ _ _=>false
 |.lup _ _ _ _=>false
 |.asl _ _=>false
 |.ldg _ _ _=>false
 |.lup2 _ _ _ _=>false
 |_=>true
theorem Opd.aQ {e e':Env}{x:Opd}(h:x.raw e'=x.raw e):x.v e'=x.v e:=by
 simp only[Opd.v,h]
theorem Opd.aD {e e':Env}{x:Opd}{p:Bool}(h:x.raw e'=x.raw e):x.fine p e'↔x.fine p e:=by
 simp only[Opd.fine,h]
theorem Hj {e e':Env}{x:Option Opd}{p:Bool}(h:∀y∈optL x,y.raw e'=y.raw e) :
  (x.map fun y=>Ag (y.v e'))=(x.map fun y=>Ag (y.v e))∧(optF p x e'↔optF p x e)∧(optI x e'↔optI x e):=by
 cases x with
 |none=>exact⟨rfl,Jbm,Jbm⟩
 |some y=>
  have:=h y (by simp[optL]);simp only[Jq,optF,optI,Opd.aQ this,Opd.aD this,and_self]
theorem FOp.congr {op:FOp}{e e':Env}{H:Heap}{p:Bool}(h:∀x∈op.opds,x.raw e'=x.raw e) :
  op.val e' H=op.val e H∧(op.obl p e' H↔op.obl p e H):=by
 cases op <;> simp only[FOp.opds,J3,Jbh,or_false,forall_eq_or_imp,forall_eq,J1,Jbe,forall_exists_index,and_imp]at h
 case sli sz a lo hi=>
  have h1:=Opd.aQ h.1;have h2:=Hj (x:=lo) (p:=p) fun y hy=>h.2 y (.inl hy);have h3:=Hj (x:=hi) (p:=p) fun y hy=>h.2 y (.inr hy);simp only[FOp.val,FOp.obl,h1,h2.1,h3.1,h2.2.1,h3.2.1,h2.2.2,h3.2.2,Opd.aD h.1,and_self]
 case ldg n b l=>exact⟨rfl,Jbm⟩
 case aslp n a hi=>
  have h1:=Opd.aQ h.1;have h3:=Hj (x:=hi) (p:=p) fun y hy=>h.2 y hy;simp only[FOp.val,FOp.obl,h1,h3.1,h3.2.1,h3.2.2,Opd.aD h.1,and_self]
 case slis a lo hi=>
  have h1:=Opd.aQ h.1;have h2:=Hj (x:=lo) (p:=p) fun y hy=>h.2 y (.inl hy);have h3:=Hj (x:=hi) (p:=p) fun y hy=>h.2 y (.inr hy);simp only[FOp.val,FOp.obl,h1,h2.1,h3.1,h2.2.1,h3.2.1,h2.2.2,h3.2.2,Opd.aD h.1,and_self]
 case bld zero parts=>
  have h1:∀x∈parts,x.2.2.raw e'=x.2.2.raw e:=fun x hx=>h _ x hx rfl;refine⟨?_,?_⟩
  ·simp only[FOp.val];have:(parts.map fun p=>(p.1,(p.2.2.v e').cells))=parts.map fun p=>(p.1,(p.2.2.v e).cells):=
    J8 fun x hx=>by rw[Opd.aQ (h1 x hx)]
   rw[this]
  ·simp only[FOp.obl];exact forall_congr' fun x=>forall_congr' fun hx=>by rw[Opd.aD (h1 x hx),Opd.aQ (h1 x hx)]
 case aG sz parts=>
  refine⟨?_,?_⟩
  ·simp only[FOp.val];have:(parts.map fun x=>(x.v e').cells)=parts.map fun x=>(x.v e).cells:=
    J8 fun x hx=>ZaO
   rw[this]
  ·simp only[FOp.obl];exact forall_congr' fun x=>forall_congr' fun hx=>ZaC
 case mkf f caps=>
  refine⟨?_,?_⟩
  ·simp only[FOp.val];have:(caps.map fun x=>(x.v e').c1)=caps.map fun x=>(x.v e).c1:=
    J8 fun x hx=>ZaO
   rw[this]
  ·simp only[FOp.obl];exact forall_congr' fun x=>forall_congr' fun hx=>ZaC
 case pick c a b=>
  simp only[FOp.val,FOp.obl,Opd.aQ h.1,Opd.aQ h.2.1,Opd.aQ h.2.2,Opd.aD h.1,true_and];constructor <;> rintro⟨k1,k2⟩ <;> refine⟨k1,?_⟩ <;> split at k2 <;> first|exact k2.elim|skip
  ·rw[Opd.aD h.2.1,Opd.aD h.2.2]at k2;exact k2
  ·rw[Opd.aD h.2.1,Opd.aD h.2.2];exact k2
 all_goals first
  |(have h1:=Opd.aQ h;simp only[FOp.val,FOp.obl,h1,Opd.aD h,and_self])
  |(have h1:=Opd.aQ h.1;have h2:=Opd.aQ h.2;simp only[FOp.val,FOp.obl,h1,h2,Opd.aD h.1,Opd.aD h.2,and_self])
theorem FOp.hcongr {op:FOp}{e:Env}{H H':Heap}{p:Bool}(h:op.hfree=true):op.val e H'=op.val e H∧(op.obl p e H'↔op.obl p e H):=by
 cases op <;> first|(simp[FOp.hfree]at h;done)|exact⟨rfl,Jbm⟩
theorem Q6p {e e':Env}{xs:List Opd}(h:∀x∈xs,x.raw e'=x.raw e):(xs.map fun x=>x.v e')=(xs.map fun x=>x.v e):=
 J8 fun x hx=>Opd.aQ (h x hx)
theorem Q00 {e e':Env}{xs:List Opd}{p:Bool}(h:∀x∈xs,x.raw e'=x.raw e):(∀x∈xs,x.fine p e')↔(∀x∈xs,x.fine p e):=
 forall_congr' fun x=>forall_congr' fun hx=>Opd.aD (h x hx)
theorem EOp.congr {op:EOp}{e e':Env}{H:Heap}{p:Bool}{K:V→Heap→Prop}(h:∀x∈op.opds,x.raw e'=x.raw e)(he:op.eff P p e H K):op.eff P p e' H K:=by
 cases op
 case call f xs=>
  simp only[EOp.opds]at h;simp only[EOp.eff]at he⊢;rw[Q6p h,Q00 h];exact he
 case ba f xs=>
  simp only[EOp.opds,J3,forall_eq_or_imp]at h;simp only[EOp.eff]at he⊢;rw[Q6p h.2,Q00 h.2,Opd.aD h.1,Opd.aQ h.1];exact he
 case bslm sz parts=>
  simp only[EOp.opds]at h;simp only[EOp.eff]at he⊢;have:(parts.map fun x=>(x.v e').cells)=parts.map fun x=>(x.v e).cells:=
   J8 fun x hx=>ZaO
  rw[this];exact⟨fun x hx=>by rw[Opd.aD (h x hx),Opd.aQ (h x hx)];exact he.1 x hx,he.2⟩
 all_goals simp only[EOp.opds,J3,Jbh,or_false,forall_eq_or_imp,forall_eq]at h
 all_goals first
  |exact he
  |(simp only[EOp.eff,Opd.aQ h,Opd.aD h]at he⊢;exact he)
  |(simp only[EOp.eff,Opd.aQ h.1,Opd.aD h.1,Opd.aQ h.2,Opd.aD h.2]at he⊢;exact he)
  |(simp only[EOp.eff,Opd.aQ h.1,Opd.aD h.1,Opd.aQ h.2.1,Opd.aD h.2.1,Opd.aQ h.2.2,Opd.aD h.2.2]at he⊢;exact he)
def Item.dst:Item→Option Nat
 |.f d _ _=>d
 |.p d _ _ _=>d
 |.e d _ _=>d
 |.chk _ _ _=>none
def Item.gd:Item→Option (Nat×Bool)
 |.f _ g _=>g
 |.p _ g _ _=>g
 |.e _ g _=>g
 |.chk _ g _=>g
def Item.opds:Item→List Opd
 |.f _ _ op=>op.opds
 |.p _ _ _ xs=>xs
 |.e _ _ op=>op.opds
 |.chk _ _ op=>op.opds
def Opd.tm:Opd→List Nat
 |.t n=>[n]
 |_=>[]
def Item.looks (x:Item):List Nat:=x.opds.flatMap Opd.tm++(match x.gd with
 |some (t,_)=>[t]
 |none=>[])
theorem Qbp1 {e e':Env}{x:Opd}(h:∀t∈x.tm,lk t e'=lk t e):x.raw e'=x.raw e:=by
 cases x with
 |t n=>simpa[Opd.raw,Opd.tm]using h
 |k v=>rfl
theorem KT {e e':Env}{x:Item}(h:∀t∈x.looks,lk t e'=lk t e):∀y∈x.opds,y.raw e'=y.raw e:=fun y hy=>
 Qbp1 fun t ht=>h t (Ja0 _ (List.mem_flatMap.2 ⟨y,hy,ht⟩))
theorem Qbtl {e e':Env}{gd:Option (Nat×Bool)}(h:∀t b,gd=some (t,b)→lk t e'=lk t e):gdB e' gd=gdB e gd∧(gdO e' gd↔gdO e gd):=by
 cases gd with
 |none=>exact⟨rfl,Jbm⟩
 |some x=>
  obtain⟨t,b⟩:=x;have:=h t b rfl;simp only[gdB,gdO,this,and_self]
theorem K0 {e e':Env}{x:Item}(h:∀t∈x.looks,lk t e'=lk t e):gdB e' x.gd=gdB e x.gd∧(gdO e' x.gd↔gdO e x.gd):=
 Qbtl fun t b hg=>h t (Jay _ (by rw[hg];simp))
theorem DI (ks:List Nat)(e:Env)(t:Nat):lk t (trim ks e)=if t∈ks then lk t e else .unk:=by
 unfold trim
 induction ks with
 |nil=>simp[lk]
 |cons k ks ih=>
  simp only[Ja9,lk,ih,J3];by_cases h:t=k
  ·subst h;simp
  ·simp[h]
end Go.AE
namespace Go.AE
variable {P:Program}{H:Heap}{g:G}{w:World}{e:Env}{a:Act}
def Item.isE:Item→Bool
 |.e _ _ _=>true
 |_=>false
def Item.aS:Item→Bool
 |.chk _ _ _=>true
 |_=>false
def Item.isFl:Item→Bool
 |.f _ _ _=>true
 |.p _ _ _ _=>true
 |_=>false
def Item.hf:Item→Bool
 |.f _ _ op=>op.hfree
 |_=>true
def Item.isFa:Item→Bool
 |.e (some _) none (.alloc _)=>true
 |_=>false
abbrev Row:=Nat×Item
def He (ms:List Nat)(o:Oper):Nat→List Edge→Nat
 |s,[]=>s
 |s,ed::r=>He ms o (if Region.binds .any ed then s ||| (2 ^ ed.on ||| ms.getD ed.on 0)else s) r
def dIn (d:Option Nat)(l:List Nat):Bool:=
 match d with
 |some t=>l.contains t
 |none=>false
def D6 (ms:List Nat)(fa:Nat)(x y:Row):Bool:=
 x.1 != y.1&&!((ms.getD x.1 0).testBit y.1)&&(match x.2.dst with
  |some t=>y.2.dst != some t
  |none=>true)
 &&(!(dIn y.2.dst x.2.looks) || (ms.getD y.1 0).testBit x.1)
 &&(!(dIn x.2.dst y.2.looks) || (ms.getD y.1 0).testBit x.1)
 &&(!x.2.isE || y.1 == fa || (ms.getD y.1 0).testBit x.1)
def Bp (j:Nat):List Row→Bool
 |[]=>false
 |y::r=>y.2.aS&&(y.1 == j || Bp j r)
def Cm (P:Program)(n:Nat)(ops:Array Oper)(ms:List Nat)(fa:Nat)(pre:List Row)(y:Row)(rest:List Row):Bool:=
 match ops[y.1]? with
 |none=>false
 |some o=>match y.2 with
  |.chk d gd op=>AX P n ops o (.f (some d) gd op)&&pre.any (fun z=>!z.2.aS&&z.1 == y.1&&z.2.looks == y.2.looks&&z.2.dst == some d&&!z.2.hf)
    &&pre.all (fun z=>z.2.aS || !(dIn z.2.dst y.2.looks) || (ms.getD y.1 0).testBit z.1)
  |_=>AX P n ops o y.2&&o.after.toList.all (fun ed=>!Region.binds .any ed || pre.any fun z=>!z.2.aS&&z.1 == ed.on)
    &&ms.getD y.1 0 == He ms o 0 o.after.toList&&!(dIn y.2.dst y.2.looks)
    &&pre.all (fun z=>z.2.aS || D6 ms fa z y)&&(y.1 != fa || y.2.isFa)
    &&(!y.2.isE || pre.all (fun z=>z.2.aS || z.2.hf || (ms.getD y.1 0).testBit z.1 || Bp z.1 rest))
def CV (P:Program)(n:Nat)(ops:Array Oper)(ms:List Nat)(fa:Nat):List Row→List Row→Bool
 |_,[]=>true
 |pre,y::r=>Cm P n ops ms fa pre y r&&CV P n ops ms fa (pre++[y]) r
def E5:List Oper→List Nat→List Nat
 |[],ms=>ms
 |o::r,ms=>E5 r (ms++[He ms o 0 o.after.toList])
def E6 (P:Program)(n:Nat)(ops:Array Oper)(fa:Nat)(ord:List Nat)(its:List Item):Bool:=
 ord.length == its.length&&Region.noSelect ops&&CV P n ops (E5 ops.toList []) fa [] (ord.zip its)
  &&(List.range ops.size).all fun i=>(ord.zip its).any fun y=>!y.2.aS&&y.1 == i
theorem Q1f {n:Nat}{ops:Array Oper}{ms:List Nat}{fa:Nat}:∀(L pre:List Row),CV P n ops ms fa pre L=true→
  ∀A y B,L=A++y::B→Cm P n ops ms fa (pre++A) y B=true
 |[],_,_,A,y,B,h=>ZF
 |x::r,pre,hm,A,y,B,h=>by
  simp only[CV,Ja]at hm
  cases A with
  |nil=>
   simp at h;obtain⟨rfl,rfl⟩:=h;simpa using hm.1
  |cons a A=>
   simp at h;obtain⟨rfl,rfl⟩:=h;have:=Q1f _ _ hm.2 A y B rfl;simpa[Jx]using this
theorem Q9t {ms:List Nat}{o:Oper}{j:Nat}:∀(l:List Edge) (s:Nat),(He ms o s l).testBit j=true→
  s.testBit j=true∨∃ed∈l,Region.binds .any ed=true∧(ed.on=j∨(ms.getD ed.on 0).testBit j=true)
 |[],s,h=>.inl h
 |ed::r,s,h=>by
  simp only[He]at h;rcases Q9t r _ h with h1|⟨x,hx,h1⟩
  ·by_cases hb:Region.binds .any ed=true
   ·rw[if_pos hb]at h1;simp only[Nat.testBit_or,Jah]at h1;rcases h1 with h1|h1|h1
    ·exact .inl h1
    ·rw[Nat.testBit_two_pow]at h1;exact .inr ⟨ed,Zz,hb,.inl Zah⟩
    ·exact .inr ⟨ed,Zz,hb,.inr h1⟩
   ·rw[if_neg hb]at h1;exact .inl h1
  ·exact .inr ⟨x,Za9,h1⟩
theorem dIn_iff {d:Option Nat}{l:List Nat}:dIn d l=true↔∃t,d=some t∧t∈l:=by
 cases d <;> simp[dIn]
structure PairOk (ms:List Nat)(fa:Nat)(x y:Row):Prop where
 ne:x.1≠y.1
 top:(ms.getD x.1 0).testBit y.1=false
 dst:∀t,x.2.dst=some t→y.2.dst≠some t
 war:∀t,y.2.dst=some t→t∈x.2.looks→(ms.getD y.1 0).testBit x.1=true
 raw:∀t,x.2.dst=some t→t∈y.2.looks→(ms.getD y.1 0).testBit x.1=true
 ord:x.2.isE=true→y.1≠fa→(ms.getD y.1 0).testBit x.1=true
theorem Qa9w {ms:List Nat}{fa:Nat}{x y:Row}(h:D6 ms fa x y=true):PairOk ms fa x y:=by
 simp only[D6,Ja,bne_iff_ne,Jah,Jap,beq_iff_eq]at h;obtain⟨⟨⟨⟨⟨h1,h2⟩,h3⟩,h4⟩,h5⟩,h6⟩:=h;refine⟨h1,h2,?_,?_,?_,?_⟩
 ·intro t ht;rw[ht]at h3;simpa using h3
 ·intro t ht hm;rcases h4 with h4|h4
  ·have:=dIn_iff.2 ⟨t,ht,hm⟩;rw[this]at h4;simp at h4
  ·exact h4
 ·intro t ht hm;rcases h5 with h5|h5
  ·have:=dIn_iff.2 ⟨t,ht,hm⟩;rw[this]at h5;simp at h5
  ·exact h5
 ·intro hx hy;rcases h6 with (h6|h6)|h6
  ·rw[hx]at h6;simp at h6
  ·exact absurd h6 hy
  ·exact h6
structure RowOk (P:Program)(n:Nat)(ops:Array Oper)(ms:List Nat)(fa:Nat)(pre:List Row)(y:Row)(rest:List Row)(o:Oper):Prop where
 op:ops[y.1]? = some o
 item:AX P n ops o y.2=true
 aft:∀ed∈o.after,Region.binds .any ed=true→∃z∈pre,z.2.aS=false∧z.1=ed.on
 anc:∀j,(ms.getD y.1 0).testBit j=true→∃ed∈o.after,Region.binds .any ed=true∧(ed.on=j∨(ms.getD ed.on 0).testBit j=true)
 self:∀t,y.2.dst=some t→t∉y.2.looks
 pair:∀z∈pre,z.2.aS=false→PairOk ms fa z y
 isFa:y.1=fa→y.2.isFa=true
 cover:y.2.isE=true→∀z∈pre,z.2.aS=false→z.2.hf=false→(ms.getD y.1 0).testBit z.1=false→Bp z.1 rest=true
theorem Qbjv {n:Nat}{ops:Array Oper}{ms:List Nat}{fa:Nat}{pre:List Row}{y:Row}{rest:List Row}(h:Cm P n ops ms fa pre y rest=true)(hc:y.2.aS=false) :
  ∃o,RowOk P n ops ms fa pre y rest o:=by
 obtain⟨i,x⟩:=y;unfold Cm at h
 cases ho:ops[i]? with
 |none=>simp[ho]at h
 |some o=>
  simp only[ho]at h;have key:(AX P n ops o x&&o.after.toList.all (fun ed=>!Region.binds .any ed || pre.any fun z=>!z.2.aS&&z.1 == ed.on)
    &&ms.getD i 0 == He ms o 0 o.after.toList&&!(dIn x.dst x.looks)
    &&pre.all (fun z=>z.2.aS || D6 ms fa z (i,x))&&(i != fa || x.isFa)
    &&(!x.isE || pre.all (fun z=>z.2.aS || z.2.hf || (ms.getD i 0).testBit z.1 || Bp z.1 rest)))=true:=by
   cases x with
   |chk=>simp[Item.aS]at hc
   |f=>exact h
   |p=>exact h
   |e=>exact h
  simp only[Ja,Jad,Jah,Jap,beq_iff_eq,bne_iff_ne,Jbg]at key;obtain⟨⟨⟨⟨⟨⟨h1,h2⟩,h3⟩,h4⟩,h5⟩,h6⟩,h7⟩:=key;refine⟨o,ho,h1,?_,?_,?_,?_,?_,?_⟩
  ·intro ed sk hb;rcases h2 ed (by simpa using sk)with h|⟨z,hz,h⟩
   ·rw[hb]at h;simp at h
   ·exact⟨z,hz,h.1,h.2⟩
  ·intro j hj;simp only at hj;rw[h3]at hj;rcases Q9t _ _ hj with h|⟨ed,sk,h⟩
   ·simp at h
   ·exact⟨ed,by simpa using sk,h⟩
  ·intro t ht hm;have:=dIn_iff.2 ⟨t,ht,hm⟩;simp only at this;rw[this]at h4;simp at h4
  ·intro z hz cN;rcases h5 z hz with h|h
   ·rw[cN]at h;simp at h
   ·exact Qa9w h
  ·intro hf;rcases h6 with h|h
   ·exact absurd hf h
   ·exact h
  ·intro hE z hz cN hzh xT;rcases h7 with h|h
   ·simp only at hE;rw[hE]at h;simp at h
   ·rcases h z hz with ((h|h)|h)|h
    ·rw[cN]at h;simp at h
    ·rw[hzh]at h;simp at h
    ·simp only at xT;rw[xT]at h;simp at h
    ·exact h
theorem Qbii {n:Nat}{ops:Array Oper}{ms:List Nat}{fa:Nat}{pre:List Row}{i d:Nat}{gd:Option (Nat×Bool)}{op:FOp}{rest:List Row}(h:Cm P n ops ms fa pre (i,.chk d gd op) rest=true) :
  ∃o,ops[i]? = some o∧AX P n ops o (.f (some d) gd op)=true∧(∃z∈pre,z.2.aS=false∧z.1=i∧z.2.looks=(Item.f (some d) gd op).looks∧z.2.dst=some d∧z.2.hf=false)∧
   ∀z∈pre,z.2.aS=false→∀t,z.2.dst=some t→t∈(Item.f (some d) gd op).looks→(ms.getD i 0).testBit z.1=true:=by
 unfold Cm at h
 cases ho:ops[i]? with
 |none=>simp[ho]at h
 |some o=>
  simp only[ho,Ja,Jbg,Jad,Jah,Jap,beq_iff_eq]at h;obtain⟨⟨h1,z,hz,⟨⟨⟨h2,h3⟩,h4⟩,h5⟩,h6⟩,h7⟩:=h;refine⟨o,rfl,h1,⟨z,hz,h2,h3,h4,h5,h6⟩,?_⟩;intro z hz cN t ht hm;rcases h7 z hz with (h|h)|h
  ·rw[cN]at h;simp at h
  ·have:=dIn_iff.2 ⟨t,ht,hm⟩;change dIn z.2.dst (Item.chk d gd op).looks=true at this;rw[this]at h;simp at h
  ·exact h
abbrev dn (listed:Array Bool)(i:Nat):Prop:=listed.getD i false=true
def Rdy (P:Program)(x:Item)(e:Env)(H:Heap)(v:V):Prop:=
 match x with
 |.f _ gd op=>gdO e gd∧(gdB e gd=true→op.obl (gdB e gd) e H)∧v=gdV gd (gdB e gd) (op.val e H)
 |.p _ gd f xs=>gdO e gd∧∃r,(gdB e gd=true→(∀y∈xs,y.fine (gdB e gd) e)∧D0 P f (xs.map fun y=>y.v e) r)∧v=gdV gd (gdB e gd) r
 |_=>False
theorem Rdy.congr {x:Item}{e e':Env}{v:V}(h:∀t∈x.looks,lk t e'=lk t e)(hr:Rdy P x e H v):Rdy P x e' H v:=by
 have h1:=KT h;have h2:=K0 h
 cases x with
 |f d gd op=>
  simp only[Item.gd]at h2;simp only[Item.opds]at h1;have h3:=FOp.congr (H:=H) (p:=gdB e gd) h1;simp only[Rdy]at hr⊢;rw[h2.1,h2.2,h3.1,h3.2];exact hr
 |p d gd f xs=>
  simp only[Item.gd]at h2;simp only[Item.opds]at h1;simp only[Rdy]at hr⊢;rw[h2.1,h2.2,Q6p h1,Q00 h1];exact hr
 |e=>exact hr
 |chk=>exact hr
theorem Rdy.hcongr {x:Item}{e:Env}{H':Heap}{v:V}(h:x.hf=true)(hr:Rdy P x e H v):Rdy P x e H' v:=by
 cases x with
 |f d gd op=>
  have h3:=FOp.hcongr (e:=e) (H:=H) (H':=H') (p:=gdB e gd) (op:=op) h;simp only[Rdy]at hr⊢;rw[h3.1,h3.2];exact hr
 |p d gd f xs=>exact hr
 |e=>exact hr
 |chk=>exact hr
theorem Xj {n:Nat}{ops:Array Oper}{i:Nat}{o:Oper}{x:Item}{v:V}{Q:Exit→Act→World→Prop}{next:Act→World→Prop}(ql:ops[i]? = some o)(hm:AX P n ops o x=true)
  (hr:Rdy P x e H v) (hs:Sat H g w) (he:EnvOk w g (trim x.looks e) a)
  (bV:∀u w' g',Stp H g w H g' w'→RepV w' g' v u→next (a.put x.dst u) w') :
  wpOp P ops Q i next a w:=by
 have be:Rdy P x (trim x.looks e) H v:=hr.congr fun t ht=>by rw[DI,if_pos ht]
 unfold wpOp;rw[ql];simp only
 cases x with
 |f d gd op=>
  simp only[AX,Ja]at hm;obtain⟨⟨h1,h2⟩,h3⟩:=hm;obtain⟨d9,dF⟩:=Dd h1;simp only[Rdy]at be;obtain⟨r1,r2,r3⟩:=be;rw[GA (n:=n) h2 he r1];by_cases hg:gdB (trim (Item.f d gd op).looks e) gd=true
  ·rw[if_pos hg];obtain⟨u,w',g',k1,k2,k3,k4⟩:=KL h3 hs he hg (r2 hg);left;unfold Oper.wp;rw[k1,Oper.upon_value,d9];refine bV u w' g' k2 ?_;rw[r3]
   cases gd with
   |none=>exact k3
   |some tb=>exact .gd _ _ _ (fun _=>k3) (fun h=>by rw[hg]at h;simp at h)
  ·rw[if_neg hg];have kL:gdB (trim (Item.f d gd op).looks e) gd=false:=Zab
   rw[d9];refine bV _ _ g (.refl hs) ?_;rw[r3]
   cases gd with
   |none=>simp[gdB]at kL
   |some tb=>exact .gd _ _ _ (fun h=>absurd h hg) (fun _=>rfl)
 |p d gd f xs=>
  simp only[AX,Ja]at hm;obtain⟨⟨h1,h2⟩,h3⟩:=hm;obtain⟨d9,dF⟩:=Dd h1;simp only[Rdy]at be;obtain⟨r1,v0,r2,r3⟩:=be;rw[GA (n:=n) h2 he r1];by_cases hg:gdB (trim (Item.p d gd f xs).looks e) gd=true
  ·rw[if_pos hg];obtain⟨s1,s2⟩:=r2 hg;left;refine IW h3 hs he hg s1 s2 Q next (fun y u w' H' g' hk aL dc=>?_) fun v w' H' g' hk _=>absurd hk.1.symm (s2.1 v);obtain⟨rfl,rfl⟩:=hk;rw[d9];refine bV _ _ g' aL ?_;rw[r3]
   cases gd with
   |none=>exact dc
   |some tb=>exact .gd _ _ _ (fun _=>dc) (fun h=>by rw[hg]at h;simp at h)
  ·rw[if_neg hg];have kL:gdB (trim (Item.p d gd f xs).looks e) gd=false:=Zab
   rw[d9];refine bV _ _ g (.refl hs) ?_;rw[r3]
   cases gd with
   |none=>simp[gdB]at kL
   |some tb=>exact .gd _ _ _ (fun h=>absurd h hg) (fun _=>rfl)
 |e=>exact be.elim
 |chk=>exact be.elim
theorem XM {n:Nat}{ops:Array Oper}{i:Nat}{o:Oper}{d:Option Nat}{gd:Option (Nat×Bool)}{op:EOp}{K:V→Heap→Prop}{Q:Exit→Act→World→Prop}{next:Act→World→Prop}(ql:ops[i]? = some o)
  (hm:AX P n ops o (.e d gd op)=true) (hs:Sat H g w) (he:EnvOk w g (trim (Item.e d gd op).looks e) a)
  (h1:gdO e gd) (h2:gdB e gd=true→op.eff P (gdB e gd) e H K) (h3:gdB e gd=false→K .unk H)
  (bV:∀x u w' H' g',K x H'→Stp H g w H' g' w'→RepV w' g' x u→next (a.put d u) w') (i8:∀v w' H' g',K (.pn v) H'→Stp H g w H' g' w'→Q (.panic [{ v:=v,recovered:=false }]) a w') :
  wpOp P ops Q i next a w:=by
 have ie:∀t∈(Item.e d gd op).looks,lk t (trim (Item.e d gd op).looks e)=lk t e:=fun t ht=>by rw[DI,if_pos ht]
 have c1:=KT ie;have c2:=K0 ie;simp only[Item.gd]at c2;simp only[Item.opds]at c1;unfold wpOp;rw[ql];simp only;simp only[AX,Ja]at hm;obtain⟨⟨m1,m2⟩,m3⟩:=hm;obtain⟨d9,dF⟩:=Dd m1;rw[GA (n:=n) m2 he (c2.2.2 h1),c2.1];by_cases hg:gdB e gd=true
 ·rw[if_pos hg];left;refine FX m3 hs he hg (EOp.congr c1 (h2 hg)) Q next (fun x u w' H' g' hk aL dc=>?_) i8;rw[d9];exact bV x u w' H' g' hk aL dc
 ·rw[if_neg hg];rw[d9];exact bV .unk undef w H g (h3 Zab) (.refl hs) (.unk _)
structure Early (g0:G)(H:Heap)(g:G)(w:World)(a:Act)(x:Item):Prop where
 ok:∃(d:Nat) (cells:List C) (l b sz:Nat) (T:TypeId) (cs:Array Value),x=.e (some d) none (.alloc cells)∧g.io l=some (b,sz,0)∧g.own b=some (l,[])∧w.heap[b]? = some (.cells cs T (0,0))∧
  cs.size=cells.length∧(∀(k:Nat) (c:C) (v:Value),cells[k]? = some c→cs[k]? = some v→RepC w g c v)∧H l=.none∧g0.io l=none∧RepV w g (.c (.ptr l 0)) (a.tmps.getD d undef)
theorem Early.mono {g0:G}{x:Item}{H':Heap}{g':G}{w':World}{a':Act}(h:Early g0 H g w a x)(hs:Stp H g w H' g' w')(ha:∀d,x.dst=some d→a'.tmps.getD d undef=a.tmps.getD d undef):Early g0 H' g' w' a' x:=by
 obtain⟨d,cells,l,b,sz,T,cs,h1,h2,h3,h4,h5,h6,h7,h8,h9⟩:=h.ok;obtain⟨k1,k2⟩:=hs.fr l ZZ h7;obtain⟨k3,k4⟩:=k2 b [] h3;refine⟨d,cells,l,b,sz,T,cs,h1,hs.le.io _ _ h2,k3,k4.trans h4,h5,fun k c v p q=>(h6 k c v p q).mono hs.le,k1,h8,?_⟩;rw[ha d (by rw[h1];rfl)];exact h9.mono hs.le
theorem Qbir {n:Nat}{ops:Array Oper}{i:Nat}{o:Oper}{x:Item}{g0:G}{Q:Exit→Act→World→Prop}{next:Act→World→Prop}(ql:ops[i]? = some o)(hm:AX P n ops o x=true)(hf:x.isFa=true)
  (hs:Sat H g w) (h0:∀l y,g0.io l=some y→g.io l=some y) (hn:a.tmps.size=n)
  (bV:∀u w' g',Stp H g w H g' w'→Early g0 H g' w' (a.put x.dst u) x→next (a.put x.dst u) w') :
  wpOp P ops Q i next a w:=by
 cases x with
 |e d gd op=>
  cases op with
  |alloc cells=>
   cases d with
   |none=>simp[Item.isFa]at hf
   |some d=>
    cases gd with
    |some=>simp[Item.isFa]at hf
    |none=>
     simp only[AX,Ja]at hm;obtain⟨⟨m1,m2⟩,m3⟩:=hm;obtain⟨d9,dF⟩:=Dd m1;have hdn:=dF d d9;simp only[mE]at m3;split at m3
     ·rename_i t bA
      obtain⟨i1,z,z1,z2,z3⟩:=Rv m3;obtain⟨l,hl,hH⟩:=hs.newName;have hr:=Hg (w:=w) (g:=g) z3;have aU:=Ef hs hl cells.length 0 (.cells z.cells t);have aL:=Df hs hl cells.length 0 (.cells z.cells t) .none (fun g' hg=>trivial);rw[Heap.set_self _ _ _ hH]at aL;have hg0:g0.io l=none:=by
       cases hx:g0.io l with
       |none=>rfl
       |some y=>rw[h0 l y hx]at hl;simp at hl
      have hw:Region.wanted o (yielded ops a.tmps)=true:=by
       unfold Region.wanted
       cases bG:o.guard with
       |none=>rfl
       |some jb=>rw[bG]at m2;simp[mG]at m2
      unfold wpOp;rw[ql];simp only;rw[if_pos hw];left;unfold Oper.wp;have cH:(execOp a.eval o).run P w=.ok (.value (.pointer (some ⟨w.heap.size,0,none⟩))) (w.alloc (.cells z.cells t)):=by
       simp[execOp,bA,Instr.alloc,DW z1 z2,newVar,newRow]
      rw[cH,Oper.upon_value,d9];refine bV _ _ _ aL ⟨d,cells,l,w.heap.size,cells.length,t,z.cells,rfl,ZG,ZG,Cj _ _,hr.1,fun k c v p q=>(hr.2 k c v p q).mono aU,hH,hg0,?_⟩;have:(a.put (Item.e (some d) none (.alloc cells)).dst (.pointer (some ⟨w.heap.size,0,none⟩))).tmps.getD d undef=.pointer (some ⟨w.heap.size,0,none⟩):=by
       simp only[Item.dst,Act.put];rw[Jc,Jy Zx];rfl
      rw[this];exact .c _ _ (.ptr l 0 w.heap.size cells.length 0 ZG)
     ·simp at m3
  |_=>cases d <;> (try cases gd) <;> simp[Item.isFa]at hf
 |_=>simp[Item.isFa]at hf
theorem Qbm4 {H0:Heap}{g0:G}{w0:World}{x:Item}(aL:Stp H0 g0 w0 H g w)(h:Early g0 H g w a x) :
  ∃d cells l,x=.e (some d) none (.alloc cells)∧H l=.none∧Stp H0 g0 w0 (H.set l (.st cells)) g w∧RepV w g (.c (.ptr l 0)) (a.tmps.getD d undef):=by
 obtain⟨d,cells,l,b,sz,T,cs,h1,h2,h3,h4,h5,h6,h7,h8,h9⟩:=h.ok;refine⟨d,cells,l,h1,h7,⟨aL.le,fun m hm hn=>?_,⟨aL.sat.fresh,aL.sat.names,aL.sat.excl,aL.sat.named,fun m=>?_⟩⟩,h9⟩
 ·have eY:m≠l:=fun h=>by subst h;exact hm h8
  rw[Heap.ai _ _ eY];exact aL.fr m hm hn
 ·by_cases eY:m=l
  ·subst eY;rw[Heap.aE];exact⟨b,sz,T,cs,h2,h3,h4,h5,fun k c v p q=>.plain _ _ _ _ (h6 k c v p q)⟩
  ·have dx:=Heap.ai H (.st cells) eY;rw[dx,←dx];refine SatObj.keep aL.sat (.refl _ _) (fun b q hb=>⟨hb,rfl⟩) dx fun m' v left cur hc v' es hv=>?_;by_cases de:m'=l
   ·subst de;rw[Heap.aE]at hv;simp at hv
   ·rw[Heap.ai _ _ de]at hv;exact .inl ⟨hv,fun b q hb=>⟨hb,rfl⟩⟩
structure Fix where
 P:Program
 n:Nat
 ops:Array Oper
 ms:List Nat
 fa:Nat
 L:List Row
 H0:Heap
 g0:G
 w0:World
 KP:Value→Heap→Prop
 K:Env→Heap→Prop
def Fix.anc (F:Fix)(i j:Nat):Prop:=(F.ms.getD i 0).testBit j=true
def BJ (F:Fix)(listed:Array Bool)(pre:List Row)(y:Row)(t:Nat)(z:Row):Prop:=
 z∈pre∧z.2.aS=false∧¬dn listed z.1∧z.2.dst=some t∧F.anc y.1 z.1
def Pend (F:Fix)(listed:Array Bool)(a:Act)(w:World)(pre:List Row)(e:Env)(H:Heap)(g:G)(y:Row):Prop:=
 ∃(o:Oper) (x:Item) (ei:Env) (v:V),F.ops[y.1]? = some o∧AX F.P F.n F.ops o x=true∧x.dst=y.2.dst∧x.looks=y.2.looks∧(y.2.hf=true→x.hf=true)∧
  Rdy F.P x ei H v∧(∀d,y.2.dst=some d→lk d e=v)∧
  ∀t∈y.2.looks,(∀z,BJ F listed pre y t z→lk t ei=lk t e)∧((¬∃z,BJ F listed pre y t z)→RepV w g (lk t ei) (a.tmps.getD t undef))
structure DInv (F:Fix)(listed:Array Bool)(a:Act)(w:World)(pre post:List Row)(e:Env)(H:Heap)(g:G):Prop where
 split:F.L=pre++post
 rest:Bu F.P (post.map Prod.snd) e H F.KP F.K
 stp:Stp F.H0 F.g0 F.w0 H g w
 size:a.tmps.size=F.n
 defers:a.defers=[]
 lsz:listed.size=F.ops.size
 closed:∀i,dn listed i→∀j,F.anc i j→dn listed j
 eDone:∀y∈pre,y.2.isE=true→dn listed y.1
 postDone:∀y∈post,y.2.aS=false→dn listed y.1→y.1=F.fa∧Early F.g0 H g w a y.2
 pend:∀y∈pre,y.2.isFl=true→¬dn listed y.1→Bp y.1 post=true∨Pend F listed a w pre e H g y
 temps:∀t,(∃y∈pre,y.2.aS=false∧¬dn listed y.1∧y.2.dst=some t)∨(∃y∈post,y.2.aS=false∧y.1=F.fa∧dn listed F.fa∧y.2.dst=some t)∨RepV w g (lk t e) (a.tmps.getD t undef)
structure FixOk (F:Fix):Prop where
 rows:CV F.P F.n F.ops F.ms F.fa [] F.L=true
 all:∀i,i<F.ops.size→∃y∈F.L,y.2.aS=false∧y.1=i
theorem FixOk.row {F:Fix}(hF:FixOk F){A B:List Row}{y:Row}(h:F.L=A++y::B)(hc:y.2.aS=false):∃o,RowOk F.P F.n F.ops F.ms F.fa A y B o:=by
 have:=Q1f _ _ hF.rows A y B h;exact Qbjv this hc
def BT (F:Fix)(x y:Row):Prop:=∃A B,F.L=A++y::B∧x∈A
theorem FixOk.pair {F:Fix}(hF:FixOk F){x y:Row}(h:BT F x y)(hx:x.2.aS=false)(hy:y.2.aS=false):PairOk F.ms F.fa x y:=by
 obtain⟨A,B,h1,h2⟩:=h;obtain⟨o,ho⟩:=hF.row h1 hy;exact ho.pair x h2 hx
theorem Ci {F:Fix}{pre post:List Row}(h:F.L=pre++post){x y:Row}(hx:x∈pre)(hy:y∈post):BT F x y:=by
 obtain⟨s,t,rfl⟩:=Ja8 hy;exact⟨pre++s,t,by rw[h];simp,Za9⟩
theorem GT {F:Fix}{pre post:List Row}{y x:Row}(h:F.L=pre++y::post)(hx:x∈post):BT F y x:=
 Ci (pre:=pre++[y]) ZI Zz hx
theorem LB {F:Fix}{x y:Row}(hx:x∈F.L)(hy:y∈F.L):x=y∨BT F x y∨BT F y x:=by
 obtain⟨s,t,h⟩:=Ja8 hx;have:y∈s++x::t:=h▸hy;rcases J1.1 this with k|k
 ·exact .inr (.inr ⟨s,t,h,k⟩)
 ·rcases J3.1 k with k|k
  ·exact .inl k.symm
  ·exact .inr (.inl (GT h k))
theorem FixOk.inj {F:Fix}(hF:FixOk F){x y:Row}(hx:x∈F.L)(hy:y∈F.L)(ta:x.2.aS=false)(cE:y.2.aS=false)(h:x.1=y.1):x=y:=by
 rcases LB hx hy with k|k|k
 ·exact k
 ·exact absurd h (hF.pair k ta cE).ne
 ·exact absurd h.symm (hF.pair k cE ta).ne
theorem Ec {x:Item}(h:x.isFl=true):x.aS=false∧x.isE=false:=by
 cases x <;> simp_all[Item.isFl,Item.aS,Item.isE]
theorem CG {x:Item}(h:x.isE=true):x.aS=false∧x.isFl=false:=by
 cases x <;> simp_all[Item.isFl,Item.aS,Item.isE]
theorem HA {j:Nat}{y:Row}{r:List Row}(h:Bp j (y::r)=true):y.2.aS=true∧(y.1=j∨Bp j r=true):=by
 simpa[Bp]using h
theorem DInv.passFl {F:Fix}(hF:FixOk F){listed:Array Bool}{pre r:List Row}{y:Row}(hI:DInv F listed a w pre (y::r) e H g)(hy:y.2.isFl=true)(v:V)(hr:Rdy F.P y.2 e H v)
  (bU:Bu F.P (r.map Prod.snd) (putE y.2.dst v e) H F.KP F.K) (cr:¬dn listed y.1):DInv F listed a w (pre++[y]) r (putE y.2.dst v e) H g:=by
 obtain⟨cE,xX⟩:=Ec hy;obtain⟨o,ho⟩:=hF.row hI.split cE;have hL:y∈F.L:=ZaT
 have fQ:∀z∈pre,z∈F.L:=fun z hz=>ZP
 have kg:∀z∈r,z∈F.L:=fun z hz=>ZP
 have ie:∀t,y.2.dst≠some t→lk t (putE y.2.dst v e)=lk t e:=by
  intro t ht
  cases hd:y.2.dst with
  |none=>rfl
  |some d=>
   simp only[putE,lk];rw[if_neg];intro h;subst h;exact ht hd
 have wb:∀t,y.2.dst=some t→lk t (putE y.2.dst v e)=v:=by
  intro t ht;rw[ht];simp[putE,lk]
 refine⟨by rw[hI.split];simp,bU,hI.stp,hI.size,hI.defers,hI.lsz,hI.closed,?_,?_,?_,?_⟩
 ·intro z hz iL;rcases J1.1 hz with k|k
  ·exact hI.eDone z k iL
  ·simp at k;subst k;rw[xX]at iL;simp at iL
 ·exact fun z hz=>hI.postDone z Zba
 ·intro z hz ev eP;obtain⟨cN,qD⟩:=Ec ev;right;rcases J1.1 hz with k|k
  ·rcases hI.pend z k ev eP with h|h
   ·have:=(HA h).1;rw[cE]at this;simp at this
   ·obtain⟨o',x,ei,u,p1,p2,p3,p4,p5,p6,p7,p8⟩:=h;refine⟨o',x,ei,u,p1,p2,p3,p4,p5,p6,?_,?_⟩
    ·intro d hd;rw[ie d fun h=>(hF.pair (Ci hI.split k Zz) cN cE).dst d hd h];exact p7 d hd
    ·intro t ht;obtain⟨q1,q2⟩:=p8 t ht;have hb:∀z',BJ F listed (pre++[y]) z t z'→BJ F listed pre z t z':=by
      rintro z' ⟨b1,b2,b3,b4,b5⟩;refine⟨?_,b2,b3,b4,b5⟩;rcases J1.1 b1 with b|b
      ·exact b
      ·simp at b;subst b;have:=(hF.pair (Ci hI.split k Zz) cN cE).top;rw[Fix.anc,this]at b5;simp at b5
     refine⟨?_,?_⟩
     ·intro z' gc;have hz'':=hb z' gc;rw[q1 z' hz'',ie];intro h;exact (hF.pair (Ci hI.split hz''.1 Zz) hz''.2.1 cE).dst t hz''.2.2.2.1 h
     ·intro cd;refine q2 fun ⟨z',b1,b2⟩=>cd ⟨z',?_,b2⟩;simp[b1]
  ·simp at k;subst k;refine⟨o,z.2,e,v,ho.op,ho.item,rfl,rfl,id,hr,wb,?_⟩;intro t ht;have mW:z.2.dst≠some t:=fun h=>ho.self t h ht;refine⟨?_,?_⟩
   ·intro z' gc;rw[ie t mW]
   ·intro cd;rcases hI.temps t with ⟨y',k1,k2,k3,k4⟩|⟨y',k1,k2,k3,k4,k5⟩|k
    ·exact absurd ⟨y',Zay,k2,k3,k4,(hF.pair (Ci hI.split k1 Zz) k2 cN).raw t k4 ht⟩ cd
    ·exfalso;rcases J3.1 k1 with h|h
     ·subst h;exact mW k5
     ·have:=(hF.pair (GT hI.split h) cN k2).war t k5 ht;rw[k3]at this;exact cr (hI.closed _ k4 _ this)
    ·exact k
 ·intro t;by_cases ht:y.2.dst=some t
  ·exact .inl ⟨y,Zz,cE,cr,ht⟩
  ·rw[ie t ht];rcases hI.temps t with ⟨y',k1,k2,k3,k4⟩|⟨y',k1,k2,k3,k4,k5⟩|k
   ·exact .inl ⟨y',Zay,k2,k3,k4⟩
   ·rcases J3.1 k1 with h|h
    ·subst h;exact absurd k5 ht
    ·exact .inr (.inl ⟨y',h,k2,k3,k4,k5⟩)
   ·exact .inr (.inr k)
theorem DInv.passChk {F:Fix}(hF:FixOk F){listed:Array Bool}{pre r:List Row}{j d:Nat}{gd:Option (Nat×Bool)}{op:FOp}(hI:DInv F listed a w pre ((j,.chk d gd op)::r) e H g) :
  DInv F listed a w (pre++[(j,.chk d gd op)]) r e H g:=by
 have aK:=Q1f _ _ hF.rows pre _ _ hI.split;obtain⟨o,c1,c2,⟨y0,c3,c4,c5,c6,c7,c8⟩,c9⟩:=Qbii aK;have bU:=hI.rest;simp only[Ja9,Bu]at bU;obtain⟨⟨r1,r2,r3⟩,r4⟩:=bU;have fQ:∀z∈pre,z∈F.L:=fun z hz=>ZP
 have je:∀z t z',BJ F listed (pre++[(j,.chk d gd op)]) z t z'↔BJ F listed pre z t z':=by
  intro z t z';constructor
  ·rintro⟨b1,b2⟩;refine⟨?_,b2⟩;rcases J1.1 b1 with b|b
   ·exact b
   ·simp at b;subst b;simp[Item.aS]at b2
  ·rintro⟨b1,b2⟩;exact⟨by simp[b1],b2⟩
 refine⟨by rw[hI.split];simp,r4,hI.stp,hI.size,hI.defers,hI.lsz,hI.closed,?_,?_,?_,?_⟩
 ·intro z hz iL;rcases J1.1 hz with k|k
  ·exact hI.eDone z k iL
  ·simp at k;subst k;simp[Item.isE]at iL
 ·exact fun z hz=>hI.postDone z Zba
 ·intro z hz ev eP;obtain⟨cN,qD⟩:=Ec ev;have k:z∈pre:=by
   rcases J1.1 hz with k|k
   ·exact k
   ·simp at k;subst k;simp[Item.aS]at cN
  have iA:Pend F listed a w pre e H g z→Pend F listed a w (pre++[(j,.chk d gd op)]) e H g z:=by
   rintro⟨o',x,ei,u,p1,p2,p3,p4,p5,p6,p7,p8⟩;refine⟨o',x,ei,u,p1,p2,p3,p4,p5,p6,p7,fun t ht=>?_⟩;simp only[je];exact p8 t ht
  rcases hI.pend z k ev eP with h|h
  ·rcases (HA h).2 with h'|h'
   ·right;simp only at h';have pZ:z=y0:=hF.inj (fQ _ k) (fQ _ c3) cN c4 (by rw[c5,←h']);subst pZ;refine⟨o,.f (some d) gd op,e,gdV gd (gdB e gd) (op.val e H),by rw[c5];exact c1,c2,by rw[c7];rfl,c6.symm,fun h=>by rw[c8]at h;simp at h,⟨r1,r2,rfl⟩,?_,?_⟩
    ·intro d' fh;rw[c7]at fh;simp at fh;subst fh;exact r3
    ·intro t ht;simp only[je];refine⟨fun _ _=>trivial,fun cd=>?_⟩;rcases hI.temps t with ⟨y',k1,k2,k3,k4⟩|⟨y',k1,k2,k3,k4,k5⟩|k'
     ·exfalso;refine cd ⟨y',k1,k2,k3,k4,?_⟩;have:=c9 y' k1 k2 t k4 (by rw[←c6];exact ht);rw[Fix.anc,c5];exact this
     ·exfalso;rcases J3.1 k1 with h|h
      ·subst h;simp[Item.aS]at k2
      ·have:=(hF.pair (Ci (pre:=pre++[(j,.chk d gd op)]) ZaT (by simp[k]) h) cN k2).war t k5 ht;rw[k3]at this;exact eP (hI.closed _ k4 _ this)
     ·exact k'
   ·exact .inl h'
  ·exact .inr (iA h)
 ·intro t;rcases hI.temps t with ⟨y',k1,k2,k3,k4⟩|⟨y',k1,k2,k3,k4,k5⟩|k
  ·exact .inl ⟨y',Zay,k2,k3,k4⟩
  ·rcases J3.1 k1 with h|h
   ·subst h;simp[Item.aS]at k2
   ·exact .inr (.inl ⟨y',h,k2,k3,k4,k5⟩)
  ·exact .inr (.inr k)
end Go.AE
