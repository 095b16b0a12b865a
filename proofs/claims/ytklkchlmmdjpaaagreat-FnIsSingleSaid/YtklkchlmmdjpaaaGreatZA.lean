/- Part 1 of the proof: the engine, codes, walks and plain laws, each named where it stands. -/
import Derived.Laws.RangeAny
import Derived.MapKept
import Derived.WalkKit
open Nat (reduceEqDiff reduceAdd reduceLeDiff reduceLT)
set_option linter.unusedVariables false
set_option linter.unusedSimpArgs false
set_option maxRecDepth 4000
open Array renaming getElem?_eq_getElem->Jb,getD_eq_getD_getElem?->Je,getElem?_eq_none->Ji,getElem?_setIfInBounds_ne->Js,getElem?_toList->Ju,getElem?_setIfInBounds_self_of_lt->Jx,getElem?_push->J5,getElem?_modify->J8,ext'->Jab,getElem?_of_mem->Jag,getElem?_range->Jah,getElem?_append_left->Jak,append_assoc->Jal,getElem?_map->Jam,size_eq_zero_iff->Jax,mem_of_getElem?->Jay,toList_zipIdx->Ja8,foldl_toList->Jba,getElem_mem->Jbd,mem_push->Jbo
open Bool renaming and_eq_true->Ja,false_eq_true->Jr,or_eq_true->Jad,not_eq_true'->Jap,eq_iff_iff->Jbm
open ByteArray renaming ext->Jbb
open ByteArray.mk renaming injEq->Jbs
open Function renaming comp_def->Jbe
open Iff renaming rfl->Jbf
open Int renaming toNat_natCast->Jaq,natCast_nonneg->Jbc
open List renaming getElem?_eq_getElem->Jd,getElem?_eq_none->Jf,mem_of_getElem?->Jh,getElem?_map->Jj,getElem?_append_left->Jl,getElem?_append_right->Jn,getElem?_take->Jo,getElem?_drop->Jt,append_assoc->Jw,length_eq_zero_iff->Jy,getD_eq_getElem?_getD->J0,getElem?_of_mem->J2,map_congr_left->J6,length_cons->J7,extract_eq_take_drop->J9,all_eq_true->Jaa,length_append->Jae,getElem?_range->Jai,getElem?_eq_some_iff->Jan,getElem?_zip_eq_some->Jao,getElem?_set->Jar,eraseIdx_cons_succ->Jas,getElem?_replicate->Jat,mem_cons->Jau,append_nil->Jaz,getElem?_toArray->Ja0,length_nil->Ja1,mem_append_right->Ja2,nodup_cons->Ja3,length_eraseIdx->Ja5,mem_append_left->Ja6,drop_take->Ja7,ext_getElem?->Jbg,length_range->Jbh,any_eq_true->Jbj,not_mem_nil->Jbk,map_cons->Jbp,map_map->Jbq,mem_map->Jbr
open Nat renaming lt_or_ge->Jg,add_mul->Jm,mul_le_mul_right->Jp,le_refl->Jv,add_zero->Jz,zero_add->J4,eq_zero_or_pos->Jaf,one_mul->Jaj,add_assoc->Jav,mul_comm->Ja4,mul_le_mul_left->Ja9,mod_lt->Jbi,mod_eq_of_lt->Jbl,mul_add_mod->Jbn
open Option renaming map_some->Jq,getD_some->J1,map_none->J3,isSome_iff_exists->Jac,getD_none->Jaw
open Option.some renaming injEq->Jc,inj->Jbt
open Prod.mk renaming injEq->Jk
namespace Go.AE
theorem Wa{G g:Prop}(h:g)(e:g->G:=by intro h;refine Q3 (Qa ?_);simp only[go_sem];exact h):G:=e h
theorem Wb{G g:Prop}(h:g)(e:g->G:=by intro h;refine Zd ?_;refine Qg (Qd ?_);exact h):G:=e h
theorem Wc{G g:Prop}(h:g)(e:g->G:=by intro h;refine Zb ?_;refine Za ?_;exact h):G:=e h
theorem Wd{G g:Prop}(h:g)(e:g->G:=by intro h;refine Za ?_;refine Za ?_;exact h):G:=e h
theorem We{G g:Prop}(h:g)(e:g->G:=by intro h;refine Za ?_;refine Zk ?_;exact h):G:=e h
theorem Wf{G g:Prop}(h:g)(e:g->G:=by intro h;refine Za ?_;refine Wa ?_;exact h):G:=e h
theorem Wg{G g:Prop}(h:g)(e:g->G:=by intro h;refine Za ?_;refine Q3 (Qa ?_);exact h):G:=e h
theorem Wh{G g:Prop}(h:g)(e:g->G:=by intro h;refine Qg (Qd ?_);refine Qa ?_;exact h):G:=e h
theorem Wi{G g:Prop}(h:g)(e:g->G:=by intro h;refine Za ?_;refine Zl ?_;exact h):G:=e h
theorem Wj{G g:Prop}(h:g)(e:g->G:=by intro h;refine Za ?_;refine Qa ?_;exact h):G:=e h
theorem Wl{G g:Prop}(h:g)(e:g->G:=by intro h;refine Zd ?_;refine Zg ?_;exact h):G:=e h
theorem Wm{G g:Prop}(h:g)(e:g->G:=by intro h;refine Qg (Qd ?_);refine Za ?_;exact h):G:=e h
theorem Wn{G g:Prop}(h:g)(e:g->G:=by intro h;refine Wc ?_;refine Zc ?_;exact h):G:=e h
theorem Wo{G g:Prop}(h:g)(e:g->G:=by intro h;refine Zd ?_;refine Qg (Qd (Aw ?_));exact h):G:=e h
theorem Wp{G g:Prop}(h:g)(e:g->G:=by intro h;refine Qd (Qa ?_);simp only[go_sem];exact h):G:=e h
theorem Wq{G g:Prop}(h:g)(e:g->G:=by intro h;refine Wb ?_;refine Qa ?_;exact h):G:=e h
theorem Wr{G g:Prop}(h:g)(e:g->G:=by intro h;refine Za ?_;refine Zc ?_;exact h):G:=e h
theorem Ws{G g:Prop}(h:g)(e:g->G:=by intro h;refine Wc ?_;refine Zf ?_;exact h):G:=e h
theorem Wt{G g:Prop}(h:g)(e:g->G:=by intro h;refine Qg (Qd ?_);refine Qp ?_;exact h):G:=e h
theorem Wu{G g:Prop}(h:g)(e:g->G:=by intro h;refine Qg (Qd ?_);refine Aw ?_;exact h):G:=e h
theorem Wv{G a b:Prop}(h:a)(k:b)(e:a->b->G:=by intro h k;exact Qg (Qf rfl h k)):G:=e h k
theorem Ww{G a b:Prop}(h:a)(k:b)(e:a->b->G:=by intro h k;exact Qf rfl h k):G:=e h k
theorem Za{G g:Prop}(h:g)(e:g->G:=by intro h;refine Qa ?_;simp only[go_sem];exact h):G:=e h
theorem Zb{G g:Prop}(h:g)(e:g->G:=by intro h;refine Qq ?_;simp only[go_sem,X.next];exact h):G:=e h
theorem Zc{G g:Prop}(h:g)(e:g->G:=by intro h;refine Qk ?_;simp only[go_sem,Q4,Aa,Ja,forall_eq,RS.op];exact h):G:=e h
theorem Zd{G g:Prop}(h:g)(e:g->G:=by intro h;refine Qh ?_;simp only[go_sem];exact h):G:=e h
theorem Ze{G g:Prop}(h:g)(e:g->G:=by intro h;refine Qh ?_;(try simp only[go_sem]);exact h):G:=e h
theorem Zf{G g:Prop}(h:g)(e:g->G:=by intro h;refine Qk ?_;simp only[go_sem,Q4,Aa,Jb,forall_eq,RS.op];exact h):G:=e h
theorem Zg{G g:Prop}(h:g)(e:g->G:=by intro h;refine Qp ?_;simp only[go_sem,X.next];exact h):G:=e h
theorem Zh{G g P0:Prop}(p0:P0)(h:g)(e:P0->g->G:=by intro p0 h;refine Qa ?_;simp only[go_sem,p0];exact h):G:=e p0 h
theorem Zi{G g:Prop}(h:g)(e:g->G:=by intro h;refine Qp ?_;simp only[go_sem];exact h):G:=e h
theorem Zj{G g P0:Prop}(p0:P0)(h:g)(e:P0->g->G:=by intro p0 h;refine Qk ?_;simp only[go_sem,Q4,Aa,Ja,forall_eq,RS.op,p0];exact h):G:=e p0 h
theorem Zk{G g:Prop}(h:g)(e:g->G:=by intro h;refine Qk ?_;simp only[go_sem];exact h):G:=e h
theorem Zl{G g:Prop}(h:g)(e:g->G:=by intro h;refine Qk ?_;simp only[go_sem,X.next];exact h):G:=e h
theorem Zm{G g:Prop}(h:g)(e:g->G:=by intro h;refine Qk ?_;simp only[go_sem,X.next,Q4,Aa,Ja,forall_eq,RS.op];exact h):G:=e h
theorem Zn{G g P0 P1:Prop}(p0:P0)(p1:P1)(h:g)(e:P0->P1->g->G:=by intro p0 p1 h;refine Qa ?_;simp only[go_sem,p0,p1];exact h):G:=e p0 p1 h
theorem Zo{G g P0 P1 P2:Prop}(p0:P0)(p1:P1)(p2:P2)(h:g)(e:P0->P1->P2->g->G:=by intro p0 p1 p2 h;refine Qa ?_;simp only[go_sem,p0,p1,p2];exact h):G:=e p0 p1 p2 h
theorem Zp{G g P0 P1:Prop}(p0:P0)(p1:P1)(h:g)(e:P0->P1->g->G:=by intro p0 p1 h;refine Qk ?_;simp only[go_sem,Q4,Aa,Ja,forall_eq,RS.op,p0,p1];exact h):G:=e p0 p1 h
theorem Zq{G g:Prop}(h:g)(e:g->G:=by intro h;refine Qk ?_;simp only[go_sem,X.next,Q4,Aa,Jb,forall_eq,RS.op];exact h):G:=e h
theorem Zr{G g:Prop}(h:g)(e:g->G:=by intro h;refine Qh ?_;simp only[go_sem,X.next];exact h):G:=e h
theorem Zs{G g:Prop}(h:g)(e:g->G:=by intro h;refine Qq ?_;simp only[go_sem,AE.X.next];exact h):G:=e h
theorem Zt{G g P0:Prop}(p0:P0)(h:g)(e:P0->g->G:=by intro p0 h;refine Qk ?_;simp only[go_sem,Q4,Aa,Jb,forall_eq,RS.op,p0];exact h):G:=e p0 h
theorem Zu{G g:Prop}(h:g)(e:g->G:=by intro h;refine Qk ?_;simp only[go_sem,AE.X.next];exact h):G:=e h
theorem Zv{G g P0:Prop}(p0:P0)(h:g)(e:P0->g->G:=by intro p0 h;refine Qp ?_;simp only[go_sem,p0];exact h):G:=e p0 h
theorem Zw{G g P0:Prop}(p0:P0)(h:g)(e:P0->g->G:=by intro p0 h;refine Qa ?_;simp only[go_sem,GS.o,p0];exact h):G:=e p0 h
theorem Zx{G g:Prop}(h:g)(e:g->G:=by intro h;refine Qa ?_;simp only[go_sem,x.aD];exact h):G:=e h
theorem Zy{G g P0:Prop}(p0:P0)(h:g)(e:P0->g->G:=by intro p0 h;refine Qk ?_;simp only[go_sem,Q4,Aa,J8,Jam,RS.op,p0];exact h):G:=e p0 h
theorem Zz{G g:Prop}(h:g)(e:g->G:=by intro h;refine Qa ?_;simp only[go_sem,CodeD.cells];exact h):G:=e h
theorem ZA{G g:Prop}(h:g)(e:g->G:=by intro h;refine Qa ?_;simp only[go_sem,InsD.cells];exact h):G:=e h
theorem ZB{G g:Prop}(h:g)(e:g->G:=by intro h;refine Aj ?_;simp only[go_sem];exact h):G:=e h
theorem ZC{G g:Prop}(h:g)(e:g->G:=by intro h;refine Qp ?_;simp only[go_sem,AE.X.next];exact h):G:=e h
theorem ZD{P:Prop}(h:P:=by omega):P:=h
theorem ZE{P:Prop}(h:P:=by simp[lk]):P:=h
theorem ZF{P:Prop}(h:P:=by simp):P:=h
theorem ZG{P:Prop}(h:P:=by simpa using hc):P:=h
theorem ZH{P:Prop}(h:P:=by kernel_rfl):P:=h
theorem ZI{P:Prop}(h:P:=by simpa using ao):P:=h
theorem ZJ{P:Prop}(h:P:=by simp;omega):P:=h
theorem ZK{P:Prop}(h:P:=by simp at h):P:=h
theorem ZL{P:Prop}(h:P:=by simp[lk];rfl):P:=h
theorem ZM{P:Prop}(h:P:=by simpa using bk):P:=h
theorem ZN{P:Prop}(h:P:=by simp[G.newObj]):P:=h
theorem ZO{P:Prop}(h:P:=by simpa using kn):P:=h
theorem ZP{P:Prop}(h:P:=by simpa using h):P:=h
theorem ZQ{P:Prop}(h:P:=by simpa using bN):P:=h
theorem ZR{P:Prop}(h:P:=by decide):P:=h
theorem ZS{P:Prop}(h:P:=by simp only[Jk,Jj,Jo,LIM];omega):P:=h
theorem ZT{P:Prop}(h:P:=by rw[<-hX];simp[sgL]):P:=h
theorem ZU{P:Prop}(h:P:=by simp only[LIM];omega):P:=h
theorem ZV{P:Prop}(h:P:=by simp only[FOp.val,hv];exact .c _ _ (.int _ _)):P:=h
theorem ZW{P:Prop}(h:P:=by simpa using hb):P:=h
theorem ZX{P:Prop}(h:P:=by rw[ak];omega):P:=h
theorem ZY{P:Prop}(h:P:=by rw[hI.split];simp[hz]):P:=h
theorem ZZ{P:Prop}(h:P:=by rw[Qe];omega):P:=h
theorem Zaa{P:Prop}(h:P:=by simp only[World.shape?];rw[show w.heap.size=w.drew.heap.size from rfl,BX]):P:=h
theorem Zab{P:Prop}(h:P:=by simpa using e2):P:=h
theorem Zac{P:Prop}(h:P:=by simpa using hj):P:=h
theorem Zad{P:Prop}(h:P:=by simp at hc;simp[Bm,hc]):P:=h
theorem Zae{P:Prop}(h:P:=by rw[Qu];omega):P:=h
theorem Zaf{P:Prop}(h:P:=by simpa using hl):P:=h
theorem Zag{P:Prop}(h:P:=by simpa using h2):P:=h
theorem Zah{P:Prop}(h:P:=by simpa using hi):P:=h
theorem Zai{P:Prop}(h:P:=by simpa using hg):P:=h
theorem Zaj{P:Prop}(h:P:=by simpa using hr):P:=h
theorem Zak{P:Prop}(h:P:=by rw[(Bq _ _ _).1,hn]):P:=h
theorem Zal{P:Prop}(h:P:=by rw[(Bq _ _ _).2,hd]):P:=h
theorem Zam{P:Prop}(h:P:=by simp[getObj,Sem.run,r3]):P:=h
theorem Zan{P:Prop}(h:P:=by rw[h2];simp):P:=h
theorem Zao{P:Prop}(h:P:=by simp only[EOp.eff,Bl]):P:=h
theorem Zap{P:Prop}(h:P:=by rw[<-hx];simp[Jb,bY,OIns.row,OInts.c]):P:=h
theorem Zaq{P:Prop}(h:P:=by simp[lk];exact of_decide_eq_true hc):P:=h
theorem Zar{P:Prop}(h:P:=by simp[Qb]):P:=h
theorem Zas{P:Prop}(h:P:=by simp[G.handOver]):P:=h
theorem Zat{P:Prop}(h:P:=by simp[Ja,ae]):P:=h
theorem Zau{P:Prop}(h:P:=by rw[hI.lsz];exact (Jl.1 ho.op).1):P:=h
theorem Zav{P:Prop}(h:P:=by rw[Jm];omega):P:=h
theorem Zaw{P:Prop}(h:P:=by simpa using h1):P:=h
theorem Zax{P:Prop}(h:P:=by simpa using ha):P:=h
theorem Zay{P:Prop}(h:P:=by rw[<-bQ];simpa using ao):P:=h
theorem Zaz{P:Prop}(h:P:=by simp only[Qe,LIM,Jj,Jo];omega):P:=h
theorem ZaA{P:Prop}(h:P:=by rw[Jd];simpa using bY):P:=h
theorem ZaB{P:Prop}(h:P:=by rw[hH];simp):P:=h
theorem ZaC{P:Prop}(h:P:=by rw[Qj];exact ho.fitB):P:=h
theorem ZaD{P:Prop}(h:P:=by rw[<-hp];exact Jc aI):P:=h
theorem ZaE{P:Prop}(h:P:=by rw[e];simp):P:=h
theorem ZaF{P:Prop}(h:P:=by simp[hn]):P:=h
theorem ZaG{P:Prop}(h:P:=by simpa using hz):P:=h
theorem ZaH{P:Prop}(h:P:=by simp[k1]):P:=h
theorem ZaI{P:Prop}(h:P:=by simpa using hp):P:=h
theorem ZaJ{P:Prop}(h:P:=by simpa using iS):P:=h
theorem ZaK{P:Prop}(h:P:=by rw[ho];exact OBlk.inM (Ji _ (o.aM ae))):P:=h
theorem ZaL{P:Prop}(h:P:=by rw[hF.injDst (eO _ dl) im eE bV cY h]):P:=h
theorem ZaM{P:Prop}(h:P:=by rw[<-hy];exact ho.bs b hb):P:=h
theorem ZaN{P:Prop}(h:P:=by subst h;exact mI (hs.none_of_io cZ)):P:=h
theorem ZaO{P:Prop}(h:P:=by rw[Opd.aA (h x hx),Opd.aQ (h x hx)]):P:=h
theorem ZaP{P:Prop}(h:P:=by simp[OIns.lg,OInts.lg]):P:=h
theorem ZaQ{P:Prop}(h:P:=by rw[s.c];exact b6):P:=h
theorem ZaR{P:Prop}(h:P:=by rw[hI.size];exact Rd ho.item t ht):P:=h
theorem ZaS{P:Prop}(h:P:=by simp only[Q1,Qe,LIM,Jo,Jn];omega):P:=h
theorem ZaT{P:Prop}(h:P:=by rw[cW];exact aV):P:=h
theorem ZaU{P:Prop}(h:P:=by simpa using e1):P:=h
theorem ZaV{P:Prop}(h:P:=by simpa using bF):P:=h
theorem ZaW{P:Prop}(h:P:=by rw[Opd.aQ (h x hx)]):P:=h
theorem ZaX{P:Prop}(h:P:=by rw[<-hx];exact Jc bY):P:=h
theorem ZaY{P:Prop}(h:P:=by simp[h]):P:=h
theorem ZaZ{P:Prop}(h:P:=by rw[<-hw];exact Jc aV):P:=h
theorem Za0{P:Prop}(h:P:=by simp[hx]):P:=h
theorem Za1{P:Prop}(h:P:=by simp[hz]):P:=h
theorem Za2{P:Prop}(h:P:=by simp[hp]):P:=h
theorem Za3{P:Prop}(h:P:=by rw[AU,cF];rfl):P:=h
theorem Za4{P:Prop}(h:P:=by rw[hI.split];simp):P:=h
theorem Za5{P:Prop}(h:P:=by rw[x.aD];rfl):P:=h
theorem Za6{P:Prop}(h:P:=by rw[<-hX];simp):P:=h
theorem Za7{P:Prop}(h:P:=by simp at hc;omega):P:=h
theorem Za8{P:Prop}(h:P:=by rw[h.n];exact h2):P:=h
theorem Za9{P:Prop}(h:P:=by rw[<-e1];exact hx):P:=h
theorem Zba{P:Prop}(h:P:=by simp[Ja,bp]):P:=h
theorem Zbb{P:Prop}(h:P:=by rw[hz];simp):P:=h
theorem Zbc{P:Prop}(h:P:=by rw[<-eZ];rfl):P:=h
theorem Zbd{P:Prop}(h:P:=by simp[hl]):P:=h
theorem Zbe{P:Prop}(h:P:=by simp[Bs]):P:=h
theorem Zbf{P:Prop}(h:P:=by rw[h1];rfl):P:=h
theorem Zbg{P:Prop}(h:P:=by simp at hc):P:=h
theorem Zbh{P:Prop}(h:P:=by rw[hH];rfl):P:=h
theorem Zbi{P:Prop}(h:P:=by simp[ih.1]):P:=h
theorem Zbj{P:Prop}(h:P:=by rw[ho];rfl):P:=h
theorem Zbk{P:Prop}(h:P:=by rw[cH];rfl):P:=h
end Go.AE
namespace Go.AE
def LIM:Nat:=549755813888
inductive C where
 |int (k:IntKind) (n:Int)
 |bool (b:Bool)
 |str (s:List UInt8)
 |sl (full:Bool) (sz:Nat) (rows:List (List C))
 |pp (cells:List C)
 |ep (s:C) (sz i k:Nat)
 |pnil
 |ptr (l k:Nat)
 |ah (l sz st n:Nat)
 |mp (l:Nat)
 |mnil
 |slb (n:Nat)
 |stb (n:Nat)
 |cm (agg:Bool) (ks:List C) (rows:List (List C))
 |fn (f:Nat) (caps:List C)
 |fnil
 |itr (l:Nat)
 |ow (sz:Nat) (rows:List (List C))
 |unk
 deriving Inhabited
inductive V where
 |c (x:C)
 |ag (cs:List C)
 |tup (vs:List V)
 |gd (p:Bool) (v:V)
 |unk
 |pn (v:Value)
 |asl (l k n:Nat)
 deriving Inhabited
inductive Obj where
 |none
 |st (cells:List C)
 |vec (sz:Nat) (rows:List (List C))
 |map (ver:Nat) (es:List (C×V))
 |iter (m:Option (Nat×Nat)) (left:List (C×V)) (cur:Option (C×V))
 |gl (b:Nat) (cells:List C)
 |sit (s:List UInt8) (q:Nat)
abbrev Heap:=Nat->Obj
def Heap.set (H:Heap)(l:Nat)(o:Obj):Heap:=λx=>if x=l then o else H x
theorem Heap.aC (H:Heap)(l:Nat)(o:Obj):H.set l o l=o:=by simp[Heap.set]
theorem Heap.af (H:Heap){l x:Nat}(o:Obj)(h:x≠l):H.set l o x=H x:=by simp[Heap.set,h]
theorem Heap.set_self (H:Heap)(l:Nat)(o:Obj)(h:H l=o):H.set l o=H:=by
 funext x;simp only[Heap.set];split
 ·subst_vars;rfl
 ·rfl
structure G where
 per:Nat->Bool
 own:Nat->Option (Nat×List Nat)
 io:Nat->Option (Nat×Nat×Nat)
def C.aN:C->Nat
 |.sl _ sz _=>sz
 |.ah _ sz _ _=>sz
 |_=>0
inductive RepC (w:World)(g:G):C->Value->Prop
 |int (k n):RepC w g (.int k n) (.int k n)
 |bool (b):RepC w g (.bool b) (.bool b)
 |str (s:List UInt8) (h:s.length<=LIM):RepC w g (.str s) (.string ⟨s.toArray⟩)
 |ca (fl sz a):RepC w g (.sl fl sz []) (.slice a 0 0)
 |sl (fl:Bool) (sz:Nat) (rows:List (List C)) (b off cap:Nat) (val:Nat->Nat->Value) (hl:rows.length<=LIM) (hf:fl=true->cap=rows.length) (eL:rows.length<=cap)
   (hp:g.per b=true) (hr:∀(i:Nat) (row:List C),rows[i]? = some row->row.length=sz)
   (hc:∀(i:Nat) (row:List C) (j:Nat) (c:C),rows[i]? = some row->row[j]? = some c->w.cell? ⟨b,off+i * sz+j,none⟩=some (val i j))
   (hv:∀(i:Nat) (row:List C) (j:Nat) (c:C),rows[i]? = some row->row[j]? = some c->RepC w g c (val i j)) :
   RepC w g (.sl fl sz rows) (.slice (some ⟨b,off,none⟩) rows.length cap)
 |pp (cells:List C) (b off:Nat) (val:Nat->Value) (hp:g.per b=true)
   (hc:∀(j:Nat) (c:C),cells[j]? = some c->w.cell? ⟨b,off+j,none⟩=some (val j))
   (hv:∀(j:Nat) (c:C),cells[j]? = some c->RepC w g c (val j)) :
   RepC w g (.pp cells) (.pointer (some ⟨b,off,none⟩))
 |ep (s sz i k b off n cap) (hs:RepC w g s (.slice (some ⟨b,off,none⟩) n cap)) (hz:s.aN=sz) (hi:i<n) :
   RepC w g (.ep s sz i k) (.pointer (some ⟨b,off+i * sz+k,none⟩))
 |pnil:RepC w g .pnil (.pointer none)
 |ptr (l k b sz base) (h:g.io l=some (b,sz,base)):RepC w g (.ptr l k) (.pointer (some ⟨b,base+k,none⟩))
 |bZ (l sz st a):RepC w g (.ah l sz st 0) (.slice a 0 0)
 |ah (l sz st n cap b base T m) (h:g.io l=some (b,sz,base)) (hn:n<=cap) (hs:w.shape? b=some (T,m))
   (hm:base+(st+cap) * sz<=m) :
   RepC w g (.ah l sz st n) (.slice (some ⟨b,base+st * sz,none⟩) n cap)
 |mp (l b) (h:g.io l=some (b,0,0)):RepC w g (.mp l) (.map (some b))
 |mnil:RepC w g .mnil (.map none)
 |slb (n a cap) (h:n<2 ^ 63):RepC w g (.slb n) (.slice a n cap)
 |stb (s:ByteArray) (h:s.size<2 ^ 63):RepC w g (.stb s.size) (.string s)
 |cm (agg:Bool) (ks:List C) (rows:List (List C)) (b:Nat) (ms:Array MapEntry) (clock:Nat) (val:Nat->Nat->Value) (hp:g.per b=true) (hb:w.heap[b]? = some (.map ms clock))
   (bj:ms.size=ks.length) (dA:rows.length=ks.length) (hl:ks.length<=LIM)
   (hd:∀(i j:Nat) (m m':MapEntry),ms[i]? = some m->ms[j]? = some m'->(m.born=m'.born\/m.key=m'.key)->i=j)
   (hm:∀(i:Nat) (row:List C) (m:MapEntry),rows[i]? = some row->ms[i]? = some m->m.val=(if agg then .agg ((List.range row.length).map (val i)).toArray else val i 0)/\(agg=false->row.length=1))
   (hk:∀(i:Nat) (k:C) (m:MapEntry),ks[i]? = some k->ms[i]? = some m->RepC w g k m.key)
   (hv:∀(i:Nat) (row:List C) (j:Nat) (c:C),rows[i]? = some row->row[j]? = some c->RepC w g c (val i j)) :
   RepC w g (.cm agg ks rows) (.map (some b))
 |fn (f:Nat) (caps:List C) (vs:List Value) (hl:vs.length=caps.length)
   (hv:∀(j:Nat) (c:C) (u:Value),caps[j]? = some c->vs[j]? = some u->RepC w g c u) :
   RepC w g (.fn f caps) (.func (.func f) #[] vs.toArray)
 |fnil:RepC w g .fnil .nilFunc
 |itr (l b) (h:g.io l=some (b,0,0)):RepC w g (.itr l) (.pointer (some ⟨b,0,none⟩))
 |unk (v) (h:v.oneCell'=true):RepC w g .unk v
inductive RepV (w:World)(g:G):V->Value->Prop
 |c (x v) (h:RepC w g x v):RepV w g (.c x) v
 |ag (cs:List C) (vs:List Value) (hl:vs.length=cs.length) (h:∀(j:Nat) (c:C) (u:Value),cs[j]? = some c->vs[j]? = some u->RepC w g c u) :
   RepV w g (.ag cs) (.agg vs.toArray)
 |tup (xs:List V) (vs:List Value) (hl:vs.length=xs.length) (h:∀(j:Nat) (x:V) (u:Value),xs[j]? = some x->vs[j]? = some u->RepV w g x u) :
   RepV w g (.tup xs) (.tuple vs.toArray)
 |gd (p:Bool) (x v) (h:p=true->RepV w g x v) (h':p=false->v=undef):RepV w g (.gd p x) v
 |unk (v):RepV w g .unk v
 |asl (l k n b sz) (h:g.io l=some (b,sz,0)):RepV w g (.asl l k n) (.slice (some ⟨b,k,none⟩) n n)
inductive RepO (w:World)(g:G):Nat->List Nat->C->Value->Prop
 |plain (l p c v) (h:RepC w g c v):RepO w g l p c v
 |ownil (l p sz a):RepO w g l p (.ow sz []) (.slice a 0 0)
 |ow (l:Nat) (p:List Nat) (sz:Nat) (rows:List (List C)) (b off cap:Nat) (T:TypeId) (cs:Array Value) (val:Nat->Nat->Value) (hl:rows.length<=LIM) (eL:rows.length<=cap)
   (iH:g.own b=some (l,p)) (hb:w.heap[b]? = some (.cells cs T (0,0))) (bj:off+cap * sz<=cs.size)
   (hr:∀(i:Nat) (row:List C),rows[i]? = some row->row.length=sz)
   (hc:∀(i:Nat) (row:List C) (j:Nat) (c:C),rows[i]? = some row->row[j]? = some c->cs[off+i * sz+j]? = some (val i j))
   (hv:∀(i:Nat) (row:List C) (j:Nat) (c:C),rows[i]? = some row->row[j]? = some c->RepO w g l (p++[i,j]) c (val i j)) :
   RepO w g l p (.ow sz rows) (.slice (some ⟨b,off,none⟩) rows.length cap)
structure Le (g:G)(w:World)(g':G)(w':World):Prop where
 per:∀b,g.per b=true->g'.per b=true/\w'.heap[b]? = w.heap[b]?
 io:∀l x,g.io l=some x->g'.io l=some x
 size:w.heap.size<=w'.heap.size
 shp:∀b T n,w.shape? b=some (T,n)->w'.shape? b=some (T,n)
 tape:w'.tape=w.tape
 os:w'.os=w.os
 output:w'.output=w.output
theorem Le.refl (g:G)(w:World):Le g w g w:=⟨λ_ h=>⟨h,rfl⟩,λ_ _ h=>h,Jv _,λ_ _ _ h=>h,rfl,rfl,rfl⟩
theorem Le.trans {g g' g'':G}{w w' w'':World}(h:Le g w g' w')(k:Le g' w' g'' w''):Le g w g'' w'':=
 ⟨λb hb=>⟨(k.per b (h.per b hb).1).1,((k.per b (h.per b hb).1).2).trans (h.per b hb).2⟩,λl x hx=>k.io l x (h.io l x hx),
  Nat.le_trans h.size k.size,λb T n hn=>k.shp b T n (h.shp b T n hn),k.tape.trans h.tape,k.os.trans h.os,k.output.trans h.output⟩
theorem S4 {w w':World}{a:Addr}(h:w'.heap[a.block]? = w.heap[a.block]?):w'.cell? a=w.cell? a:=by
 simp only[World.cell?,h]
theorem RepC.mono {g g':G}{w w':World}(aP:Le g w g' w'){c:C}{v:Value}(h:RepC w g c v):RepC w' g' c v:=by
 induction h with
 |int k n=>exact .int k n
 |bool b=>exact .bool b
 |str s h=>exact .str s h
 |ca fl sz a=>exact .ca fl sz a
 |sl fl sz rows b off cap val hl hf eL hp hr hc hv ih=>
  refine .sl fl sz rows b off cap val hl hf eL (aP.per b hp).1 hr (λi row j c h1 h2=>?_) ih;rw[S4 (w:=w) (aP.per b hp).2];exact hc i row j c h1 h2
 |pp cells b off val hp hc hv ih=>
  refine .pp cells b off val (aP.per b hp).1 (λj c h1=>?_) ih;rw[S4 (w:=w) (aP.per b hp).2];exact hc j c h1
 |ep s sz i k b off n cap hs hz hi ih=>exact .ep s sz i k b off n cap ih hz hi
 |pnil=>exact .pnil
 |ptr l k b sz base h=>exact .ptr l k b sz base (aP.io _ _ h)
 |bZ l sz st a=>exact .bZ l sz st a
 |ah l sz st n cap b base T m h hn hs hm=>exact .ah l sz st n cap b base T m (aP.io _ _ h) hn (aP.shp _ _ _ hs) hm
 |mp l b h=>exact .mp l b (aP.io _ _ h)
 |mnil=>exact .mnil
 |slb n a cap h=>exact .slb n a cap h
 |stb s h=>exact .stb s h
 |cm agg ks rows b ms clock val hp hb bj dA hl hd hm hk hv ihk ihv=>exact .cm agg ks rows b ms clock val (aP.per b hp).1 ((aP.per b hp).2.trans hb) bj dA hl hd hm ihk ihv
 |fn f caps vs hl hv ih=>exact .fn f caps vs hl ih
 |fnil=>exact .fnil
 |itr l b h=>exact .itr l b (aP.io _ _ h)
 |unk v h=>exact .unk v h
theorem RepV.mono {g g':G}{w w':World}(aP:Le g w g' w'){x:V}{v:Value}(h:RepV w g x v):RepV w' g' x v:=by
 induction h with
 |c x v h=>exact .c x v (h.mono aP)
 |ag cs vs hl h=>exact .ag cs vs hl λj c u h1 h2=>(h j c u h1 h2).mono aP
 |tup xs vs hl h ih=>exact .tup xs vs hl ih
 |gd p x v h h' ih=>exact .gd p x v ih h'
 |asl l k n b sz h=>exact .asl l k n b sz (aP.io _ _ h)
 |unk v=>exact .unk v
theorem RepC.one {w:World}{g:G}{c:C}{v:Value}(h:RepC w g c v):v.oneCell'=true:=by
 cases h <;> first|rfl|assumption
theorem RepO.move {g g':G}{w w':World}(aP:Le g w g' w'){l:Nat}{p:List Nat}{c:C}{v:Value}(h:RepO w g l p c v) :
  ∀{l':Nat} {p':List Nat},(∀q b,g.own b=some (l,p++q)->g'.own b=some (l',p'++q)/\w'.heap[b]? = w.heap[b]?)->
  RepO w' g' l' p' c v:=by
 induction h with
 |plain p c v h=>exact λ_=>.plain _ _ c v (h.mono aP)
 |ownil p sz a=>exact λ_=>.ownil _ _ sz a
 |ow p sz rows b off cap T cs val hl eL iH hb bj hr hc hv ih=>
  intro l' p' hk;have h0:=hk [] b (by simpa using iH);refine .ow l' p' sz rows b off cap T cs val hl eL (by simpa using h0.1) (h0.2.trans hb) bj hr hc λi row j c h1 h2=>?_;refine ih i row j c h1 h2 λq b hq=>?_;have:=hk ([i,j]++q) b (by rw[<-Jw];exact hq);rw[Jw];exact this
theorem RepO.plain_of {w:World}{g:G}{l:Nat}{p:List Nat}{c:C}{v:Value}(h:RepO w g l p c v)(hn:∀sz rows,c≠.ow sz rows):RepC w g c v:=by
 cases h with
 |plain _ _ _ h=>exact h
 |ownil=>exact absurd rfl (hn _ _)
 |ow=>exact absurd rfl (hn _ _)
def RepE (w:World)(g:G)(e:C×V)(m:MapEntry):Prop:=RepC w g e.1 m.key/\RepV w g e.2 m.val
def SatVec (g:G)(w:World)(l sz:Nat)(rows:List (List C)):Prop:=
 ∃(b base:Nat) (T:TypeId) (cs:Array Value) (val:Nat->Nat->Value),g.io l=some (b,sz,base)/\g.own b=some (l,[])/\
   w.heap[b]? = some (.cells cs T (0,0))/\base+rows.length * sz<=cs.size/\rows.length<=LIM/\
   (∀(i:Nat) (row:List C),rows[i]? = some row->row.length=sz)/\
   (∀(i:Nat) (row:List C) (j:Nat) (c:C),rows[i]? = some row->row[j]? = some c->cs[base+i * sz+j]? = some (val i j))/\
   ∀(i:Nat) (row:List C) (j:Nat) (c:C),rows[i]? = some row->row[j]? = some c->RepO w g l [i,j] c (val i j)
theorem SatVec.of {g:G}{w:World}{l sz:Nat}{rows:List (List C)}{b base:Nat}(h:(rows=[]/\∃x,g.io l=some x/\x.2.1≠sz)\/SatVec g w l sz rows)(cg:g.io l=some (b,sz,base)):SatVec g w l sz rows:=by
 rcases h with ⟨_,x,h1,h2⟩|h
 ·rw[cg]at h1;simp at h1;subst h1;exact absurd rfl h2
 ·exact h
def SatObj (H:Heap)(g:G)(w:World)(l:Nat):Obj->Prop
 |.none=>True
 |.st cells=>∃(b sz:Nat) (T:TypeId) (cs:Array Value),g.io l=some (b,sz,0)/\g.own b=some (l,[])/\w.heap[b]? = some (.cells cs T (0,0))/\
   cs.size=cells.length/\∀(k:Nat) (c:C) (v:Value),cells[k]? = some c->cs[k]? = some v->RepO w g l [k] c v
 |.vec sz rows=>(rows=[]/\∃x,g.io l=some x/\x.2.1≠sz)\/SatVec g w l sz rows
 |.map _ es=>∃(b:Nat) (ms:Array MapEntry) (clock:Nat),g.io l=some (b,0,0)/\g.own b=some (l,[])/\w.heap[b]? = some (.map ms clock)/\
   ms.size=es.length/\es.length<=LIM/\(∀(i:Nat) (e:C×V) (m:MapEntry),es[i]? = some e->ms[i]? = some m->RepE w g e m)/\
   (∀(i:Nat) (m:MapEntry),ms[i]? = some m->m.born<clock)/\(∀(i j:Nat) (m m':MapEntry),ms[i]? = some m->ms[j]? = some m'->(m.born=m'.born\/m.key=m'.key)->i=j)
 |.iter none left cur=>∃(b since:Nat) (seen:Array Nat) (last:Nat),g.io l=some (b,0,0)/\g.own b=some (l,[])/\
   w.heap[b]? = some (.mapIter none since seen last)/\left=[]
 |.iter (some (m,ver)) left cur=>∃(b mb since:Nat) (seen:Array Nat),g.io l=some (b,0,0)/\g.own b=some (l,[])/\
   w.heap[b]? = some (.mapIter (some mb) since seen since)/\g.io m=some (mb,0,0)/\
   ∀v es,H m=.map v es->ver<=v/\(v=ver->∃(ms:Array MapEntry),w.heap[mb]? = some (.map ms since)/\ms.size=es.length/\
    es.Nodup/\left.Nodup/\(∀e,e∈left↔∃i:Nat,∃m:MapEntry,es[i]? = some e/\ms[i]? = some m/\m.born∉seen)/\
    (∀e,cur=some e->∃i:Nat,∃m:MapEntry,es[i]? = some e/\ms[i]? = some m/\seen.back? = some m.born))
 |.sit s q=>∃b:Nat,g.io l=some (b,0,0)/\g.own b=some (l,[])/\w.heap[b]? = some (.stringIter ⟨s.toArray⟩ q)/\s.length<=LIM
 |.gl b cells=>∃(sz:Nat) (val:Nat->Value),g.io l=some (b,sz,0)/\g.per b=true/\(∀(j:Nat) (c:C),cells[j]? = some c->w.cell? ⟨b,j,none⟩=some (val j))/\
   ∀(j:Nat) (c:C),cells[j]? = some c->RepC w g c (val j)
structure Sat (H:Heap)(g:G)(w:World):Prop where
 fresh:∀b,w.heap.size<=b->g.per b=false/\g.own b=none
 names:∃N,∀l,N<=l->g.io l=none
 excl:∀b x,g.own b=some x->g.per b=false
 named:∀b l p,g.own b=some (l,p)->g.io l≠none
 objs:∀l,SatObj H g w l (H l)
def Fr (H:Heap)(g:G)(w:World)(H':Heap)(g':G)(w':World):Prop:=
 ∀l,g.io l≠none->H l=.none->H' l=.none/\∀b p,g.own b=some (l,p)->g'.own b=some (l,p)/\w'.heap[b]? = w.heap[b]?
theorem Fr.refl (H:Heap)(g:G)(w:World):Fr H g w H g w:=λ_ _ h=>⟨h,λ_ _ h=>⟨h,rfl⟩⟩
theorem Fr.trans {H H' H'':Heap}{g g' g'':G}{w w' w'':World}(aP:Le g w g' w')(h:Fr H g w H' g' w')(k:Fr H' g' w' H'' g'' w''):Fr H g w H'' g'' w'':=by
 intro l hl hn;obtain⟨h1,h2⟩:=h l hl hn;have cZ:g'.io l≠none:=by
  cases hx:g.io l with
  |none=>exact absurd hx hl
  |some x=>rw[aP.io l x hx];simp
 obtain⟨k1,k2⟩:=k l cZ h1;refine⟨k1,λb p hb=>?_⟩;obtain⟨a1,a2⟩:=h2 b p hb;obtain⟨b1,b2⟩:=k2 b p a1;exact⟨b1,b2.trans a2⟩
structure Stp (H:Heap)(g:G)(w:World)(H':Heap)(g':G)(w':World):Prop where
 le:Le g w g' w'
 fr:Fr H g w H' g' w'
 sat:Sat H' g' w'
theorem Stp.refl {H:Heap}{g:G}{w:World}(h:Sat H g w):Stp H g w H g w:=⟨.refl _ _,.refl _ _ _,h⟩
theorem Stp.trans {H H' H'':Heap}{g g' g'':G}{w w' w'':World}(h:Stp H g w H' g' w')(k:Stp H' g' w' H'' g'' w''):Stp H g w H'' g'' w'':=
 ⟨h.le.trans k.le,h.fr.trans h.le k.fr,k.sat⟩
theorem Sat.io_some {H:Heap}{g:G}{w:World}(h:Sat H g w){l:Nat}(hl:H l≠.none):g.io l≠none:=by
 have:=h.objs l
 cases ho:H l with
 |none=>exact absurd ho hl
 |st cells=>rw[ho]at this;obtain⟨b,sz,T,cs,h1,_⟩:=this;rw[h1];simp
 |vec sz rows=>
  rw[ho]at this;rcases this with ⟨_,x,h1,_⟩|⟨b,sz,T,cs,v,h1,_⟩
  ·rw[h1];simp
  ·rw[h1];simp
 |map v es=>rw[ho]at this;obtain⟨b,ms,clock,h1,_⟩:=this;rw[h1];simp
 |gl b cells=>rw[ho]at this;obtain⟨sz,val,h1,_⟩:=this;rw[h1];simp
 |sit s q=>rw[ho]at this;obtain⟨b,h1,_⟩:=this;rw[h1];simp
 |iter m left cur=>
  rw[ho]at this
  cases m with
  |none=>obtain⟨b,s,se,la,h1,_⟩:=this;rw[h1];simp
  |some m=>obtain⟨m,v⟩:=m;obtain⟨b,mb,s,se,h1,_⟩:=this;rw[h1];simp
theorem Sat.none_of_io {H:Heap}{g:G}{w:World}(h:Sat H g w){l:Nat}(hl:g.io l=none):H l=.none:=by
 cases ho:H l with
 |none=>rfl
 |_=>exact absurd hl (h.io_some (by rw[ho];simp))
abbrev Env:=List (Nat×V)
def lk (t:Nat):Env->V
 |[]=>.unk
 |(s,v)::e=>if t=s then v else lk t e
inductive Opd where
 |t (n:Nat)
 |k (v:V)
 deriving Inhabited
def V.bare:V->V
 |.gd _ v=>v
 |v=>v
def V.fine (p:Bool):V->Prop
 |.gd q _=>p=true->q=true
 |_=>True
def Opd.raw (e:Env):Opd->V
 |.t n=>lk n e
 |.k v=>v
def Opd.v (e:Env)(o:Opd):V:=(o.raw e).bare
def Opd.fine (p:Bool)(e:Env)(o:Opd):Prop:=(o.raw e).fine p
def C.ai:C->Bool
 |.ow _ _=>true
 |_=>false
def rowsOf (H:Heap):C->List (List C)
 |.sl _ _ rows=>rows
 |.ah l _ st n=>match H l with
  |.vec _ rows=>(rows.drop st).take n
  |_=>[]
 |_=>[]
def aZ (H:Heap):C->Prop
 |.sl _ _ _=>True
 |.ah l sz st n=>match H l with
  |.vec z rows=>z=sz/\st+n<=rows.length
  |_=>False
 |_=>False
def ax:C->Nat
 |.sl _ _ rows=>rows.length
 |.ah _ _ _ n=>n
 |_=>0
def lenX:C->Nat
 |.slb n=>n
 |c=>ax c
def HK:C->Prop
 |.slb _=>True
 |_=>False
def inR (k:IntKind)(n:Int):Prop:=k.min<=n/\n<=k.max
def Cd (op:BinOp)(k:IntKind)(a b:Int):Int:=
 match op with
 |.and=>k.wrap (BitVec.ofInt k.bits a&&& BitVec.ofInt k.bits b).toNat
 |.or=>k.wrap (BitVec.ofInt k.bits a ||| BitVec.ofInt k.bits b).toNat
 |_=>k.wrap (BitVec.ofInt k.bits a ^^^ BitVec.ofInt k.bits b).toNat
def C.isPtr:C->Bool
 |.pp _|.ep _ _ _ _|.ptr _ _=>true
 |_=>false
def binC:BinOp->C->C->C
 |.add,.int k a,.int _ b=>.int k (a+b)
 |.sub,.int k a,.int _ b=>.int k (a-b)
 |.mul,.int k a,.int _ b=>.int k (a * b)
 |.quo,.int k a,.int _ b=>.int k (a.tdiv b)
 |.rem,.int k a,.int _ b=>.int k (a.tmod b)
 |.and,.int k a,.int _ b=>.int k (Cd .and k a b)
 |.or,.int k a,.int _ b=>.int k (Cd .or k a b)
 |.xor,.int k a,.int _ b=>.int k (Cd .xor k a b)
 |.eql,.int _ a,.int _ b=>.bool (decide (a=b))
 |.neq,.int _ a,.int _ b=>.bool (!decide (a=b))
 |.lss,.int _ a,.int _ b=>.bool (decide (a<b))
 |.leq,.int _ a,.int _ b=>.bool (decide (a<=b))
 |.gtr,.int _ a,.int _ b=>.bool (decide (b<a))
 |.geq,.int _ a,.int _ b=>.bool (decide (b<=a))
 |.eql,.bool a,.bool b=>.bool (a == b)
 |.neq,.bool a,.bool b=>.bool (!(a == b))
 |.add,.str a,.str b=>.str (a++b)
 |.eql,.str a,.str b=>.bool (decide (a=b))
 |.neq,.str a,.str b=>.bool (!decide (a=b))
 |.eql,x,.pnil=>.bool (!x.isPtr)
 |.neq,x,.pnil=>.bool x.isPtr
 |_,_,_=>.unk
def binO (tag:Nat):BinOp->C->C->Prop
 |.add,.int k a,.int k' b=>k=k'/\inR k (a+b)
 |.sub,.int k a,.int k' b=>k=k'/\inR k (a-b)
 |.mul,.int k a,.int k' b=>k=k'/\inR k (a * b)
 |.quo,.int k a,.int k' b=>k=k'/\b≠0/\inR k (a.tdiv b)
 |.rem,.int k a,.int k' b=>k=k'/\b≠0
 |.and,.int k _,.int k' _=>k=k'
 |.or,.int k _,.int k' _=>k=k'
 |.xor,.int k _,.int k' _=>k=k'
 |.eql,.int k _,.int k' _=>k=k'
 |.neq,.int k _,.int k' _=>k=k'
 |.lss,.int k _,.int k' _=>k=k'
 |.leq,.int k _,.int k' _=>k=k'
 |.gtr,.int k _,.int k' _=>k=k'
 |.geq,.int k _,.int k' _=>k=k'
 |.eql,.bool _,.bool _=>tag=1
 |.neq,.bool _,.bool _=>tag=1
 |.add,.str a,.str b=>a.length+b.length<=LIM
 |.eql,.str _,.str _=>True
 |.neq,.str _,.str _=>True
 |.eql,x,.pnil=>tag=2/\(x.isPtr=true\/x=.pnil)
 |.neq,x,.pnil=>tag=2/\(x.isPtr=true\/x=.pnil)
 |_,_,_=>False
def BO (H:Heap):C->List C
 |.pp cells=>cells
 |.ptr l k=>match H l with
  |.st cells=>cells.drop k
  |_=>[]
 |.ep s _ i k=>((rowsOf H s).getD i []).drop k
 |_=>[]
def Cc (H:Heap):C->Prop
 |.pp _=>True
 |.ptr l _=>match H l with
  |.st _=>True
  |_=>False
 |.ep s sz i _=>aZ H s/\i<ax s/\s.aN=sz
 |_=>False
def an (cs:List C):Bool:=cs.all λc=>!c.ai
def Db (c:Bool):V->V->V
 |.c (.bool a),.c (.bool b)=>.c (.bool (bif c then a else b))
 |x,y=>if c then x else y
def V.cells:V->List C
 |.c x=>[x]
 |.ag cs=>cs
 |_=>[]
def AD:C->C->Bool
 |.int _ a,.int _ b=>decide (a=b)
 |.str a,.str b=>decide (a=b)
 |.bool a,.bool b=>a == b
 |_,_=>false
def Bu (tag:Nat)(k:C)(es:List (C×V)):Prop:=
 match tag,k with
 |0,.int .i64 _=>∀e∈es,∃n,e.1=.int .i64 n
 |1,.str _=>∀e∈es,∃s,e.1=.str s
 |2,.bool _=>∀e∈es,∃b,e.1=.bool b
 |_,_=>False
def AO (k:C):List (C×V)->Option V
 |[]=>none
 |e::es=>if AD k e.1 then some e.2 else AO k es
def BM (agg:Bool)(cs:List C):V:=if agg then .ag cs else .c (cs.headD .unk)
def AQ (H:Heap):C->List (C×V)
 |.mp l=>match H l with
  |.map _ es=>es
  |_=>[]
 |.cm agg ks rows=>(ks.zip rows).map λe=>(e.1,BM agg e.2)
 |_=>[]
def AY (H:Heap):C->Prop
 |.mp l=>match H l with
  |.map _ _=>True
  |_=>False
 |.mnil=>True
 |.cm _ _ _=>True
 |_=>False
def OM (cells:List C):List (Nat×List C)->List C
 |[]=>cells
 |(o,p)::r=>OM (cells.take o++p++cells.drop (o+p.length)) r
inductive FOp where
 |mv (x:Opd)
 |pick (c a b:Opd)
 |bin (tag:Nat) (op:BinOp) (a b:Opd)
 |not (a:Opd)
 |fad (off:Nat) (a:Opd)
 |iad (sz:Nat) (a i:Opd)
 |ld (n:Nat) (agg:Bool) (a:Opd)
 |nck (a:Opd)
 |len (a:Opd)
 |lenx (a:Opd)
 |lens (a:Opd)
 |lensx (a:Opd)
 |lenm (a:Opd)
 |sli (sz:Nat) (a:Opd) (lo hi:Option Opd)
 |slis (a:Opd) (lo hi:Option Opd)
 |ext (a:Opd) (i:Nat)
 |fld (off n:Nat) (agg:Bool) (a:Opd)
 |idx (a i:Opd)
 |bld (zero:List C) (parts:List (Nat×Nat×Opd))
 |aH (sz:Nat) (parts:List Opd)
 |box (a:Opd)
 |cvt (k:IntKind) (a:Opd)
 |mkf (f:Nat) (caps:List Opd)
 |lup (tag:Nat) (zero:V) (m k:Opd)
 |lup2 (tag:Nat) (zero:V) (m k:Opd)
 |iaa (sz n:Nat) (a i:Opd)
 |asl (n:Nat) (a:Opd)
 |aslp (n:Nat) (a:Opd) (hi:Option Opd)
 |slm (sz:Nat) (a hi:Opd)
 |ldg (n b l:Nat)
 |ldo (b l:Nat)
 |aslg (n b l:Nat)
 |iax (sz n:Nat) (a i:Opd)
 |mx (a b:Opd)
 |mn (a b:Opd)
def Ag:V->Int
 |.c (.int _ n)=>n
 |_=>0
def B8:V->Prop
 |.c (.int k _)=>k=.i64
 |_=>False
def fadC (off:Nat):C->C
 |.pp cells=>.pp (cells.drop off)
 |.ptr l k=>.ptr l (k+off)
 |.ep s sz i k=>.ep s sz i (k+off)
 |_=>.unk
def V.c1:V->C
 |.c x=>x
 |_=>.unk
def V.isC:V->Prop
 |.c _=>True
 |_=>False
def V.isAg:V->Prop
 |.ag _=>True
 |_=>False
def sliC (lo hi:Option Int):C->C
 |.sl fl sz rows=>.sl (fl&&(hi.isNone || rows.isEmpty)) sz ((rows.take (hi.getD rows.length).toNat).drop (lo.getD 0).toNat)
 |.ah l sz st n=>.ah l sz (st+(lo.getD 0).toNat) ((hi.getD n).toNat-(lo.getD 0).toNat)
 |_=>.unk
def FOp.val (e:Env)(H:Heap):FOp->V
 |.mv x=>x.v e
 |.pick c a b=>match c.v e with
  |.c (.bool t)=>Db t (a.v e) (b.v e)
  |_=>.unk
 |.bin _ op a b=>.c (binC op (a.v e).c1 (b.v e).c1)
 |.not a=>match a.v e with
  |.c (.bool t)=>.c (.bool (!t))
  |_=>.unk
 |.fad off a=>.c (fadC off (a.v e).c1)
 |.iad sz a i=>.c (.ep (a.v e).c1 sz (Ag (i.v e)).toNat 0)
 |.ld n agg a=>BM agg ((BO H (a.v e).c1).take n)
 |.nck a=>a.v e
 |.len a=>.c (.int .i64 (ax (a.v e).c1))
 |.lenx a=>.c (.int .i64 (lenX (a.v e).c1))
 |.lens a=>match a.v e with
  |.c (.str s)=>.c (.int .i64 s.length)
  |_=>.unk
 |.lensx a=>match a.v e with
  |.c (.str s)=>.c (.int .i64 s.length)
  |.c (.stb n)=>.c (.int .i64 n)
  |_=>.unk
 |.lenm a=>.c (.int .i64 (AQ H (a.v e).c1).length)
 |.sli _ a lo hi=>.c (sliC (lo.map λx=>Ag (x.v e)) (hi.map λx=>Ag (x.v e)) (a.v e).c1)
 |.slis a lo hi=>match a.v e with
  |.c (.str s)=>.c (.str ((s.take ((hi.map λx=>Ag (x.v e)).getD s.length).toNat).drop ((lo.map λx=>Ag (x.v e)).getD 0).toNat))
  |_=>.unk
 |.ext a i=>match a.v e with
  |.tup vs=>vs.getD i .unk
  |_=>.unk
 |.fld off n agg a=>BM agg (((a.v e).cells.drop off).take n)
 |.idx a i=>match a.v e with
  |.c (.str s)=>.c (.int .u8 ((s.getD (Ag (i.v e)).toNat 0).toNat))
  |_=>.unk
 |.bld zero parts=>.ag (OM zero (parts.map λp=>(p.1,(p.2.2.v e).cells)))
 |.aH sz parts=>.c (.sl true sz (parts.map λx=>(x.v e).cells))
 |.box a=>.c (.pp (a.v e).cells)
 |.cvt k a=>.c (.int k (Ag (a.v e)))
 |.mkf f caps=>.c (.fn f (caps.map λx=>(x.v e).c1))
 |.lup _ zero m k=>(AO (k.v e).c1 (AQ H (m.v e).c1)).getD zero
 |.lup2 _ zero m k=>.tup [(AO (k.v e).c1 (AQ H (m.v e).c1)).getD zero,.c (.bool (AO (k.v e).c1 (AQ H (m.v e).c1)).isSome)]
 |.iaa sz _ a i=>match a.v e with
  |.c (.ptr l k)=>.c (.ptr l (k+(Ag (i.v e)).toNat * sz))
  |_=>.unk
 |.asl n a=>match a.v e with
  |.c (.ptr l k)=>.asl l k n
  |_=>.unk
 |.aslp n a hi=>match a.v e with
  |.c (.pp cells)=>.c (.sl hi.isNone 1 ((cells.take ((hi.map λx=>Ag (x.v e)).getD n).toNat).map λc=>[c]))
  |_=>.unk
 |.slm _ a hi=>match a.v e with
  |.c (.sl _ sz rows)=>.c (.sl true sz (rows.take (Ag (hi.v e)).toNat))
  |_=>.unk
 |.ldg n _ l=>match H l with
  |.gl _ cells=>.ag (cells.take n)
  |_=>.unk
 |.ldo _ l=>match H l with
  |.gl _ cells=>.c (cells.headD .unk)
  |_=>.unk
 |.aslg n _ l=>match H l with
  |.gl _ cells=>.c (.sl true 1 ((cells.take n).map λc=>[c]))
  |_=>.unk
 |.iax sz _ a i=>.ag (((a.v e).cells.drop ((Ag (i.v e)).toNat * sz)).take sz)
 |.mx a b=>.c (.int .i64 (if Ag (b.v e) > Ag (a.v e)then Ag (b.v e)else Ag (a.v e)))
 |.mn a b=>.c (.int .i64 (if Ag (b.v e)<Ag (a.v e)then Ag (b.v e)else Ag (a.v e)))
def Dc:V->Prop
 |.c (.int _ _)=>True
 |_=>False
def optI (x:Option Opd)(e:Env):Prop:=
 match x with
 |none=>True
 |some o=>B8 (o.v e)
def optF (p:Bool)(x:Option Opd)(e:Env):Prop:=
 match x with
 |none=>True
 |some o=>o.fine p e
def bnds (lo hi:Option Int)(n:Nat):Prop:=
 0<=lo.getD 0/\lo.getD 0<=hi.getD n/\hi.getD n<=n
def FOp.obl (p:Bool)(e:Env)(H:Heap):FOp->Prop
 |.mv x=>x.fine p e
 |.pick c a b=>c.fine p e/\match c.v e with
  |.c (.bool t)=>a.fine (p&&t) e/\b.fine (p&&!t) e
  |_=>False
 |.bin tag op a b=>a.fine p e/\b.fine p e/\(a.v e).isC/\(b.v e).isC/\binO tag op (a.v e).c1 (b.v e).c1
 |.not a=>a.fine p e/\match a.v e with
  |.c (.bool _)=>True
  |_=>False
 |.fad _ a=>a.fine p e/\match a.v e with
  |.c (.pp _)=>True
  |.c (.ptr _ _)=>True
  |.c (.ep _ _ _ _)=>True
  |_=>False
 |.iad sz a i=>a.fine p e/\i.fine p e/\(a.v e).isC/\aZ H (a.v e).c1/\(a.v e).c1.aN=sz/\B8 (i.v e)/\
   0<=Ag (i.v e)/\(Ag (i.v e)).toNat<ax (a.v e).c1
 |.ld n _ a=>a.fine p e/\(a.v e).isC/\Cc H (a.v e).c1/\n<=(BO H (a.v e).c1).length/\an ((BO H (a.v e).c1).take n)=true
 |.nck a=>a.fine p e/\match a.v e with
  |.c (.pp _)=>True
  |.c (.ptr _ _)=>True
  |.c (.ep _ _ _ _)=>True
  |.c (.fn _ _)=>True
  |_=>False
 |.len a=>a.fine p e/\(a.v e).isC/\aZ H (a.v e).c1
 |.lenx a=>a.fine p e/\(a.v e).isC/\(aZ H (a.v e).c1\/HK (a.v e).c1)
 |.lens a=>a.fine p e/\match a.v e with
  |.c (.str _)=>True
  |_=>False
 |.lensx a=>a.fine p e/\match a.v e with
  |.c (.str _)=>True
  |.c (.stb _)=>True
  |_=>False
 |.lenm a=>a.fine p e/\(a.v e).isC/\AY H (a.v e).c1
 |.sli sz a lo hi=>a.fine p e/\optF p lo e/\optF p hi e/\optI lo e/\optI hi e/\(a.v e).isC/\aZ H (a.v e).c1/\(a.v e).c1.aN=sz/\
   bnds (lo.map λx=>Ag (x.v e)) (hi.map λx=>Ag (x.v e)) (ax (a.v e).c1)
 |.slis a lo hi=>a.fine p e/\optF p lo e/\optF p hi e/\optI lo e/\optI hi e/\match a.v e with
  |.c (.str s)=>bnds (lo.map λx=>Ag (x.v e)) (hi.map λx=>Ag (x.v e)) s.length
  |_=>False
 |.ext a i=>a.fine p e/\match a.v e with
  |.tup vs=>i<vs.length
  |_=>False
 |.fld off n agg a=>a.fine p e/\(a.v e).isAg/\off+n<=(a.v e).cells.length
 |.idx a i=>a.fine p e/\i.fine p e/\B8 (i.v e)/\match a.v e with
  |.c (.str s)=>0<=Ag (i.v e)/\(Ag (i.v e)).toNat<s.length
  |_=>False
 |.bld zero parts=>∀x∈parts,x.2.2.fine p e/\(x.2.2.v e).cells.length=x.2.1
 |.aH sz parts=>∀x∈parts,x.fine p e/\(x.v e).cells.length=sz
 |.box a=>a.fine p e/\(a.v e).cells≠[]
 |.cvt k a=>a.fine p e/\Dc (a.v e)/\inR k (Ag (a.v e))
 |.mkf f caps=>∀x∈caps,x.fine p e/\(x.v e).isC
 |.lup tag zero m k=>m.fine p e/\k.fine p e/\(m.v e).isC/\(k.v e).isC/\AY H (m.v e).c1/\Bu tag (k.v e).c1 (AQ H (m.v e).c1)
 |.lup2 tag zero m k=>m.fine p e/\k.fine p e/\(m.v e).isC/\(k.v e).isC/\AY H (m.v e).c1/\Bu tag (k.v e).c1 (AQ H (m.v e).c1)
 |.iaa _ n a i=>a.fine p e/\i.fine p e/\B8 (i.v e)/\0<=Ag (i.v e)/\Ag (i.v e)<n/\match a.v e with
  |.c (.ptr _ _)=>True
  |_=>False
 |.asl _ a=>a.fine p e/\match a.v e with
  |.c (.ptr l _)=>(match H l with
   |.st _=>True
   |_=>False)
  |_=>False
 |.aslp n a hi=>a.fine p e/\optF p hi e/\optI hi e/\bnds none (hi.map λx=>Ag (x.v e)) n/\n<=LIM/\match a.v e with
  |.c (.pp cells)=>n<=cells.length
  |_=>False
 |.slm sz a hi=>a.fine p e/\hi.fine p e/\B8 (hi.v e)/\0<=Ag (hi.v e)/\match a.v e with
  |.c (.sl _ z rows)=>z=sz/\Ag (hi.v e)<=rows.length
  |_=>False
 |.ldg n b l=>match H l with
  |.gl b' cells=>b'=b/\n<=cells.length
  |_=>False
 |.ldo b l=>match H l with
  |.gl b' cells=>b'=b/\0<cells.length
  |_=>False
 |.aslg n b l=>match H l with
  |.gl b' cells=>b'=b/\n<=cells.length/\n<=LIM
  |_=>False
 |.iax sz n a i=>a.fine p e/\i.fine p e/\B8 (i.v e)/\0<=Ag (i.v e)/\Ag (i.v e)<n/\(a.v e).isAg/\n * sz<=(a.v e).cells.length
 |.mx a b=>a.fine p e/\b.fine p e/\B8 (a.v e)/\B8 (b.v e)
 |.mn a b=>a.fine p e/\b.fine p e/\B8 (a.v e)/\B8 (b.v e)
def FOp.fct (e:Env)(H:Heap):FOp->Prop
 |.len a=>ax (a.v e).c1<=LIM
 |.lenx a=>lenX (a.v e).c1<2 ^ 63
 |.lens a=>match a.v e with
  |.c (.str s)=>s.length<=LIM
  |_=>True
 |.lensx a=>match a.v e with
  |.c (.str s)=>s.length<=LIM
  |.c (.stb n)=>n<2 ^ 63
  |_=>True
 |.lenm a=>(AQ H (a.v e).c1).length<=LIM
 |_=>True
def fnOk (P:Program)(f:FuncId):Bool:=
 match P.funcs[f]? with
 | some fn => fn.body.isSome && fn.name != "runtime.NumGoroutine"
 |none=>false
def Qv (P:Program)(f:FuncId)(args:List V)(H:Heap)(K:V->Heap->Prop):Prop:=
 fnOk P f=true/\∀(g:G) (w:World) (vs:List Value),Sat H g w->vs.length=args.length->
  (∀(j:Nat) (x:V) (u:Value),args[j]? = some x->vs[j]? = some u->RepV w g x u)->
  Calls P f vs.toArray w λe w'=>(∃v x H' g',e=.returned v/\K x H'/\Stp H g w H' g' w'/\RepV w' g' x v)\/
   (∃v H' g',e=.panicked [{ v:=v,recovered:=false }]/\K (.pn v) H'/\Stp H g w H' g' w')
def Dg (P:Program)(f:FuncId)(args:List V)(r:V):Prop:=(∀v,r≠.pn v)/\∀H K,K r H->Qv P f args H K
inductive EOp where
 |alloc (cells:List C)
 |boxm (a:Opd)
 |sto (n:Nat) (a v:Opd)
 |app (sz:Nat) (a b:Opd)
 |mks (sz:Nat) (zero:List C) (n:Opd)
 |mkm
 |upd (tag:Nat) (m k v:Opd)
 |del (tag:Nat) (m k:Opd)
 |clrm (m:Opd)
 |clrs (sz:Nat) (zero:List C) (m:Opd)
 |call (f:Nat) (args:List Opd)
 |bB (f:Opd) (args:List Opd)
 |rng (m:Opd)
 |nxt (it:Opd)
 |ent (it:Opd)
 |nilq (a:Opd)
 |rngs (a:Opd)
 |nxts (it:Opd)
 |bslm (sz:Nat) (parts:List Opd)
 |cpy (sz:Nat) (a b:Opd)
def CJ (row:List C)(k:Nat)(vs:List C):List C:=row.take k++vs++row.drop (k+vs.length)
def BH (H:Heap)(p:C)(vs:List C)(K:V->Heap->Prop):Prop:=
 match p with
 |.ptr l k=>match H l with
  |.st cells=>k+vs.length<=cells.length/\K .unk (H.set l (.st (CJ cells k vs)))
  |_=>False
 |.ep (.ah l sz st n) z i k=>match H l with
  |.vec y rows=>y=sz/\z=sz/\i<n/\st+n<=rows.length/\k+vs.length<=sz/\
    K .unk (H.set l (.vec sz (rows.set (st+i) (CJ (rows.getD (st+i) []) k vs))))
  |_=>False
 |_=>False
def appT (H:Heap)(sz:Nat)(a b:C)(K:V->Heap->Prop):Prop:=
 aZ H b/\b.aN=sz/\match a with
 |.sl true z rows=>z=sz/\(rows=[]\/rowsOf H b≠[])/\(∀r∈rows++rowsOf H b,an r=true)/\rows.length+ax b<=LIM/\
   ∀l,H l=.none->K (.c (.ah l sz 0 (rows.length+ax b))) (H.set l (.vec sz (rows++rowsOf H b)))
 |.ah l z st n=>match H l with
  |.vec y rows=>z=sz/\y=sz/\st+n<=rows.length/\(∀r∈rowsOf H b,an r=true)/\n+ax b<=LIM/\
    ∀l',(H.set l .none) l'=.none->
     K (.c (.ah l' sz 0 (n+ax b))) ((H.set l .none).set l' (.vec sz ((rows.drop st).take n++rowsOf H b)))
  |_=>False
 |_=>False
def updE (k:C)(v:V):List (C×V)->List (C×V)
 |[]=>[(k,v)]
 |e::es=>if AD k e.1 then (k,v)::es else e::updE k v es
def delE (k:C):List (C×V)->List (C×V)
 |[]=>[]
 |e::es=>if AD k e.1 then es else e::delE k es
def updT (H:Heap)(tag:Nat)(m k:C)(v:V)(K:V->Heap->Prop):Prop:=
 match m with
 |.mp l=>match H l with
  |.map n es=>Bu tag k es/\es.length+1<=LIM/\K .unk (H.set l (.map (n+1) (updE k v es)))
  |_=>False
 |_=>False
def delT (H:Heap)(tag:Nat)(m k:C)(K:V->Heap->Prop):Prop:=
 match m with
 |.mp l=>match H l with
  |.map n es=>Bu tag k es/\K .unk (H.set l (.map (n+1) (delE k es)))
  |_=>False
 |.mnil=>Bu tag k []/\K .unk H
 |_=>False
def cpyT (H:Heap)(sz:Nat)(a b:C)(K:V->Heap->Prop):Prop:=
 aZ H b/\b.aN=sz/\match a with
 |.ah l z st n=>match H l with
  |.vec y rows=>z=sz/\y=sz/\st+n<=rows.length/\ax b<=n/\(∀r∈rowsOf H b,an r=true)/\
    K (.c (.int .i64 (ax b))) (H.set l (.vec sz (rows.take st++rowsOf H b++rows.drop (st+ax b))))
  |_=>False
 |_=>False
def EOp.eff (P:Program)(p:Bool)(e:Env)(H:Heap)(K:V->Heap->Prop):EOp->Prop
 |.alloc cells=>∀l,H l=.none->K (.c (.ptr l 0)) (H.set l (.st cells))
 |.boxm a=>a.fine p e/\(a.v e).cells≠[]/\∀l,H l=.none->K (.c (.ptr l 0)) (H.set l (.st (a.v e).cells))
 |.sto n a v=>a.fine p e/\v.fine p e/\(a.v e).isC/\(v.v e).cells.length=n/\0<n/\BH H (a.v e).c1 (v.v e).cells K
 |.app sz a b=>a.fine p e/\b.fine p e/\(a.v e).isC/\(b.v e).isC/\appT H sz (a.v e).c1 (b.v e).c1 K
 |.mks sz zero n=>n.fine p e/\B8 (n.v e)/\0<=Ag (n.v e)/\Ag (n.v e)<=LIM/\
   ∀l,H l=.none->K (.c (.ah l sz 0 (Ag (n.v e)).toNat)) (H.set l (.vec sz (List.replicate (Ag (n.v e)).toNat zero)))
 |.mkm=>∀l,H l=.none->K (.c (.mp l)) (H.set l (.map 0 []))
 |.upd tag m k v=>m.fine p e/\k.fine p e/\v.fine p e/\(m.v e).isC/\(k.v e).isC/\(v.v e).cells≠[]/\updT H tag (m.v e).c1 (k.v e).c1 (v.v e) K
 |.del tag m k=>m.fine p e/\k.fine p e/\(m.v e).isC/\(k.v e).isC/\delT H tag (m.v e).c1 (k.v e).c1 K
 |.clrm m=>m.fine p e/\match m.v e with
  |.c (.mp l)=>match H l with
   |.map n _=>K .unk (H.set l (.map (n+1) []))
   |_=>False
  |_=>False
 |.clrs sz zero m=>m.fine p e/\match m.v e with
  |.c (.ah l z st n)=>z=sz/\match H l with
   |.vec y rows=>y=sz/\st+n<=rows.length/\K .unk (H.set l (.vec sz (rows.take st++List.replicate n zero++rows.drop (st+n))))
   |_=>False
  |_=>False
 |.call f args=>(∀x∈args,x.fine p e)/\Qv P f (args.map λx=>x.v e) H K
 |.bB f args=>f.fine p e/\(∀x∈args,x.fine p e)/\match f.v e with
  |.c (.fn n caps)=>Qv P n ((args.map λx=>x.v e)++caps.map .c) H K
  |_=>False
 |.rng m=>m.fine p e/\match m.v e with
  |.c (.mp l)=>match H l with
   |.map n es=>es.Nodup/\∀i,H i=.none->K (.c (.itr i)) (H.set i (.iter (some (l,n)) es none))
   |_=>False
  |.c .mnil=>∀i,H i=.none->K (.c (.itr i)) (H.set i (.iter none [] none))
  |_=>False
 |.nxt it=>it.fine p e/\match it.v e with
  |.c (.itr i)=>match H i with
   |.iter none left _=>K (.tup [.c (.bool false)]) H
   |.iter (some (l,n)) left cur=>(∃es,H l=.map n es)/\(left=[]->K (.tup [.c (.bool false)]) H)/\
     ∀x left',x∈left->(∀y,y∈left'↔y∈left/\y≠x)->left'.Nodup->left'.length+1=left.length->
      K (.tup [.c (.bool true),.c x.1,x.2]) (H.set i (.iter (some (l,n)) left' (some x)))
   |_=>False
  |_=>False
 |.ent it=>it.fine p e/\match it.v e with
  |.c (.itr i)=>match H i with
   |.iter (some (l,n)) left (some x)=>(∃es,H l=.map n es)/\K (.tup [.c x.1,x.2]) H
   |_=>False
  |_=>False
 |.rngs a=>a.fine p e/\match a.v e with
  |.c (.str s)=>∀i,H i=.none->K (.c (.itr i)) (H.set i (.sit s 0))
  |_=>False
 |.nxts it=>it.fine p e/\match it.v e with
  |.c (.itr i)=>match H i with
   |.sit s q=>(s.length<=q->K (.tup [.c (.bool false)]) H)/\
     ∀(c:Int) (wd:Nat),q<s.length->1<=wd->((s.getD q 0).toNat<128->c=((s.getD q 0).toNat:Int)/\wd=1)->(128<=(s.getD q 0).toNat->128<=c)->
      K (.tup [.c (.bool true),.c (.int .i64 q),.c (.int .i32 c)]) (H.set i (.sit s (q+wd)))
   |_=>False
  |_=>False
 |.nilq a=>a.fine p e/\match a.v e with
  |.c (.sl _ _ rows)=>∀b:Bool,(b=true->rows=[])->K (.c (.bool b)) H
  |_=>False
 |.cpy sz a b=>a.fine p e/\b.fine p e/\(a.v e).isC/\(b.v e).isC/\cpyT H sz (a.v e).c1 (b.v e).c1 K
 |.bslm sz parts=>(∀x∈parts,x.fine p e/\(x.v e).cells.length=sz)/\∀l,H l=.none->K (.c (.ah l sz 0 parts.length)) (H.set l (.vec sz (parts.map λx=>(x.v e).cells)))
inductive Item where
 |f (dst:Option Nat) (g:Option (Nat×Bool)) (op:FOp)
 |p (dst:Option Nat) (g:Option (Nat×Bool)) (f:Nat) (args:List Opd)
 |e (dst:Option Nat) (g:Option (Nat×Bool)) (op:EOp)
 |chk (dst:Nat) (g:Option (Nat×Bool)) (op:FOp)
def putE (d:Option Nat)(v:V)(e:Env):Env:=
 match d with
 |some t=>(t,v)::e
 |none=>e
def gdB (e:Env):Option (Nat×Bool)->Bool
 |none=>true
 |some (t,w)=>match lk t e with
  |.c (.bool b)=>b == w
  |.gd q (.c (.bool b))=>q&&(b == w)
  |_=>false
def gdO (e:Env):Option (Nat×Bool)->Prop
 |none=>True
 |some (t,_)=>match lk t e with
  |.c (.bool _)=>True
  |.gd _ (.c (.bool _))=>True
  |.gd q _=>q=false
  |_=>False
def gdV (g:Option (Nat×Bool))(p:Bool)(v:V):V:=
 match g with
 |none=>v
 |some _=>.gd p v
def B4 (KP:Value->Heap->Prop)(K:V->Heap->Prop):V->Heap->Prop
 |.pn v,H=>KP v H
 |v,H=>K v H
def regT (P:Program):List Item->Env->Heap->(Value->Heap->Prop)->(Env->Heap->Prop)->Prop
 |[],e,H,KP,K=>K e H
 |.f d g op::r,e,H,KP,K=>gdO e g/\(gdB e g=true->op.obl (gdB e g) e H)/\
   ((gdB e g=true->op.fct e H)->regT P r (putE d (gdV g (gdB e g) (op.val e H)) e) H KP K)
 |.p d g f args::r,e,H,KP,K=>gdO e g/\∃v,(gdB e g=true->(∀x∈args,x.fine (gdB e g) e)/\Dg P f (args.map λx=>x.v e) v)/\
   regT P r (putE d (gdV g (gdB e g) v) e) H KP K
 |.e d g op::r,e,H,KP,K=>gdO e g/\
   (gdB e g=true->op.eff P (gdB e g) e H (B4 KP λv H'=>regT P r (putE d v e) H' KP K))/\
   (gdB e g=false->regT P r (putE d .unk e) H KP K)
 |.chk _ _ _::_,_,_,_,_=>False
def Bn (P:Program):List Item->Env->Heap->(Value->Heap->Prop)->(Env->Heap->Prop)->Prop
 |[],e,H,KP,K=>K e H
 |.f d g op::r,e,H,KP,K=>gdO e g/\(gdB e g=true->op.obl (gdB e g) e H)/\Bn P r (putE d (gdV g (gdB e g) (op.val e H)) e) H KP K
 |.p d g f args::r,e,H,KP,K=>gdO e g/\∃v,(gdB e g=true->(∀x∈args,x.fine (gdB e g) e)/\Dg P f (args.map λx=>x.v e) v)/\
   Bn P r (putE d (gdV g (gdB e g) v) e) H KP K
 |.e d g op::r,e,H,KP,K=>gdO e g/\
   (gdB e g=true->op.eff P (gdB e g) e H (B4 KP λv H'=>Bn P r (putE d v e) H' KP K))/\
   (gdB e g=false->Bn P r (putE d .unk e) H KP K)
 |.chk d g op::r,e,H,KP,K=>(gdO e g/\(gdB e g=true->op.obl (gdB e g) e H)/\lk d e=gdV g (gdB e g) (op.val e H))/\Bn P r e H KP K
def trim (ks:List Nat)(e:Env):Env:=ks.map λt=>(t,lk t e)
def E3 (e:Env)(H:Heap)(e':Env)(H':Heap):Prop:=
 ∀(g:G) (w:World) (tmps:Nat->Value),Sat H g w->(∀t,RepV w g (lk t e) (tmps t))->
  ∃g',Stp H g w H' g' w/\∀t,RepV w g' (lk t e') (tmps t)
inductive SC where
 |skip
 |reg (its:List Item) (keep:List Nat)
 |a7 (fa:Nat) (ord:List Nat) (its:List Item) (keep:List Nat)
 |seq (a b:SC)
 |cond (t:Opd) (a b:SC)
 |block (id:Nat) (a:SC)
 |loop (a:SC)
 |exit (id:Nat)
 |ret
 |gh
 |scope (a:SC)
inductive X where
 |nrm
 |exit (id:Nat)
 |ret
 |pan (v:Value)
def X.panK (Q:X->Env->Heap->Prop)(v:Value)(H:Heap):Prop:=Q (.pan v) [] H
def X.next (K:Env->Heap->Prop)(Q:X->Env->Heap->Prop):X->Env->Heap->Prop
 |.nrm,e,H=>K e H
 |x,e,H=>Q x e H
def X.inBlock (id:Nat)(Q:X->Env->Heap->Prop):X->Env->Heap->Prop
 |.exit i,e,H=>if i=id then Q .nrm e H else Q (.exit i) e H
 |x,e,H=>Q x e H
def Ad (P:Program):SC->(X->Env->Heap->Prop)->Env->Heap->Prop
 |.skip,Q,e,H=>Q .nrm e H
 |.reg its keep,Q,e,H=>regT P its e H (X.panK Q) λe' H'=>Q .nrm (trim keep e') H'
 |.a7 _ _ its keep,Q,e,H=>Bn P its e H (X.panK Q) λe' H'=>Q .nrm (trim keep e') H'
 |.seq a b,Q,e,H=>Ad P a (X.next (Ad P b Q) Q) e H
 |.cond t a b,Q,e,H=>∃c,t.raw e=.c (.bool c)/\(c=true->Ad P a Q e H)/\(c=false->Ad P b Q e H)
 |.block id a,Q,e,H=>Ad P a (X.inBlock id Q) e H
 |.loop a,Q,e,H=>∃(I:Nat->Env->Heap->Prop),(∃n,I n e H)/\
   ∀n e1 H1,I n e1 H1->Ad P a (X.next (λe2 H2=>∃m,m<n/\I m e2 H2) Q) e1 H1
 |.exit id,Q,e,H=>Q (.exit id) e H
 |.ret,Q,e,H=>Q .ret e H
 |.gh,Q,e,H=>∃e' H',E3 e H e' H'/\Q .nrm e' H'
 |.scope a,Q,e,H=>Ad P a Q e H
inductive RS where
 |tmp (t:Nat)
 |cell (t n:Nat) (agg:Bool)
def RS.op:RS->FOp
 |.tmp t=>.mv (.t t)
 |.cell t n agg=>.ld n agg (.t t)
def Aa (rs:List RS)(e:Env)(H:Heap)(K:V->Heap->Prop):Prop:=
 (∀r∈rs,r.op.obl true e H)/\K (match rs with
  |[r]=>r.op.val e H
  |_=>.tup (rs.map λr=>r.op.val e H)) H
def zipE (i:Nat):List V->Env
 |[]=>[]
 |v::r=>(i,v)::zipE (i+1) r
variable {P:Program}
theorem GU {t:TypeId}{i:TypeInfo}(h:P.info? t=some i)(w:World):(typeInfo t).run P w=.ok i w:=by
 simp[typeInfo,h]
theorem Bh {t:TypeId}{i:TypeInfo}(h:P.info? t=some i)(w:World):(sizeOf t).run P w=.ok i.size w:=by
 simp[sizeOf,GU h]
theorem Ao {t:TypeId}{d:TypeDesc}(h:P.underlying t=some d)(w:World):(underlying t).run P w=.ok d w:=by
 simp[underlying,h]
theorem Qazm {t:TypeId}{i:TypeInfo}(h:P.info? t=some i):P.cellsOf t=i.size:=by simp[Program.cellsOf,h]
def BD:TypeDesc->Bool
 |.struct _|.array _ _=>true
 |_=>false
theorem D1 {t:TypeId}{d:TypeDesc}(h:P.underlying t=some d)(w:World):(isAgg t).run P w=.ok (BD d) w:=by
 cases d <;> simp[isAgg,Ao h,BD]
theorem BT (b o j:Nat):(⟨b,o,none⟩:Addr).add j=⟨b,o+j,none⟩:=by
 unfold Addr.add;split
 ·subst_vars;rfl
 ·rfl
theorem Fh {t:TypeId}{d:TypeDesc}{i:TypeInfo}(hd:P.underlying t=some d)(hi:P.info? t=some i)(w:World)(b o n:Nat)(f:Nat->Value)
  (hn:BD d=true->i.size=n) (h1:BD d=false->n=1) (hc:∀j,j<n->w.cell? ⟨b,o+j,none⟩=some (f j)) :
  (loadVar t ⟨b,o,none⟩).run P w=.ok (if BD d then .agg ((List.range n).map f).toArray else f 0) w:=by
 unfold loadVar;simp only[Sem.run_bind,D1 hd,Result.andThen_ok]
 cases ha:BD d with
 |true=>
  simp only[Sem.run_bind,Bh hi,Result.andThen_ok,if_true,hn ha];rw[run_loadCells w _ n f (λj hj=>by rw[BT];exact hc j hj)];simp
 |false=>
  have h0:=hc 0 (by have:=h1 ha;omega);simp only[Jz]at h0;simp[h0]
def getV (w:World)(b o:Nat)(j:Nat):Value:=(w.cell? ⟨b,o+j,none⟩).getD undef
theorem RepC.an {w:World}{g:G}{c:C}{v:Value}(h:RepC w g c v):c.ai=false:=by cases h <;> rfl
theorem DX {w:World}{b o:Nat}{cs:Array Value}{T:TypeId}(h:w.heap[b]? = some (.cells cs T (0,0))):w.cell? ⟨b,o,none⟩=cs[o]?:=by
 simp[World.cell?,h]
theorem RepO.toC {w:World}{g:G}{l:Nat}{p:List Nat}{c:C}{v:Value}(h:RepO w g l p c v)(hn:c.ai=false):RepC w g c v:=
 h.plain_of (λsz rows e=>by subst e;simp[C.ai]at hn)
theorem Ga {H:Heap}{g:G}{w:World}(hs:Sat H g w){s:C}{v:Value}(h:RepC w g s v)(ho:aZ H s) :
  ∃a cap,v=.slice a (ax s) cap/\ax s<=LIM/\(rowsOf H s).length=ax s/\
   (∀(i:Nat) (row:List C),(rowsOf H s)[i]? = some row->row.length=s.aN)/\
   (ax s≠0->∃b off,a=some ⟨b,off,none⟩/\∀(i:Nat) (row:List C) (j:Nat) (c:C),(rowsOf H s)[i]? = some row->row[j]? = some c->c.ai=false->
    ∃u,w.cell? ⟨b,off+i * s.aN+j,none⟩=some u/\RepC w g c u):=by
 cases h with
 |ca fl sz a=>exact⟨a,0,rfl,by simp[ax,LIM],rfl,by simp[rowsOf],by simp[ax]⟩
 |sl fl sz rows b off cap val hl hf eL hp hr hc hv=>
  refine⟨some ⟨b,off,none⟩,cap,rfl,hl,rfl,hr,λ_=>⟨b,off,rfl,λi row j c h1 h2 _=>⟨_,hc i row j c h1 h2,hv i row j c h1 h2⟩⟩⟩
 |bZ l sz st a=>
  simp only[aZ]at ho;refine⟨a,0,rfl,by simp[ax,LIM],?_,?_,by simp[ax]⟩
  ·simp only[rowsOf,ax];split <;> simp
  ·intro i row h1;simp only[rowsOf]at h1;split at h1 <;> simp at h1
 |ah l sz st n cap b base T m cg hn gN hm=>
  simp only[aZ]at ho;split at ho
  ·rename_i z rows hH
   obtain⟨rfl,aR⟩:=ho;have aX:=hs.objs l;rw[hH]at aX;obtain⟨b',base',T',cs,val,h1,h2,h3,h4,h5,h6,h7,h8⟩:=SatVec.of aX cg;rw[cg]at h1;simp only[Jc,Jk,true_and]at h1;obtain⟨rfl,rfl⟩:=h1;have a8:∀i row,(rowsOf H (.ah l z st n))[i]? = some row->i<n/\rows[st+i]? = some row:=by
    intro i row hi;simp only[rowsOf,hH,Jo,Jt]at hi;split at hi
    ·rename_i ae;exact⟨ae,hi⟩
    ·simp at hi
   refine⟨_,cap,rfl,by simp only[ax];omega,?_,?_,λ_=>⟨b,base+st * z,rfl,?_⟩⟩
   ·simp only[rowsOf,hH,ax,List.length_take,List.length_drop];omega
   ·intro i row hi;exact h6 _ _ (a8 i row hi).2
   ·intro i row j c hi hj ho;obtain⟨wm,kX⟩:=a8 i row hi;have e1:=h7 _ _ _ _ kX hj;refine⟨val (st+i) j,?_,(h8 _ _ _ _ kX hj).toC ho⟩;rw[DX h3,<-e1];simp only[C.aN];congr 1;rw[Jm];omega
  ·exact ho.elim
 |_=>simp[aZ]at ho
theorem KV {H:Heap}{g:G}{w:World}(hs:Sat H g w){x:C}{v:Value}(h:RepC w g x v)(ho:Cc H x) :
  ∃b o,v=.pointer (some ⟨b,o,none⟩)/\∀(j:Nat) (c:C),(BO H x)[j]? = some c->c.ai=false->∃u,w.cell? ⟨b,o+j,none⟩=some u/\RepC w g c u:=by
 cases h with
 |pp cells b off val hp hc hv=>exact⟨b,off,rfl,λj c h1 _=>⟨_,hc j c h1,hv j c h1⟩⟩
 |ptr l k b sz base cg=>
  simp only[Cc]at ho;split at ho
  ·rename_i cells hH
   have aX:=hs.objs l;rw[hH]at aX;obtain⟨b',sz',T,cs,h1,h2,h3,h4,h5⟩:=aX;rw[cg]at h1;simp only[Jc,Jk]at h1;obtain⟨rfl,rfl,rfl⟩:=h1;refine⟨b,0+k,rfl,λj c hj hw=>?_⟩;simp only[BO,hH,Jt]at hj;have ae:k+j<cs.size:=by
    rw[h4];rcases Jg (k+j) cells.length with h|h
    ·exact h
    ·rw[Jf h]at hj;simp at hj
   have hv:cs[k+j]? = some cs[k+j]:=Jb ae;exact⟨cs[k+j],by rw[DX h3,show 0+k+j=k+j by omega];exact hv,(h5 _ _ _ hj hv).toC hw⟩
  ·exact ho.elim
 |ep s sz i k b off n cap eA hz hi=>
  simp only[Cc]at ho;obtain⟨ho1,jN,ho3⟩:=ho;obtain⟨a,cap',hv,h1,h2,h3,h4⟩:=Ga hs eA ho1;simp only[Value.slice.injEq]at hv;obtain⟨rfl,rfl,rfl⟩:=hv;obtain⟨b',off',hb,h5⟩:=h4 ZD;simp only[Jc,Addr.mk.injEq,and_true]at hb;obtain⟨rfl,rfl⟩:=hb;refine⟨b,off+i * sz+k,rfl,λj c hj hw=>?_⟩;simp only[BO,Jt]at hj;have a8:(rowsOf H s)[i]? = some ((rowsOf H s).getD i []):=by
   rw[J0,Jd ZD];rfl
  obtain⟨u,e1,e2⟩:=h5 i _ (k+j) c a8 hj hw;refine⟨u,?_,e2⟩;rw[hz]at e1;rw[<-e1];congr 2;omega
 |_=>simp[Cc]at ho
def mK:V->Value->Bool
 |.c (.int k n),.int k' n'=>k == k'&&n == n'
 |.c (.bool b),.bool b'=>b == b'
 |.c (.str s),.string b=>decide (s=b.data.toList)&&decide (s.length<=1000000)
 |.c (.sl _ _ []),.slice none 0 0=>true
 |.c .pnil,.pointer none=>true
 |.c .mnil,.map none=>true
 |.c .fnil,.nilFunc=>true
 |_,_=>false
def mO:Opd->Operand->Bool
 |.t n,.tmp m=>n == m
 |.k v,.const c=>mK v c
 |.k (.c (.fn f [])),.func f'=>f == f'
 |_,_=>false
theorem VK {w:World}{g:G}{v:V}{u:Value}(h:mK v u=true):RepV w g v u:=by
 unfold mK at h;split at h
 ·simp at h;obtain⟨rfl,rfl⟩:=h;exact .c _ _ (.int _ _)
 ·simp at h;subst h;exact .c _ _ (.bool _)
 ·rename_i s b
  simp only[Ja,decide_eq_true_eq]at h;obtain⟨rfl,h2⟩:=h;have hb:b=⟨b.data.toList.toArray⟩:=by cases b;rfl
  have:=RepC.str (w:=w) (g:=g) b.data.toList (by unfold LIM;omega);rw[<-hb]at this;exact .c _ _ this
 ·exact .c _ _ (.ca _ _ _)
 ·exact .c _ _ .pnil
 ·exact .c _ _ .mnil
 ·exact .c _ _ .fnil
 ·simp at h
theorem HR {w:World}{g:G}{e:Env}{a:Act}(he:∀t,RepV w g (lk t e) (a.tmps.getD t undef)){x:Opd}{y:Operand}(h:mO x y=true) :
  RepV w g (x.raw e) (a.eval y):=by
 unfold mO at h;split at h
 ·simp at h;subst h;exact he _
 ·exact VK h
 ·simp at h;subst h;exact .c _ _ (.fn _ [] [] rfl (by intro j c u h1;simp at h1))
 ·simp at h
theorem An {w:World}{g:G}{e:Env}{a:Act}(he:∀t,RepV w g (lk t e) (a.tmps.getD t undef)){x:Opd}{y:Operand}(h:mO x y=true)
  {p:Bool} (hp:p=true) (hf:x.fine p e):RepV w g (x.v e) (a.eval y):=by
 have hr:=HR he h;unfold Opd.v Opd.fine at *
 cases hx:x.raw e with
 |gd q v=>
  rw[hx]at hr hf;simp only[V.fine]at hf
  cases hr with
  |gd _ _ _ hv _=>exact hv (hf hp)
 |_=>rw[hx]at hr;exact hr
theorem RepV.aK {w:World}{g:G}{x:C}{v:Value}(h:RepV w g (.c x) v):RepC w g x v:=by cases h;assumption
theorem RepC.aG {w:World}{g:G}{k:IntKind}{n:Int}{v:Value}(h:RepC w g (.int k n) v):v=.int k n:=by cases h;rfl
theorem RepC.bx {w:World}{g:G}{b:Bool}{v:Value}(h:RepC w g (.bool b) v):v=.bool b:=by cases h;rfl
theorem RepC.str_inv {w:World}{g:G}{s:List UInt8}{v:Value}(h:RepC w g (.str s) v):v=.string ⟨s.toArray⟩/\s.length<=LIM:=by cases h;exact⟨rfl,by assumption⟩
theorem RepC.pnil_inv {w:World}{g:G}{v:Value}(h:RepC w g .pnil v):v=.pointer none:=by cases h;rfl
theorem RepC.ptr_inv {w:World}{g:G}{x:C}{v:Value}(h:RepC w g x v)(hx:x.isPtr=true):∃b o,v=.pointer (some ⟨b,o,none⟩):=by
 cases h <;> simp[C.isPtr]at hx <;> exact⟨_,_,rfl⟩
theorem RepC.fn_inv {w:World}{g:G}{f:Nat}{caps:List C}{v:Value}(h:RepC w g (.fn f caps) v) :
  ∃vs:List Value,v=.func (.func f) #[] vs.toArray/\vs.length=caps.length/\∀(j:Nat) (c:C) (u:Value),caps[j]? = some c->vs[j]? = some u->RepC w g c u:=by
 cases h with
 |fn f caps vs hl hv=>exact⟨vs,rfl,hl,hv⟩
theorem RepV.tup_inv {w:World}{g:G}{xs:List V}{v:Value}(h:RepV w g (.tup xs) v) :
  ∃vs:List Value,v=.tuple vs.toArray/\vs.length=xs.length/\∀(j:Nat) (x:V) (u:Value),xs[j]? = some x->vs[j]? = some u->RepV w g x u:=by
 cases h with
 |tup xs vs hl hv=>exact⟨vs,rfl,hl,hv⟩
theorem RepV.ag_inv {w:World}{g:G}{cs:List C}{v:Value}(h:RepV w g (.ag cs) v) :
  ∃vs:List Value,v=.agg vs.toArray/\vs.length=cs.length/\∀(j:Nat) (x:C) (u:Value),cs[j]? = some x->vs[j]? = some u->RepC w g x u:=by
 cases h with
 |ag cs vs hl hv=>exact⟨vs,rfl,hl,hv⟩
theorem Bo {v:V}(h:v.isC):v=.c v.c1:=by cases v <;> simp_all[V.isC,V.c1]
end Go.AE
namespace Go.AE
variable {P:Program}{H:Heap}{g:G}{w:World}{e:Env}{a:Act}{o:Oper}{p:Bool}
def FOk (P:Program)(H:Heap)(g:G)(w:World)(e:Env)(a:Act)(o:Oper)(op:FOp):Prop:=
 ∃v w' g',(execOp a.eval o).run P w=.ok (.value v) w'/\Stp H g w H g' w'/\RepV w' g' (op.val e H) v/\op.fct e H
abbrev EnvOk (w:World)(g:G)(e:Env)(a:Act):Prop:=∀t,RepV w g (lk t e) (a.tmps.getD t undef)
theorem FOk.mk' {op:FOp}(hs:Sat H g w){v:Value}(h1:(execOp a.eval o).run P w=.ok (.value v) w)(h2:RepV w g (op.val e H) v)(h3:op.fct e H) :
  FOk P H g w e a o op:=⟨v,w,g,h1,.refl hs,h2,h3⟩
def mTag (P:Program)(tag:Nat)(t:TypeId):Bool:=
 match tag with
 |1=>(match P.underlying t with|some .bool=>true|_=>false)
 |2=>(match P.underlying t with|some (.pointer _)=>true|_=>false)
 |_=>true
theorem s_mv {x:Opd}{y:Operand}(hm:o.op=.move y\/o.op=.assign y)(hx:mO x y=true)(hs:Sat H g w)(he:EnvOk w g e a)(hp:p=true)
  (ho:(FOp.mv x).obl p e H):FOk P H g w e a o (.mv x):=by
 refine .mk' hs (v:=a.eval y) ?_ (An he hx hp ho) trivial;rcases hm with hm|hm <;> simp[execOp,hm]
theorem TY {c x y:Opd}{c' x' y':Operand}(hm:o.op=.pick c' x' y')(hc:mO c c'=true)(hx:mO x x'=true)(hy:mO y y'=true)
  (hs:Sat H g w) (he:EnvOk w g e a) (hp:p=true) (ho:(FOp.pick c x y).obl p e H):FOk P H g w e a o (.pick c x y):=by
 simp only[FOp.obl]at ho;obtain⟨h1,h2⟩:=ho;have hr:=An he hc hp h1
 cases hv:c.v e with
 |c z=>
  cases z with
  |bool t=>
   rw[hv]at hr h2;simp only at h2;have hb:a.eval c'=.bool t:=hr.aK.bx;refine .mk' hs (v:=if t then a.eval x' else a.eval y') (by simp[execOp,hm,hb,asBool]) ?_ trivial;simp only[FOp.val,hv];have gen:∀(u v:V) (s r:Value),(t=true->RepV w g u s)->(t=false->RepV w g v r)->RepV w g (Db t u v) (if t then s else r):=by
    intro u v s r hu hv;unfold Db;split
    ·cases t
     ·simpa using hv rfl
     ·simpa using hu rfl
    ·cases t
     ·simpa using hv rfl
     ·simpa using hu rfl
   refine gen _ _ _ _ (λht=>?_) (λht=>?_)
   ·exact An he hx (p:=p&&t) (by simp[hp,ht]) h2.1
   ·exact An he hy (p:=p&&!t) (by simp[hp,ht]) h2.2
  |_=>rw[hv]at h2;exact h2.elim
 |_=>rw[hv]at h2;exact h2.elim
theorem G7 {k:IntKind}{n:Int}(h:inR k n):k.wrap n=n:=by
 unfold inR at h;cases k <;> simp[IntKind.min,IntKind.max,IntKind.signed,IntKind.bits]at h <;> simp[IntKind.wrap,IntKind.signed,IntKind.bits] <;> omega
theorem Ob (s:List UInt8):(⟨s.toArray⟩:ByteArray).toList=s:=by
 rw[ByteArray.toList_eq]
theorem Dv (s:List UInt8):(⟨s.toArray⟩:ByteArray).size=s.length:=by simp[ByteArray.size]
theorem Cp:LIM=549755813888:=rfl
theorem AJ (op:BinOp)(t:TypeId)(x y:Operand)(u v:Value)(h:∀cs ds,¬(u=.agg cs/\v=.agg ds))(h':¬(u=.nilIface/\v=.nilIface))(w:World) :
  (eqGuard op t x y u v).run P w=.ok () w:=by
 unfold eqGuard;cases op <;> simp <;> (cases u <;> cases v <;> simp_all)
theorem Qazs {t:TypeId}(h:P.underlying t=some .bool)(d:Nat)(x y:Bool)(w:World):(Op.equalIn (d+1) t (.bool x) (.bool y)).run P w=.ok (x == y) w:=by
 simp[Op.equalIn,Ao h]
theorem Qa8g {t pe:TypeId}(h:P.underlying t=some (.pointer pe))(d:Nat)(x:Addr)(w:World):(Op.equalIn (d+1) t (.pointer (some x)) (.pointer none)).run P w=.ok false w:=by
 simp[Op.equalIn,Ao h]
theorem Qa8f {t pe:TypeId}(h:P.underlying t=some (.pointer pe))(d:Nat)(w:World):(Op.equalIn (d+1) t (.pointer none) (.pointer none)).run P w=.ok true w:=by
 simp[Op.equalIn,Ao h]
theorem Q8v {t:TypeId}(h:P.underlying t=some .bool)(x y:Bool)(w:World):(Op.equal t (.bool x) (.bool y)).run P w=.ok (x == y) w:=Qazs h 9999 x y w
theorem MG {t pe:TypeId}(h:P.underlying t=some (.pointer pe))(x:Addr)(w:World):(Op.equal t (.pointer (some x)) (.pointer none)).run P w=.ok false w:=Qa8g h 9999 x w
theorem MH {t pe:TypeId}(h:P.underlying t=some (.pointer pe))(w:World):(Op.equal t (.pointer none) (.pointer none)).run P w=.ok true w:=Qa8f h 9999 w
theorem Qb0h {tag:Nat}{bo:BinOp}{x y:Opd}{x' y':Operand}{t t':TypeId}(hm:o.op=.binOp bo t x' y' t')(ht:mTag P tag t=true)(hx:mO x x'=true)(hy:mO y y'=true)
  (hs:Sat H g w) (he:EnvOk w g e a) (hp:p=true) (ho:(FOp.bin tag bo x y).obl p e H):FOk P H g w e a o (.bin tag bo x y):=by
 simp only[FOp.obl]at ho;obtain⟨h1,h2,h3,h4,h5⟩:=ho;have eM:=An he hx hp h1;have jL:=An he hy hp h2;rw[Bo h3]at eM;rw[Bo h4]at jL;have gJ:=eM.aK;have fN:=jL.aK;have key:∀(u v:Value) (c d:C),RepC w g c u->RepC w g d v->binO tag bo c d->
   ∃r,(do eqGuard bo t x' y' u v;binOp bo t u v:Sem Value).run P w=.ok r w/\RepC w g (binC bo c d) r:=by
  intro u v c d hu hv hO;unfold binO at hO;split at hO
  case h_1=>
   obtain⟨rfl,hr⟩:=hO;rw[hu.aG,hv.aG];exact⟨_,by simp[AJ,binOp,Op.intArith];try rfl,by rw[G7 hr];exact .int _ _⟩
  case h_2=>
   obtain⟨rfl,hr⟩:=hO;rw[hu.aG,hv.aG];exact⟨_,by simp[AJ,binOp,Op.intArith];try rfl,by rw[G7 hr];exact .int _ _⟩
  case h_3=>
   obtain⟨rfl,hr⟩:=hO;rw[hu.aG,hv.aG];exact⟨_,by simp[AJ,binOp,Op.intArith];try rfl,by rw[G7 hr];exact .int _ _⟩
  case h_4=>
   obtain⟨rfl,h0,hr⟩:=hO;rw[hu.aG,hv.aG];exact⟨_,by simp[AJ,binOp,Op.intDiv,h0];try rfl,by rw[G7 hr];exact .int _ _⟩
  case h_5=>
   obtain⟨rfl,h0⟩:=hO;rw[hu.aG,hv.aG];exact⟨_,by simp[AJ,binOp,Op.intDiv,h0];try rfl,.int _ _⟩
  case h_6=>
   subst hO;rw[hu.aG,hv.aG];exact⟨_,by simp[AJ,binOp,Op.intBits];try rfl,.int _ _⟩
  case h_7=>
   subst hO;rw[hu.aG,hv.aG];exact⟨_,by simp[AJ,binOp,Op.intBits];try rfl,.int _ _⟩
  case h_8=>
   subst hO;rw[hu.aG,hv.aG];exact⟨_,by simp[AJ,binOp,Op.intBits];try rfl,.int _ _⟩
  case h_9=>
   subst hO;rw[hu.aG,hv.aG];exact⟨_,by simp[AJ,binOp,Op.intCmp];try rfl,.bool _⟩
  case h_10=>
   subst hO;rw[hu.aG,hv.aG];refine⟨.bool (!decide (_=_)),?_,.bool _⟩;simp[AJ,binOp,Op.intCmp,bne];rfl
  case h_11=>
   subst hO;rw[hu.aG,hv.aG];exact⟨_,by simp[AJ,binOp,Op.intCmp];try rfl,.bool _⟩
  case h_12=>
   subst hO;rw[hu.aG,hv.aG];exact⟨_,by simp[AJ,binOp,Op.intCmp];try rfl,.bool _⟩
  case h_13=>
   subst hO;rw[hu.aG,hv.aG];exact⟨_,by simp[AJ,binOp,Op.intCmp];try rfl,.bool _⟩
  case h_14=>
   subst hO;rw[hu.aG,hv.aG];exact⟨_,by simp[AJ,binOp,Op.intCmp];try rfl,.bool _⟩
  case h_15=>
   subst hO;rw[hu.bx,hv.bx];have hb:P.underlying t=some .bool:=by
    simp only[mTag]at ht;split at ht <;> simp_all
   exact⟨_,by simp only[Sem.run_bind,AJ _ _ _ _ (.bool _) (.bool _) ZF ZF,Result.andThen_ok,binOp,Q8v hb];rfl,.bool _⟩
  case h_16=>
   subst hO;rw[hu.bx,hv.bx];have hb:P.underlying t=some .bool:=by
    simp only[mTag]at ht;split at ht <;> simp_all
   exact⟨_,by simp only[Sem.run_bind,AJ _ _ _ _ (.bool _) (.bool _) ZF ZF,Result.andThen_ok,binOp,Q8v hb];rfl,.bool _⟩
  case h_17=>
   rename_i s s'
   rw[hu.str_inv.1,hv.str_inv.1];rw[Cp]at hO;refine⟨.string (⟨s.toArray⟩++⟨s'.toArray⟩),?_,?_⟩
   ·simp only[Sem.run_bind,AJ _ _ _ _ (.string _) (.string _) ZF ZF,Result.andThen_ok,binOp,Op.stringOp,Dv];rw[if_neg (by simp[IntKind.max,IntKind.signed,IntKind.bits];omega)];rfl
   ·have:(⟨s.toArray⟩++⟨s'.toArray⟩:ByteArray)=⟨(s++s').toArray⟩:=by
     apply Jbb;simp
    rw[this];exact .str _ (by simp[Cp];omega)
  case h_18=>
   rw[hu.str_inv.1,hv.str_inv.1];refine⟨_,by simp only[Sem.run_bind,AJ _ _ _ _ (.string _) (.string _) ZF ZF,Result.andThen_ok,binOp,Op.stringOp,Ob];rfl,?_⟩
   rename_i s s'
   rw[show (s == s')=decide (s=s') from by rw[Jbm];simp];exact .bool _
  case h_19=>
   rw[hu.str_inv.1,hv.str_inv.1];refine⟨_,by simp only[Sem.run_bind,AJ _ _ _ _ (.string _) (.string _) ZF ZF,Result.andThen_ok,binOp,Op.stringOp,Ob];rfl,?_⟩
   rename_i s s'
   rw[show (s == s')=decide (s=s') from by rw[Jbm];simp];exact .bool _
  case h_20=>
   obtain⟨rfl,hO⟩:=hO;rw[hv.pnil_inv];obtain⟨pe,hb⟩:∃pe,P.underlying t=some (.pointer pe):=by
    simp only[mTag]at ht;split at ht <;> simp_all
   rcases hO with hO|rfl
   ·obtain⟨b,of,rfl⟩:=hu.ptr_inv hO;refine⟨_,by simp only[Sem.run_bind,AJ _ _ _ _ (.pointer _) (.pointer _) ZF ZF,Result.andThen_ok,binOp,MG hb];rfl,?_⟩;cases c <;> simp[C.isPtr]at hO <;> exact .bool _
   ·rw[hu.pnil_inv];exact⟨_,by simp only[Sem.run_bind,AJ _ _ _ _ (.pointer _) (.pointer _) ZF ZF,Result.andThen_ok,binOp,MH hb];rfl,.bool _⟩
  case h_21=>
   obtain⟨rfl,hO⟩:=hO;rw[hv.pnil_inv];obtain⟨pe,hb⟩:∃pe,P.underlying t=some (.pointer pe):=by
    simp only[mTag]at ht;split at ht <;> simp_all
   rcases hO with hO|rfl
   ·obtain⟨b,of,rfl⟩:=hu.ptr_inv hO;refine⟨_,by simp only[Sem.run_bind,AJ _ _ _ _ (.pointer _) (.pointer _) ZF ZF,Result.andThen_ok,binOp,MG hb];rfl,?_⟩;cases c <;> simp[C.isPtr]at hO <;> exact .bool _
   ·rw[hu.pnil_inv];exact⟨_,by simp only[Sem.run_bind,AJ _ _ _ _ (.pointer _) (.pointer _) ZF ZF,Result.andThen_ok,binOp,MH hb];rfl,.bool _⟩
  case h_22=>exact hO.elim
 obtain⟨r,dC,fD⟩:=key _ _ _ _ gJ fN h5;refine .mk' hs (v:=r) ?_ ?_ trivial
 ·simp only[execOp,hm,Sem.run_bind]at dC⊢;simp only[dC];rfl
 ·exact .c _ _ fD
theorem Qb0u {x:Opd}{x':Operand}{t:TypeId}(hm:o.op=.unOp .not t x')(hx:mO x x'=true)(hs:Sat H g w)(he:EnvOk w g e a)(hp:p=true)
  (ho:(FOp.not x).obl p e H):FOk P H g w e a o (.not x):=by
 simp only[FOp.obl]at ho;obtain⟨h1,h2⟩:=ho;have hr:=An he hx hp h1;split at h2
 ·rename_i b hv
  rw[hv]at hr;have hb:=hr.aK.bx;refine .mk' hs (v:=.bool (!b)) (by simp[execOp,hm,hb,Op.unary]) ?_ trivial;simp only[FOp.val,hv];exact .c _ _ (.bool _)
 ·exact h2.elim
theorem IG {α:Type}(l:List α)(i j:Nat):(l.drop i)[j]? = l[i+j]?:=by simp[Jt]
theorem Qb0n {off:Nat}{x:Opd}{x':Operand}{s:TypeId}{k:Nat}{fs:Array Field}{f:Field}{i:TypeInfo}(hm:o.op=.fieldAddr s x' k)(hu:P.underlying s=some (.struct fs))
  (hf:fs[k]? = some f) (mz:f.offset=off) (hi:P.info? f.type=some i) (hz:i.size≠0) (hx:mO x x'=true)
  (hs:Sat H g w) (he:EnvOk w g e a) (hp:p=true) (ho:(FOp.fad off x).obl p e H):FOk P H g w e a o (.fad off x):=by
 simp only[FOp.obl]at ho;obtain⟨h1,h2⟩:=ho;have hr:=An he hx hp h1;have run:∀b q,a.eval x'=.pointer (some ⟨b,q,none⟩)->(execOp a.eval o).run P w=.ok (.value (.pointer (some ⟨b,q+off,none⟩))) w:=by
  intro b q hq;simp[execOp,hm,hq,Instr.fieldAt,Ao hu,hf,Instr.sureAddr,fieldPlace,Bh hi,hz,BT,mz]
 generalize hq:a.eval x'=vv at hr;split at h2
 ·rename_i cells hv
  rw[hv]at hr
  cases hr.aK with
  |pp _ b q val da hc nu=>
   refine .mk' hs (run b q hq) ?_ trivial;simp only[FOp.val,hv,V.c1,fadC];refine .c _ _ (.pp _ b (q+off) (λj=>val (off+j)) da (λj c hj=>?_) (λj c hj=>?_))
   ·rw[IG]at hj;rw[Jav];exact hc _ _ hj
   ·rw[IG]at hj;exact nu _ _ hj
 ·rename_i l kk hv
  rw[hv]at hr
  cases hr.aK with
  |ptr _ _ b sz base cg=>
   refine .mk' hs (run b _ hq) ?_ trivial;simp only[FOp.val,hv,V.c1,fadC];rw[Jav];exact .c _ _ (.ptr _ _ b sz base cg)
 ·rename_i sl sz ii kk hv
  rw[hv]at hr
  cases hr.aK with
  |ep _ _ _ _ b q n cap eA dl cV=>
   refine .mk' hs (run b _ hq) ?_ trivial;simp only[FOp.val,hv,V.c1,fadC];rw[Jav];exact .c _ _ (.ep _ _ _ _ b q n cap eA dl cV)
 ·exact h2.elim
theorem Qbsc {v:V}(h:B8 v):v=.c (.int .i64 (Ag v)):=by
 unfold B8 at h;split at h
 ·subst h;rfl
 ·exact h.elim
theorem Qbse {v:V}(h:Dc v):∃k,v=.c (.int k (Ag v)):=by
 unfold Dc at h;split at h
 ·exact⟨_,rfl⟩
 ·exact h.elim
theorem BV {x:Opd}{y:Operand}(he:EnvOk w g e a)(h:mO x y=true)(hp:p=true)(hf:x.fine p e)(hi:B8 (x.v e)) :
  a.eval y=.int .i64 (Ag (x.v e)):=by
 have hr:=An he h hp hf;rw[Qbsc hi]at hr;exact hr.aK.aG
theorem Qb0p {sz:Nat}{x y:Opd}{x' y':Operand}{t el:TypeId}{i:TypeInfo}(hm:o.op=.indexAddr t x' y')(hu:P.underlying t=some (.slice el))
  (hi:P.info? el=some i) (hz:i.size=sz) (hx:mO x x'=true) (hy:mO y y'=true)
  (hs:Sat H g w) (he:EnvOk w g e a) (hp:p=true) (ho:(FOp.iad sz x y).obl p e H):FOk P H g w e a o (.iad sz x y):=by
 simp only[FOp.obl]at ho;obtain⟨h1,h2,h3,h4,h5,h6,h7,h8⟩:=ho;have hr:=An he hx hp h1;have hn:=BV he hy hp h2 h6;rw[Bo h3]at hr;obtain⟨b0,cap,hv,r1,r2,r3,r4⟩:=Ga hs hr.aK h4;obtain⟨b,off,rfl,r5⟩:=r4 ZD;refine .mk' hs (v:=.pointer (some ⟨b,off+(Ag (y.v e)).toNat * sz+0,none⟩)) ?_ ?_ trivial
 ·simp only[execOp,hm,hv,hn,Instr.indexAt,Sem.run_bind,asIntOf,Sem.run_pure,Result.andThen_ok,Ao hu];rw[if_pos ⟨h7,ZD⟩];simp[Bh hi,hz,BT]
 ·simp only[FOp.val];refine .c _ _ (.ep _ _ _ _ b off (ax (x.v e).c1) cap ?_ h5 h8);rw[<-hv];exact hr.aK
theorem Kb (f:Nat->Value)(n j:Nat)(u:Value)(h:(((List.range n).map f))[j]? = some u):j<n/\u=f j:=by
 simp only[Jj]at h
 cases hj:(List.range n)[j]? with
 |none=>rw[hj]at h;simp at h
 |some m=>
  rw[hj]at h;rw[Jan]at hj;obtain⟨h1,h2⟩:=hj;simp only[List.getElem_range]at h2;subst h2;simp only[Jbh]at h1;simp at h;exact⟨h1,h.symm⟩
theorem Ig {cs:List C}(h:an cs=true){j:Nat}{c:C}(hj:cs[j]? = some c):c.ai=false:=by
 unfold an at h;rw[Jaa]at h;have:=h c (Jh hj);simpa using this
theorem Oh {n:Nat}{agg:Bool}{x:Opd}{x':Operand}{t:TypeId}{d:TypeDesc}{i:TypeInfo}(hm:o.op=.load t x')(hu:P.underlying t=some d)(hi:P.info? t=some i)
  (ha:BD d=agg) (hn:agg=true->i.size=n) (dz:agg=false->n=1) (hx:mO x x'=true)
  (hs:Sat H g w) (he:EnvOk w g e a) (hp:p=true) (ho:(FOp.ld n agg x).obl p e H):∃v,(execOp a.eval o).run P w=.ok (.value v) w/\RepV w g ((FOp.ld n agg x).val e H) v:=by
 simp only[FOp.obl]at ho;obtain⟨h1,h2,h3,h4,h5⟩:=ho;have hr:=An he hx hp h1;rw[Bo h2]at hr;obtain⟨b,q,hv,hc⟩:=KV hs hr.aK h3;have cj:∀j,j<n->∃c,(BO H (x.v e).c1)[j]? = some c/\w.cell? ⟨b,q+j,none⟩=some (getV w b q j)/\RepC w g c (getV w b q j):=by
  intro j hj;have cQ:j<(BO H (x.v e).c1).length:=ZD
  have hg:(BO H (x.v e).c1)[j]? = some (BO H (x.v e).c1)[j]:=Jd cQ;have hw:((BO H (x.v e).c1)[j]).ai=false:=Ig h5 (j:=j) (by rw[Jo,if_pos hj];exact hg);obtain⟨u,e1,e2⟩:=hc j _ hg hw;refine⟨_,hg,?_,?_⟩
  ·rw[getV,e1];rfl
  ·rw[getV,e1];exact e2
 have cO:=Fh (t:=t) hu hi w b q n (getV w b q) (λh=>hn (ha▸h)) (λh=>dz (ha▸h)) (λj hj=>(cj j hj).choose_spec.2.1);refine⟨if BD d then .agg ((List.range n).map (getV w b q)).toArray else getV w b q 0,?_,?_⟩
 ·simp only[execOp,hm,hv,Instr.loadAt,Instr.sureAddr,Sem.run_bind,Sem.run_pure,Result.andThen_ok,cO]
 ·simp only[FOp.val,BM];rw[ha]
  cases agg with
  |true=>
   simp only[if_true];refine .ag _ _ ZJ λj c u hj gM=>?_;obtain⟨yr,rfl⟩:=Kb _ _ _ _ gM;obtain⟨c',e1,e2,e3⟩:=cj j yr;rw[Jo,if_pos yr,e1]at hj;simp at hj;subst hj;exact e3
  |false=>
   have vx:=dz rfl;subst vx;obtain⟨c',e1,e2,e3⟩:=cj 0 ZD;simp only[Jr,if_false];have:((BO H (x.v e).c1).take 1).headD .unk=c':=by
    cases hb:BO H (x.v e).c1 with
    |nil=>rw[hb]at e1;simp at e1
    |cons c r=>rw[hb]at e1;simp at e1;simp[e1]
   rw[this];exact .c _ _ e3
theorem s_ld {n:Nat}{agg:Bool}{x:Opd}{x':Operand}{t:TypeId}{d:TypeDesc}{i:TypeInfo}(hm:o.op=.load t x')(hu:P.underlying t=some d)(hi:P.info? t=some i)
  (ha:BD d=agg) (hn:agg=true->i.size=n) (dz:agg=false->n=1) (hx:mO x x'=true)
  (hs:Sat H g w) (he:EnvOk w g e a) (hp:p=true) (ho:(FOp.ld n agg x).obl p e H):FOk P H g w e a o (.ld n agg x):=by
 obtain⟨v,h1,h2⟩:=Oh hm hu hi ha hn dz hx hs he hp ho;exact .mk' hs h1 h2 trivial
theorem Qb0t {x:Opd}{x':Operand}(hm:o.op=.nilCheck x')(hx:mO x x'=true)
  (hs:Sat H g w) (he:EnvOk w g e a) (hp:p=true) (ho:(FOp.nck x).obl p e H):FOk P H g w e a o (.nck x):=by
 simp only[FOp.obl]at ho;obtain⟨h1,h2⟩:=ho;have hr:=An he hx hp h1;have oP:(x.v e).isC->(x.v e).c1.isPtr=true->FOk P H g w e a o (.nck x):=by
  intro hc hq;have bh:=hr;rw[Bo hc]at bh;obtain⟨b,q,hv⟩:=bh.aK.ptr_inv hq;exact .mk' hs (v:=a.eval x') (by simp[execOp,hm,hv]) hr trivial
 split at h2
 ·rename_i hv;exact oP (by rw[hv];trivial) (by rw[hv];rfl)
 ·rename_i hv;exact oP (by rw[hv];trivial) (by rw[hv];rfl)
 ·rename_i hv;exact oP (by rw[hv];trivial) (by rw[hv];rfl)
 ·rename_i hv
  have bh:=hr;rw[hv]at bh;obtain⟨vs,hq,_⟩:=bh.aK.fn_inv;exact .mk' hs (v:=a.eval x') (by simp[execOp,hm,hq]) hr trivial
 ·exact h2.elim
theorem Qb0r {x:Opd}{x':Operand}{t el:TypeId}{ats:Array TypeId}(hm:o.op=.call { callee:=.builtin .len,args:=#[x'],argTypes:=ats })(bp:ats[0]? = some t)
  (hu:P.underlying t=some (.slice el)) (hx:mO x x'=true)
  (hs:Sat H g w) (he:EnvOk w g e a) (hp:p=true) (ho:(FOp.len x).obl p e H):FOk P H g w e a o (.len x):=by
 simp only[FOp.obl]at ho;obtain⟨h1,h2,h3⟩:=ho;have hr:=An he hx hp h1;rw[Bo h2]at hr;obtain⟨b0,cap,hv,r1,r2,r3,r4⟩:=Ga hs hr.aK h3;refine .mk' hs (v:=.int .i64 (ax (x.v e).c1)) ?_ (.c _ _ (.int _ _)) r1;simp[execOp,hm,resolve,invoke,builtin,Builtin.len_,bp,hv,Ao hu,goInt]
theorem s_lenx {x:Opd}{x':Operand}{t el:TypeId}{ats:Array TypeId}(hm:o.op=.call { callee:=.builtin .len,args:=#[x'],argTypes:=ats })(bp:ats[0]? = some t)
  (hu:P.underlying t=some (.slice el)) (hx:mO x x'=true)
  (hs:Sat H g w) (he:EnvOk w g e a) (hp:p=true) (ho:(FOp.lenx x).obl p e H):FOk P H g w e a o (.lenx x):=by
 simp only[FOp.obl]at ho;obtain⟨h1,h2,h3⟩:=ho;have hr:=An he hx hp h1;rw[Bo h2]at hr;have key:∃(b0:Option Addr) (cap:Nat),a.eval x'=.slice b0 (lenX (x.v e).c1) cap/\lenX (x.v e).c1<2 ^ 63:=by
  rcases h3 with h3|h3
  ·obtain⟨b0,cap,hv,r1,r2,r3,r4⟩:=Ga hs hr.aK h3;have:lenX (x.v e).c1=ax (x.v e).c1:=by
    generalize (x.v e).c1=c at h3;cases c <;> first|rfl|simp[aZ]at h3
   rw[this];exact⟨b0,cap,hv,by rw[Cp]at r1;omega⟩
  ·have dy:=hr.aK;generalize (x.v e).c1=c at h3 dy⊢;generalize a.eval x'=xv at dy⊢
   cases dy with
   |slb n a0 cap h=>exact⟨_,_,rfl,h⟩
   |_=>simp[HK]at h3
 obtain⟨b0,cap,hv,hl⟩:=key;refine .mk' hs (v:=.int .i64 (lenX (x.v e).c1)) ?_ (.c _ _ (.int _ _)) hl;simp[execOp,hm,resolve,invoke,builtin,Builtin.len_,bp,hv,Ao hu,goInt]
theorem TZ {x:Opd}{x':Operand}{t:TypeId}{ats:Array TypeId}(hm:o.op=.call { callee:=.builtin .len,args:=#[x'],argTypes:=ats })(bp:ats[0]? = some t)
  (hu:P.underlying t=some .string) (hx:mO x x'=true)
  (hs:Sat H g w) (he:EnvOk w g e a) (hp:p=true) (ho:(FOp.lens x).obl p e H):FOk P H g w e a o (.lens x):=by
 simp only[FOp.obl]at ho;obtain⟨h1,h2⟩:=ho;have hr:=An he hx hp h1;split at h2
 ·rename_i s hv
  rw[hv]at hr;obtain⟨hq,hl⟩:=hr.aK.str_inv;refine .mk' hs (v:=.int .i64 s.length) ?_ ZV (by simp only[FOp.fct,hv];exact hl);simp[execOp,hm,resolve,invoke,builtin,Builtin.len_,bp,hq,Ao hu,goInt,Dv]
 ·exact h2.elim
theorem s_lensx {x:Opd}{x':Operand}{t:TypeId}{ats:Array TypeId}(hm:o.op=.call { callee:=.builtin .len,args:=#[x'],argTypes:=ats })(bp:ats[0]? = some t)
  (hu:P.underlying t=some .string) (hx:mO x x'=true)
  (hs:Sat H g w) (he:EnvOk w g e a) (hp:p=true) (ho:(FOp.lensx x).obl p e H):FOk P H g w e a o (.lensx x):=by
 simp only[FOp.obl]at ho;obtain⟨h1,h2⟩:=ho;have hr:=An he hx hp h1;split at h2
 ·rename_i s hv
  rw[hv]at hr;obtain⟨hq,hl⟩:=hr.aK.str_inv;refine .mk' hs (v:=.int .i64 s.length) ?_ ZV (by simp only[FOp.fct,hv];exact hl);simp[execOp,hm,resolve,invoke,builtin,Builtin.len_,bp,hq,Ao hu,goInt,Dv]
 ·rename_i n hv
  rw[hv]at hr;have dy:=hr.aK;generalize hq:a.eval x'=xv at dy
  cases dy with
  |stb s h=>
   refine .mk' hs (v:=.int .i64 s.size) ?_ ZV (by simp only[FOp.fct,hv];exact h);simp[execOp,hm,resolve,invoke,builtin,Builtin.len_,bp,hq,Ao hu,goInt]
 ·exact h2.elim
theorem V4 {agg:Bool}{ks:List C}{rows:List (List C)}{v:Value}(h:RepC w g (.cm agg ks rows) v):∃b ms clock,v=.map (some b)/\w.heap[b]? = some (.map ms clock)/\ms.size=(AQ H (.cm agg ks rows)).length/\(AQ H (.cm agg ks rows)).length<=LIM/\
   (∀(i:Nat) (x:C×V) (m:MapEntry),(AQ H (.cm agg ks rows))[i]? = some x->ms[i]? = some m->RepE w g x m)/\
   (∀(i j:Nat) (m m':MapEntry),ms[i]? = some m->ms[j]? = some m'->(m.born=m'.born\/m.key=m'.key)->i=j):=by
 cases h with
 |cm _ _ _ b ms clock val hp hb bj dA hl hd hm hk hv=>
  have ak:(AQ H (.cm agg ks rows)).length=ks.length:=by simp[AQ];omega
  refine⟨b,ms,clock,rfl,hb,by rw[ak];exact bj,by rw[ak];exact hl,λi x m h1 h2=>?_,hd⟩;simp only[AQ,Jj]at h1;obtain⟨e,he,rfl⟩:=Option.map_eq_some_iff.1 h1;obtain⟨e1,e2⟩:=Jao.1 he;refine⟨hk i _ m e1 h2,?_⟩;obtain⟨k1,k2⟩:=hm i _ m e2 h2;obtain⟨ec,er⟩:=e;simp only at e1 e2 k1 k2⊢
  cases agg with
  |true=>
   simp only[if_true]at k1;rw[k1];refine .ag _ _ ZF λj c u h3 h4=>?_;obtain⟨_,rfl⟩:=Kb _ _ _ _ h4;exact hv i _ j c e2 h3
  |false=>
   have pY:=k2 rfl
   match er,pY with
   |[c],_=>
    simp only[Jr,if_false]at k1;rw[k1];exact .c _ _ (hv i _ 0 c e2 rfl)
theorem Xi (hs:Sat H g w){c:C}{v:Value}(h:RepC w g c v)(ho:AY H c) :
  (v=.map none/\AQ H c=[])\/∃b ms clock,v=.map (some b)/\w.heap[b]? = some (.map ms clock)/\ms.size=(AQ H c).length/\(AQ H c).length<=LIM/\
   ∀(i:Nat) (x:C×V) (m:MapEntry),(AQ H c)[i]? = some x->ms[i]? = some m->RepE w g x m:=by
 have h0:=h
 cases h with
 |mp l b cg=>
  simp only[AY]at ho;split at ho
  ·rename_i n es hH
   have aX:=hs.objs l;rw[hH]at aX;obtain⟨b',ms,clock,k1,k2,k3,k4,k5,k6,_⟩:=aX;rw[cg]at k1;simp only[Jc,Jk,and_true]at k1;subst k1;simp only[AQ,hH];exact .inr ⟨b,ms,clock,rfl,k3,k4,k5,k6⟩
  ·exact ho.elim
 |mnil=>exact .inl ⟨rfl,rfl⟩
 |cm=>
  obtain⟨b,ms,clock,q1,q2,q3,q4,q5,_⟩:=V4 (H:=H) h0;exact .inr ⟨b,ms,clock,q1,q2,q3,q4,q5⟩
 |_=>simp[AY]at ho
theorem Va {x:Opd}{x':Operand}{t kt et:TypeId}{ats:Array TypeId}(hm:o.op=.call { callee:=.builtin .len,args:=#[x'],argTypes:=ats })(bp:ats[0]? = some t)
  (hu:P.underlying t=some (.map kt et)) (hx:mO x x'=true)
  (hs:Sat H g w) (he:EnvOk w g e a) (hp:p=true) (ho:(FOp.lenm x).obl p e H):FOk P H g w e a o (.lenm x):=by
 simp only[FOp.obl]at ho;obtain⟨h1,h2,h3⟩:=ho;have hr:=An he hx hp h1;rw[Bo h2]at hr;rcases Xi hs hr.aK h3 with ⟨hv,hE⟩|⟨b,ms,clock,hv,hb,bj,hl,_⟩
 ·refine .mk' hs (v:=.int .i64 0) ?_ (by simp only[FOp.val,hE];exact .c _ _ (.int _ _)) (by simp only[FOp.fct,hE];simp[Cp]);simp[execOp,hm,resolve,invoke,builtin,Builtin.len_,bp,hv,Ao hu,goInt]
 ·refine .mk' hs (v:=.int .i64 (AQ H (x.v e).c1).length) ?_ (.c _ _ (.int _ _)) hl;have dV:(getObj b).run P w=.ok (.map ms clock) w:=by simp[getObj,Sem.run,hb]
  simp[execOp,hm,resolve,invoke,builtin,Builtin.len_,bp,hv,Ao hu,goInt,dV,bj]
theorem Qb0m {x:Opd}{x':Operand}{i:Nat}(hm:o.op=.extract x' i)(hx:mO x x'=true)
  (hs:Sat H g w) (he:EnvOk w g e a) (hp:p=true) (ho:(FOp.ext x i).obl p e H):FOk P H g w e a o (.ext x i):=by
 simp only[FOp.obl]at ho;obtain⟨h1,h2⟩:=ho;have hr:=An he hx hp h1;split at h2
 ·rename_i xs hv
  rw[hv]at hr;obtain⟨vs,hq,hl,hh⟩:=hr.tup_inv;have hi:i<vs.length:=ZD
  refine .mk' hs (v:=vs[i]) ?_ ?_ trivial
  ·simp[execOp,hm,Instr.extract,hq,hi]
  ·simp only[FOp.val,hv];refine hh i _ _ ?_ (Jd hi);rw[J0,Jd h2];rfl
 ·exact h2.elim
theorem Qb0l {x:Opd}{x':Operand}{k:IntKind}{src dst:TypeId}{d:TypeDesc}(hm:o.op=.convert src dst x')(hu:P.underlying dst=some (.int k))(gM:P.underlying src=some d)(hx:mO x x'=true)
  (hs:Sat H g w) (he:EnvOk w g e a) (hp:p=true) (ho:(FOp.cvt k x).obl p e H):FOk P H g w e a o (.cvt k x):=by
 simp only[FOp.obl]at ho;obtain⟨h1,h2,h3⟩:=ho;have hr:=An he hx hp h1;obtain⟨k',hk⟩:=Qbse h2;rw[hk]at hr;have hq:=hr.aK.aG;refine .mk' hs (v:=.int k (Ag (x.v e))) ?_ (.c _ _ (.int _ _)) trivial;simp[execOp,hm,hq,convert,Ao hu,Ao gM,Conv.intToInt,G7 h3]
theorem s_mx {x y:Opd}{x' y':Operand}{ats:Array TypeId}(hm:o.op=.call { callee:=.builtin .max,args:=#[x',y'],argTypes:=ats })(hx:mO x x'=true)(hy:mO y y'=true)
  (hs:Sat H g w) (he:EnvOk w g e a) (hp:p=true) (ho:(FOp.mx x y).obl p e H):FOk P H g w e a o (.mx x y):=by
 simp only[FOp.obl]at ho;obtain⟨h1,h2,h3,h4⟩:=ho;have q1:=BV he hx hp h1 h3;have q2:=BV he hy hp h2 h4;refine .mk' hs (v:=.int .i64 (if Ag (y.v e) > Ag (x.v e)then Ag (y.v e)else Ag (x.v e))) ?_ (.c _ _ (.int _ _)) trivial;simp[execOp,hm,resolve,invoke,builtin,Builtin.max_,q1,q2,Builtin.max2]
theorem s_mn {x y:Opd}{x' y':Operand}{ats:Array TypeId}(hm:o.op=.call { callee:=.builtin .min,args:=#[x',y'],argTypes:=ats })(hx:mO x x'=true)(hy:mO y y'=true)
  (hs:Sat H g w) (he:EnvOk w g e a) (hp:p=true) (ho:(FOp.mn x y).obl p e H):FOk P H g w e a o (.mn x y):=by
 simp only[FOp.obl]at ho;obtain⟨h1,h2,h3,h4⟩:=ho;have q1:=BV he hx hp h1 h3;have q2:=BV he hy hp h2 h4;refine .mk' hs (v:=.int .i64 (if Ag (y.v e)<Ag (x.v e)then Ag (y.v e)else Ag (x.v e))) ?_ (.c _ _ (.int _ _)) trivial;simp[execOp,hm,resolve,invoke,builtin,Builtin.min_,q1,q2,Builtin.min2]
theorem Qb0q {x y:Opd}{x' y':Operand}{t:TypeId}(hm:o.op=.index t x' y')(hu:P.underlying t=some .string)(hx:mO x x'=true)(hy:mO y y'=true)
  (hs:Sat H g w) (he:EnvOk w g e a) (hp:p=true) (ho:(FOp.idx x y).obl p e H):FOk P H g w e a o (.idx x y):=by
 simp only[FOp.obl]at ho;obtain⟨h1,h2,h3,h4⟩:=ho;have hr:=An he hx hp h1;have q2:=BV he hy hp h2 h3;split at h4
 ·rename_i s hv
  rw[hv]at hr;obtain⟨hq,hl⟩:=hr.aK.str_inv;refine .mk' hs (v:=.int .u8 ((s.getD (Ag (y.v e)).toNat 0).toNat)) ?_ ZV trivial;have hb:(⟨s.toArray⟩:ByteArray)[(Ag (y.v e)).toNat]? = some (s.getD (Ag (y.v e)).toNat 0):=by
   rw[getElem?_pos _ _ (by simpa[ByteArray.size]using h4.2)];rw[J0,Jd h4.2];rfl
  simp only[execOp,hm,hq,q2,Instr.index,Sem.run_bind,asIntOf,Sem.run_pure,Result.andThen_ok,Ao hu,if_pos h4.1,hb]
 ·exact h4.elim
def Cn (g:G)(w:World)(g':G)(w':World)(l:Nat):Prop:=
 ∀b q,g.own b=some (l,q)->g'.own b=some (l,q)/\w'.heap[b]? = w.heap[b]?
theorem RepE.mono {g':G}{w':World}(aP:Le g w g' w'){x:C×V}{m:MapEntry}(h:RepE w g x m):RepE w' g' x m:=⟨h.1.mono aP,h.2.mono aP⟩
theorem SatObj.keep {H':Heap}{g':G}{w':World}(hs:Sat H g w)(aP:Le g w g' w'){l:Nat}(hk:Cn g w g' w' l)(hH:H' l=H l)
  (lM:∀m v left cur,H l=.iter (some (m,v)) left cur->∀v' es,H' m=.map v' es->(H m=.map v' es/\Cn g w g' w' m)\/∃v0 es0,H m=.map v0 es0/\v0<v') :
  SatObj H' g' w' l (H' l):=by
 have ho:=hs.objs l;rw[hH]
 cases hc:H l with
 |none=>exact trivial
 |st cells=>
  rw[hc]at ho;obtain⟨b,sz,T,cs,h1,h2,h3,h4,h5⟩:=ho;have k0:=hk b [] h2;refine⟨b,sz,T,cs,aP.io _ _ h1,k0.1,k0.2.trans h3,h4,λk c v e1 e2=>?_⟩;exact (h5 k c v e1 e2).move aP λq b' hb=>hk b' _ hb
 |vec sz rows=>
  rw[hc]at ho;rcases ho with ⟨q1,x,q2,q3⟩|⟨b,base,T,cs,val,h1,h2,h3,h4,h5,h6,h7,h8⟩
  ·exact .inl ⟨q1,x,aP.io _ _ q2,q3⟩
  have k0:=hk b [] h2;refine .inr ⟨b,base,T,cs,val,aP.io _ _ h1,k0.1,k0.2.trans h3,h4,h5,h6,h7,λi row j c e1 e2=>?_⟩;exact (h8 i row j c e1 e2).move aP λq b' hb=>hk b' _ hb
 |map v es=>
  rw[hc]at ho;obtain⟨b,ms,clock,h1,h2,h3,h4,h5,h6,h7,h8⟩:=ho;have k0:=hk b [] h2;exact⟨b,ms,clock,aP.io _ _ h1,k0.1,k0.2.trans h3,h4,h5,λi x m e1 e2=>(h6 i x m e1 e2).mono aP,h7,h8⟩
 |gl b cells=>
  rw[hc]at ho;obtain⟨sz,val,h1,h2,h3,h4⟩:=ho;refine⟨sz,val,aP.io _ _ h1,(aP.per b h2).1,λj c e=>?_,λj c e=>(h4 j c e).mono aP⟩;rw[S4 (w:=w) (aP.per b h2).2];exact h3 j c e
 |sit s q=>
  rw[hc]at ho;obtain⟨b,h1,h2,h3,h4⟩:=ho;have k0:=hk b [] h2;exact⟨b,aP.io _ _ h1,k0.1,k0.2.trans h3,h4⟩
 |iter m left cur=>
  rw[hc]at ho
  cases m with
  |none=>
   obtain⟨b,si,se,la,h1,h2,h3,h4⟩:=ho;have k0:=hk b [] h2;exact⟨b,si,se,la,aP.io _ _ h1,k0.1,k0.2.trans h3,h4⟩
  |some mv=>
   obtain⟨m,ver⟩:=mv;obtain⟨b,mb,si,se,h1,h2,h3,h4,h5⟩:=ho;have k0:=hk b [] h2;refine⟨b,mb,si,se,aP.io _ _ h1,k0.1,k0.2.trans h3,aP.io _ _ h4,λv es hv=>?_⟩;rcases lM m ver left cur hc v es hv with ⟨a1,a2⟩|⟨v0,es0,a1,a2⟩
   ·obtain⟨b1,b2⟩:=h5 v es a1;refine⟨b1,λnu=>?_⟩;obtain⟨ms,c1,c2⟩:=b2 nu;refine⟨ms,?_,c2⟩;have hm:=hs.objs m;rw[a1]at hm;obtain⟨mb',ms',clock,d1,d2,d3,_⟩:=hm;rw[h4]at d1;simp only[Jc,Jk,and_true]at d1;subst d1;rw[(a2 mb [] d2).2];exact c1
   ·obtain⟨b1,b2⟩:=h5 v0 es0 a1;exact⟨ZD,λnu=>ZD⟩
theorem SatObj.keep_all {g':G}{w':World}(hs:Sat H g w)(aP:Le g w g' w')(hk:∀l,Cn g w g' w' l)(l:Nat):SatObj H g' w' l (H l):=
 SatObj.keep (H':=H) hs aP (hk l) rfl λm v left cur _ v' es hv=>.inl ⟨hv,hk m⟩
theorem Cf (hs:Sat H g w){b:Nat}{x:Nat×List Nat}(h:g.own b=some x):b<w.heap.size:=by
 rcases Jg b w.heap.size with h'|h'
 ·exact h'
 ·rw[(hs.fresh b h').2]at h;simp at h
theorem E8 (hs:Sat H g w){b:Nat}(h:g.per b=true):b<w.heap.size:=by
 rcases Jg b w.heap.size with h'|h'
 ·exact h'
 ·rw[(hs.fresh b h').1]at h;simp at h
theorem CW (w:World)(x:Go.Obj){b:Nat}(h:b<w.heap.size):(w.alloc x).heap[b]? = w.heap[b]?:=by
 simp only[World.alloc,J5];rw[if_neg ZD]
theorem BX (w:World)(x:Go.Obj):(w.alloc x).heap[w.heap.size]? = some x:=by
 simp only[World.alloc,J5,if_true]
theorem EJ {w:World}{b:Nat}{T:TypeId}{n:Nat}(h:w.shape? b=some (T,n)):b<w.heap.size:=by
 unfold World.shape? at h;rcases Jg b w.heap.size with h'|h'
 ·exact h'
 ·simp[Ji h']at h
theorem PC {w w':World}{b:Nat}(h:w'.heap[b]? = w.heap[b]?):w'.shape? b=w.shape? b:=by simp only[World.shape?,h]
def G.newPer (g:G)(nb:Nat):G:={ g with per:=λb=>if b=nb then true else g.per b }
theorem Q8m (hs:Sat H g w)(x:Go.Obj):Stp H g w H (g.newPer w.heap.size) (w.alloc x):=by
 have aP:Le g w (g.newPer w.heap.size) (w.alloc x):=by
  refine⟨λb hb=>⟨?_,CW _ _ (E8 hs hb)⟩,λ_ _ h=>h,ZF,λb T n hn=>?_,rfl,rfl,rfl⟩
  ·simp only[G.newPer];split
   ·rfl
   ·exact hb
  ·rw[PC (CW _ _ (EJ hn))];exact hn
 have hk:∀l,Cn g w (g.newPer w.heap.size) (w.alloc x) l:=λl b q hb=>⟨hb,CW _ _ (Cf hs hb)⟩;refine⟨aP,λl _ hn=>⟨hn,λb q hb=>hk l b q hb⟩,⟨λb hb=>?_,hs.names,λb y hb=>?_,hs.named,λl=>SatObj.keep_all hs aP hk l⟩⟩
 ·simp only[World.size_alloc]at hb;refine⟨?_,(hs.fresh b ZD).2⟩;simp only[G.newPer];rw[if_neg ZD];exact (hs.fresh b ZD).1
 ·have aU:g.own b=some y:=hb;simp only[G.newPer];have:=Cf hs aU;rw[if_neg ZD];exact hs.excl b y aU
theorem Iy (hs:Sat H g w):Stp H g w H g w.drew:=by
 have aP:Le g w g w.drew:=⟨λ_ h=>⟨h,rfl⟩,λ_ _ h=>h,Jv _,λ_ _ _ h=>h,rfl,rfl,rfl⟩;have hk:∀l,Cn g w g w.drew l:=λl b q hb=>⟨hb,rfl⟩;exact⟨aP,λl _ hn=>⟨hn,λb q hb=>hk l b q hb⟩,⟨hs.fresh,hs.names,hs.excl,hs.named,λl=>SatObj.keep_all hs aP hk l⟩⟩
theorem MJ (w:World)(cs:Array Value)(T:TypeId)(j:Nat):(w.alloc (.cells cs T)).cell? ⟨w.heap.size,j,none⟩=cs[j]?:=
 World.cell?_alloc_new w cs T j
theorem FB {v:V}{u:Value}(h:RepV w g v u)(hn:v.cells≠[]) :
  u.cells.size=v.cells.length/\∀(j:Nat) (c:C) (x:Value),v.cells[j]? = some c->u.cells[j]? = some x->RepC w g c x:=by
 cases h with
 |c x v h=>
  have h1:=h.one;have hu:u.cells=#[u]:=by cases u <;> simp_all[Value.cells,Value.oneCell']
  rw[hu];refine⟨rfl,λj c y e1 e2=>?_⟩
  cases j with
  |zero=>simp[V.cells]at e1 e2;subst e1;subst e2;exact h
  |succ j=>simp[V.cells]at e1
 |ag cs vs hl hh=>
  refine⟨by simpa[Value.cells,V.cells]using hl,λj c y e1 e2=>hh j c y e1 (by simpa[Value.cells]using e2)⟩
 |_=>simp[V.cells]at hn
theorem Qb0j {x:Opd}{x':Operand}{t:TypeId}(hm:o.op=.box t x')(hx:mO x x'=true)
  (hs:Sat H g w) (he:EnvOk w g e a) (hp:p=true) (ho:(FOp.box x).obl p e H):FOk P H g w e a o (.box x):=by
 simp only[FOp.obl]at ho;obtain⟨h1,h2⟩:=ho;have hr:=An he hx hp h1;obtain⟨hz,hc⟩:=FB hr h2;have aR:=Q8m hs (.cells (a.eval x').cells t);refine⟨.pointer (some ⟨w.heap.size,0,none⟩),w.alloc (.cells (a.eval x').cells t),g.newPer w.heap.size,?_,aR,?_,trivial⟩
 ·simp[execOp,hm,Instr.box,newVar,newRow]
 ·simp only[FOp.val];have b7:∀(j:Nat) (c:C),(x.v e).cells[j]? = some c->∃y,(a.eval x').cells[j]? = some y/\RepC w g c y:=by
   intro j c hj;have ae:j<(a.eval x').cells.size:=by
    rw[hz];rcases Jg j (x.v e).cells.length with h|h
    ·exact h
    ·rw[Jf h]at hj;simp at hj
   exact⟨_,Jb ae,hc j c _ hj (Jb ae)⟩
  refine .c _ _ (.pp _ _ 0 (λj=>(a.eval x').cells.getD j undef) (by simp[G.newPer]) (λj c hj=>?_) (λj c hj=>?_))
  ·obtain⟨y,e1,e2⟩:=b7 j c hj;rw[J4,MJ];simp[e1]
  ·obtain⟨y,e1,e2⟩:=b7 j c hj;simp only[Je,e1,J1];exact e2.mono aR.le
theorem Qb0s {f:Nat}{caps:List Opd}{caps':Array Operand}(hm:o.op=.makeFunc (.func f) #[] caps')(hl:caps.length=caps'.size)
  (hx:∀(j:Nat) (x:Opd) (y:Operand),caps[j]? = some x->caps'[j]? = some y->mO x y=true)
  (hs:Sat H g w) (he:EnvOk w g e a) (hp:p=true) (ho:(FOp.mkf f caps).obl p e H):FOk P H g w e a o (.mkf f caps):=by
 simp only[FOp.obl]at ho;refine .mk' hs (v:=.func (.func f) #[] (caps'.toList.map a.eval).toArray) ?_ ?_ trivial
 ·simp only[execOp,hm,Instr.makeFunc,Sem.run_bind,Sem.run_pure,Result.andThen_ok];congr 4 <;> (apply Jab;simp)
 ·simp only[FOp.val];refine .c _ _ (.fn f _ _ Zbd λj c u h1 h2=>?_);simp only[Jj]at h1 h2
  cases hj:caps[j]? with
  |none=>rw[hj]at h1;simp at h1
  |some x=>
   rw[hj]at h1;simp at h1;subst h1
   cases cQ:caps'[j]? with
   |none=>simp[cQ]at h2
   |some y=>
    simp[cQ]at h2;subst h2;obtain⟨f1,f2⟩:=ho x (Jh hj);have:=An he (hx j x y hj cQ) hp f1;rw[Bo f2]at this;exact this.aK
def mOpt:Option Opd->Option Operand->Bool
 |none,none=>true
 |some x,some y=>mO x y
 |_,_=>false
theorem CD (he:EnvOk w g e a)(hp:p=true){x:Option Opd}{y:Option Operand}(h:mOpt x y=true)(hf:optF p x e)(hi:optI x e) :
  y.map a.eval=(x.map λz=>Ag (z.v e)).map λn=>Value.int .i64 n:=by
 cases x with
 |none=>cases y with
  |none=>rfl
  |some _=>simp[mOpt]at h
 |some x=>cases y with
  |none=>simp[mOpt]at h
  |some y=>
   simp only[mOpt]at h;simp only[optF]at hf;simp only[optI]at hi;simp only[Jq,BV he h hp hf hi]
theorem RY (isS:Bool)(len cap:Nat)(lo hi:Option Int)(tq:len<=cap)(hb:bnds lo hi len)(w:World) :
  (Instr.sliceBounds isS len cap (lo.map λn=>Value.int .i64 n) (hi.map λn=>Value.int .i64 n) none).run P w=.ok ((lo.getD 0).toNat,(hi.getD len).toNat,cap) w:=by
 obtain⟨b1,b2,b3⟩:=hb;unfold Instr.sliceBounds
 cases hi with
 |none=>
  cases lo with
  |none=>simp
  |some l=>
   simp only[J1,Jaw]at b1 b2 b3;simp only[Jq,J3,Sem.run_bind,Instr.sliceBound,asIntOf,Sem.run_pure,Result.andThen_ok];rw[if_pos ZD];simp
 |some h=>
  cases lo with
  |none=>
   simp only[J1,Jaw]at b1 b2 b3;simp only[Jq,J3,Sem.run_bind,Instr.sliceBound,asIntOf,Sem.run_pure,Result.andThen_ok];rw[if_pos ZD];simp
  |some l=>
   simp only[J1]at b1 b2 b3;simp only[Jq,Sem.run_bind,Instr.sliceBound,asIntOf,Sem.run_pure,Result.andThen_ok];rw[if_pos ZD];simp only[Sem.run_pure,Result.andThen_ok];rw[if_pos ZD];simp
theorem Qb0v {x:Opd}{lo hi:Option Opd}{x':Operand}{lo' bS:Option Operand}{t el:TypeId}{i:TypeInfo}{sz:Nat}(hm:o.op=.slice t x' lo' bS none)(hu:P.underlying t=some (.slice el))
  (jR:P.info? el=some i) (hz:i.size=sz) (hx:mO x x'=true) (pj:mOpt lo lo'=true) (rY:mOpt hi bS=true)
  (hs:Sat H g w) (he:EnvOk w g e a) (hp:p=true) (ho:(FOp.sli sz x lo hi).obl p e H):FOk P H g w e a o (.sli sz x lo hi):=by
 simp only[FOp.obl]at ho;obtain⟨h1,h2,h3,h4,h5,h6,h7,h8,hb⟩:=ho;have hr:=An he hx hp h1;have el:=CD he hp pj h2 h4;have eh:=CD he hp rY h3 h5;generalize hL:(lo.map λz=>Ag (z.v e))=L at *;generalize hU:(hi.map λz=>Ag (z.v e))=U at *;rw[Bo h6]at hr;generalize hq:a.eval x'=vv at hr;have run:∀(ad:Option Addr) (len cap:Nat),vv=.slice ad len cap->len<=cap->bnds L U len->
   (execOp a.eval o).run P w=.ok (.value (.slice (if cap=(L.getD 0).toNat then ad else ad.map (·.add ((L.getD 0).toNat * sz))) ((U.getD len).toNat-(L.getD 0).toNat) (cap-(L.getD 0).toNat))) w:=by
  intro ad len cap hv tq hbb;simp only[execOp,hm,hq,hv,Instr.sliceAt,Sem.run_bind,Ao hu,Result.andThen_ok,el,eh,J3,Instr.slice,RY (P:=P) true len cap L U tq hbb w,Bh jR,hz,Sem.run_pure]
 have fin:∀r v,(execOp a.eval o).run P w=.ok (.value v) w->RepC w g r v->sliC L U (x.v e).c1=r->FOk P H g w e a o (.sli sz x lo hi):=by
  intro r v h1 h2 h3;refine .mk' hs h1 ?_ trivial;simp only[FOp.val,hL,hU,h3];exact .c _ _ h2
 generalize hc:(x.v e).c1=cc at *;have jB:=hr.aK
 cases jB with
 |ca fl sz' ad=>
  have aU:bnds L U 0:=hb;have cI:=aU;obtain⟨b1,b2,b3⟩:=cI;refine fin (sliC L U (.sl fl sz' [])) _ (run ad 0 0 rfl (Jv _) aU) ?_ rfl;have e1:(L.getD 0).toNat=0:=ZD
  have e2:(U.getD ((0:Nat):Int)).toNat=0:=ZD
  simp only[e1,e2,sliC];simp;exact .ca _ _ _
 |sl fl sz' rows b off cap val hl hf eL da eY qq nw=>
  simp only[ax]at hb;simp only[C.aN]at h8;subst h8;obtain⟨b1,b2,b3⟩:=hb;refine fin (sliC L U (.sl fl sz' rows)) _ (run _ _ cap rfl eL ⟨b1,b2,b3⟩) ?_ rfl;simp only[sliC];generalize nG:(L.getD 0).toNat=ln;generalize qP:(U.getD (rows.length:Int)).toNat=un;have q1:ln<=un:=ZD
  have q2:un<=rows.length:=ZD
  have ak:((rows.take un).drop ln).length=un-ln:=ZJ
  have a8:∀(i:Nat) (row:List C),((rows.take un).drop ln)[i]? = some row->rows[ln+i]? = some row:=by
   intro i row hi;simp only[Jt,Jo]at hi;split at hi
   ·exact hi
   ·simp at hi
  by_cases cB:cap=ln
  ·rw[if_pos cB];have kP:(rows.take un).drop ln=[]:=Jy.1 ZD;have q3:un-ln=0:=ZD
   have q4:cap-ln=0:=ZD
   rw[kP,q3,q4];exact RepC.sl _ _ [] b off 0 val (by simp[Cp]) ZF ZF da ZF ZF ZF
  ·rw[if_neg cB];simp only[Jq,BT];rw[<-ak];refine .sl _ _ _ b _ _ (λi j=>val (ln+i) j) ZX (λfz=>?_) ZX da (λi row h=>eY _ _ (a8 i row h)) (λi row j c h hj=>?_) (λi row j c h hj=>nw _ _ _ _ (a8 i row h) hj)
   ·rw[Ja]at fz;rcases Jad _ _▸fz.2 with h0|h0
    ·have:U=none:=(by simpa using h0);subst this;simp at qP;rw[ak,hf fz.1];omega
    ·have:rows=[]:=(by simpa using h0);subst this;have:=hf fz.1;simp at this q2;omega
   ·have:=qq _ _ _ _ (a8 i row h) hj;rw[<-this];congr 2;rw[Jm];omega
 |bZ l sz' st ad=>
  have aU:bnds L U 0:=hb;have cI:=aU;obtain⟨b1,b2,b3⟩:=cI;refine fin (sliC L U (.ah l sz' st 0)) _ (run ad 0 0 rfl (Jv _) aU) ?_ rfl;have e1:(L.getD 0).toNat=0:=ZD
  have e2:(U.getD ((0:Nat):Int)).toNat=0:=ZD
  simp only[e1,e2,sliC];simp;exact .bZ _ _ _ _
 |ah l sz' st n cap b base T m cg hn gN eB=>
  simp only[ax]at hb;simp only[C.aN]at h8;subst h8;obtain⟨b1,b2,b3⟩:=hb;refine fin (sliC L U (.ah l sz' st n)) _ (run _ _ cap rfl hn ⟨b1,b2,b3⟩) ?_ rfl;simp only[sliC];generalize nG:(L.getD 0).toNat=ln;generalize qP:(U.getD (n:Int)).toNat=un;by_cases cB:cap=ln
  ·rw[if_pos cB];have q3:un-ln=0:=ZD
   have q4:cap-ln=0:=ZD
   rw[q3,q4];exact .bZ _ _ _ _
  ·rw[if_neg cB];simp only[Jq,BT];have:base+st * sz'+ln * sz'=base+(st+ln) * sz':=Zav
   rw[this];refine .ah _ _ _ _ _ b base T m cg ZD gN ?_;have:st+ln+(cap-ln)=st+cap:=ZD
   rw[this];exact eB
 |_=>simp[aZ]at h7
theorem TX {x:Opd}{lo hi:Option Opd}{x':Operand}{lo' bS:Option Operand}{t:TypeId}(hm:o.op=.slice t x' lo' bS none)(hu:P.underlying t=some .string)
  (hx:mO x x'=true) (pj:mOpt lo lo'=true) (rY:mOpt hi bS=true)
  (hs:Sat H g w) (he:EnvOk w g e a) (hp:p=true) (ho:(FOp.slis x lo hi).obl p e H):FOk P H g w e a o (.slis x lo hi):=by
 simp only[FOp.obl]at ho;obtain⟨h1,h2,h3,h4,h5,hb⟩:=ho;have hr:=An he hx hp h1;have el:=CD he hp pj h2 h4;have eh:=CD he hp rY h3 h5;generalize hL:(lo.map λz=>Ag (z.v e))=L at *;generalize hU:(hi.map λz=>Ag (z.v e))=U at *;split at hb
 ·rename_i s hv
  rw[hv]at hr;obtain⟨hq,hl⟩:=hr.aK.str_inv;have jh:(⟨s.toArray⟩:ByteArray).extract (L.getD 0).toNat (U.getD s.length).toNat=⟨((s.take (U.getD s.length).toNat).drop (L.getD 0).toNat).toArray⟩:=by
   apply Jbb;apply Jab;simp[J9,Ja7]
  refine .mk' hs (v:=.string ⟨((s.take (U.getD s.length).toNat).drop (L.getD 0).toNat).toArray⟩) ?_ ?_ trivial
  ·simp only[execOp,hm,hq,Instr.sliceAt,Sem.run_bind,Ao hu,Result.andThen_ok,el,eh,J3,Instr.slice,Dv,Sem.run_pure];simp only[Option.isSome_none,Jr,if_false,Sem.run_bind,Sem.run_pure,Result.andThen_ok];rw[RY (P:=P) false s.length s.length L U (Jv _) hb w];simp[jh]
  ·simp only[FOp.val,hv,hL,hU];refine .c _ _ (.str _ ?_);simp;omega
 ·exact hb.elim
theorem s_iaa {sz n:Nat}{x y:Opd}{x' y':Operand}{t el:TypeId}{i:TypeInfo}(hm:o.op=.indexAddr t x' y')(hu:P.underlying t=some (.array n el))
  (hi:P.info? el=some i) (hz:i.size=sz) (hx:mO x x'=true) (hy:mO y y'=true)
  (hs:Sat H g w) (he:EnvOk w g e a) (hp:p=true) (ho:(FOp.iaa sz n x y).obl p e H):FOk P H g w e a o (.iaa sz n x y):=by
 simp only[FOp.obl]at ho;obtain⟨h1,h2,h6,h7,h8,h9⟩:=ho;have hr:=An he hx hp h1;have hn:=BV he hy hp h2 h6;split at h9
 ·rename_i l k hv
  rw[hv]at hr;have dy:=hr.aK;generalize hq:a.eval x'=xv at dy
  cases dy with
  |ptr _ _ b s base cg=>
   refine .mk' hs (v:=.pointer (some ⟨b,base+k+(Ag (y.v e)).toNat * sz,none⟩)) ?_ ?_ trivial
   ·simp only[execOp,hm,hq,hn,Instr.indexAt,Sem.run_bind,asIntOf,Sem.run_pure,Result.andThen_ok,Ao hu,Instr.sureAddr];rw[if_pos ⟨h7,h8⟩];simp[Bh hi,hz,BT]
   ·simp only[FOp.val,hv];have e:base+k+(Ag (y.v e)).toNat * sz=base+(k+(Ag (y.v e)).toNat * sz):=ZD;rw[e];exact .c _ _ (.ptr l _ b s base cg)
 ·exact h9.elim
theorem s_ldg {n b l:Nat}{t:TypeId}{d:TypeDesc}{i:TypeInfo}(hm:o.op=.load t (.global b))(hu:P.underlying t=some d)(hi:P.info? t=some i)(ha:BD d=true)(hn:i.size=n)
  (hs:Sat H g w) (ho:(FOp.ldg n b l).obl p e H):FOk P H g w e a o (.ldg n b l):=by
 simp only[FOp.obl]at ho;split at ho
 ·rename_i b' cells hH
  obtain⟨rfl,h2⟩:=ho;have aX:=hs.objs l;rw[hH]at aX;obtain⟨s,val,k1,k2,k3,k4⟩:=aX;have hq:a.eval (.global b')=.pointer (some ⟨b',0,none⟩):=rfl;have hc:∀j,j<n->w.cell? ⟨b',0+j,none⟩=some (val j):=λj hj=>by
   rw[J4];exact k3 j _ (Jd ZD)
  have hr:=Fh hu hi w b' 0 n val (λ_=>hn) (λh=>by rw[ha]at h;simp at h) hc;refine .mk' hs (v:=.agg ((List.range n).map val).toArray) ?_ ?_ trivial
  ·simp only[execOp,hm,hq,Instr.loadAt,Instr.sureAddr,Sem.run_bind,Sem.run_pure,Result.andThen_ok,hr,ha,if_true]
  ·simp only[FOp.val,hH];refine .ag _ _ ZJ λj c u h1 h2=>?_;rw[Jo]at h1;split at h1
   ·rename_i hj
    simp[hj]at h2;subst h2;exact k4 j c h1
   ·simp at h1
 ·exact ho.elim
theorem s_ldo {b l:Nat}{t:TypeId}{d:TypeDesc}{i:TypeInfo}(hm:o.op=.load t (.global b))(hu:P.underlying t=some d)(hi:P.info? t=some i)(ha:BD d=false)
  (hs:Sat H g w) (ho:(FOp.ldo b l).obl p e H):FOk P H g w e a o (.ldo b l):=by
 simp only[FOp.obl]at ho;split at ho
 ·rename_i b' cells hH
  obtain⟨rfl,h2⟩:=ho;have aX:=hs.objs l;rw[hH]at aX;obtain⟨s,val,k1,k2,k3,k4⟩:=aX;have hq:a.eval (.global b')=.pointer (some ⟨b',0,none⟩):=rfl;have h0:cells[0]? = some (cells.headD .unk):=by
   cases cells with
   |nil=>simp at h2
   |cons c r=>rfl
  have hc:∀j,j<1->w.cell? ⟨b',0+j,none⟩=some (val j):=λj hj=>by
   obtain rfl:j=0:=ZD
   exact k3 0 _ h0
  have hr:=Fh hu hi w b' 0 1 val (λh=>by rw[ha]at h;simp at h) (λ_=>rfl) hc;refine .mk' hs (v:=val 0) ?_ ?_ trivial
  ·simp only[execOp,hm,hq,Instr.loadAt,Instr.sureAddr,Sem.run_bind,Sem.run_pure,Result.andThen_ok,hr,ha];simp
  ·simp only[FOp.val,hH];exact .c _ _ (k4 0 _ h0)
 ·exact ho.elim
theorem s_aslg {n b l:Nat}{t el:TypeId}{i:TypeInfo}(hm:o.op=.slice t (.global b) none none none)(dx:P.underlying t=some (.array n el))(jR:P.info? el=some i)
  (hs:Sat H g w) (ho:(FOp.aslg n b l).obl p e H):FOk P H g w e a o (.aslg n b l):=by
 simp only[FOp.obl]at ho;split at ho
 ·rename_i b' cells hH
  obtain⟨rfl,h2,h3⟩:=ho;have aX:=hs.objs l;rw[hH]at aX;obtain⟨s,val,k1,k2,k3,k4⟩:=aX;have hq:a.eval (.global b')=.pointer (some ⟨b',0,none⟩):=rfl;have ak:((cells.take n).map λc=>[c]).length=n:=ZJ
  have a8:∀(k:Nat) (row:List C),((cells.take n).map λc=>[c])[k]? = some row->∃c,row=[c]/\cells[k]? = some c:=by
   intro k row hk;rw[Jj,Jo]at hk;split at hk
   ·cases jB:cells[k]? with
    |none=>rw[jB]at hk;simp at hk
    |some c=>rw[jB]at hk;simp at hk;exact⟨c,hk.symm,rfl⟩
   ·simp at hk
  refine .mk' hs (v:=.slice (some ⟨b',0,none⟩) n n) ?_ ?_ trivial
  ·by_cases hn:n=0
   ·subst hn;simp[execOp,hm,hq,Instr.sliceAt,Ao dx,Instr.sureAddr,Instr.sliceBounds,Bh jR,Sem.run_pure]
   ·simp[execOp,hm,hq,Instr.sliceAt,Ao dx,Instr.sureAddr,Instr.sliceBounds,Bh jR,Sem.run_pure,hn,BT]
  ·simp only[FOp.val,hH];have:=RepC.sl (w:=w) (g:=g) true 1 ((cells.take n).map λc=>[c]) b' 0 n (λk _=>val k) ZX (λ_=>ak.symm) ZX k2
    (λk row hk=>by obtain⟨c,rfl,_⟩:=a8 k row hk;rfl)
    (λk row j c hk hj=>by
     obtain⟨c',rfl,cq⟩:=a8 k row hk
     cases j with
     |zero=>simpa using k3 k c' cq
     |succ j=>simp at hj)
    (λk row j c hk hj=>by
     obtain⟨c',rfl,cq⟩:=a8 k row hk
     cases j with
     |zero=>simp at hj;subst hj;exact k4 k _ cq
     |succ j=>simp at hj)
   rw[ak]at this;exact .c _ _ this
 ·exact ho.elim
theorem s_iax {sz n:Nat}{x y:Opd}{x' y':Operand}{t el:TypeId}{d:TypeDesc}{i:TypeInfo}(hm:o.op=.index t x' y')(hu:P.underlying t=some (.array n el))
  (hd:P.underlying el=some d) (ha:BD d=true) (hi:P.info? el=some i) (hz:i.size=sz) (hx:mO x x'=true) (hy:mO y y'=true)
  (hs:Sat H g w) (he:EnvOk w g e a) (hp:p=true) (ho:(FOp.iax sz n x y).obl p e H):FOk P H g w e a o (.iax sz n x y):=by
 simp only[FOp.obl]at ho;obtain⟨h1,h2,h6,h7,h8,h9,dg⟩:=ho;have hr:=An he hx hp h1;have hn:=BV he hy hp h2 h6;have hv:∃cs,x.v e=.ag cs:=by cases hv:x.v e <;> simp_all[V.isAg]
 obtain⟨cs,hv⟩:=hv;rw[hv]at hr dg;simp only[V.cells]at dg;obtain⟨vs,hq,hl,hh⟩:=hr.ag_inv;refine .mk' hs (v:=.agg ((vs.drop ((Ag (y.v e)).toNat * sz)).take sz).toArray) ?_ ?_ trivial
 ·simp only[execOp,hm,hq,hn,Instr.index,Sem.run_bind,asIntOf,Sem.run_pure,Result.andThen_ok,Ao hu];rw[if_pos ⟨h7,h8⟩];simp only[Sem.run_bind,Bh hi,hz,Result.andThen_ok,part,D1 hd,ha,if_true,Sem.run_pure];congr 4;apply Jab;simp[J9,Ja7]
 ·simp only[FOp.val,hv,V.cells];refine .ag _ _ Zbd λj c u h1 h2=>?_;simp only[Jo,Jt]at h1 h2;split at h1
  ·rename_i hj;rw[if_pos hj]at h2;exact hh _ _ _ h1 h2
  ·simp at h1
theorem s_aslp {n:Nat}{x:Opd}{x':Operand}{hi:Option Opd}{bS:Option Operand}{t el:TypeId}{i:TypeInfo}(hm:o.op=.slice t x' none bS none)(dx:P.underlying t=some (.array n el))
  (jR:P.info? el=some i) (hx:mO x x'=true) (rY:mOpt hi bS=true)
  (hs:Sat H g w) (he:EnvOk w g e a) (hp:p=true) (ho:(FOp.aslp n x hi).obl p e H):FOk P H g w e a o (.aslp n x hi):=by
 simp only[FOp.obl]at ho;obtain⟨h1,h3,h5,hb,eu,h2⟩:=ho;have hr:=An he hx hp h1;have eh:=CD he hp rY h3 h5;have kO:(hi.map λz=>Ag (z.v e)).isNone=hi.isNone:=by cases hi <;> rfl
 split at h2
 ·rename_i cells hv
  rw[hv]at hr;have dy:=hr.aK;generalize hq:a.eval x'=xv at dy
  cases dy with
  |pp _ b off val da hc nw=>
   have eV:(FOp.aslp n x hi).val e H=.c (.sl hi.isNone 1 ((cells.take ((hi.map λx=>Ag (x.v e)).getD n).toNat).map λc=>[c])):=by simp only[FOp.val,hv]
   rw[<-kO]at eV;generalize hU:(hi.map λz=>Ag (z.v e))=U at *;have cO:=RY (P:=P) false n n none U (Jv _) hb w;have fw:=hb;obtain⟨b1,b2,b3⟩:=fw;simp only[Jaw,J3]at b1 b2 b3 cO;have e0:(U.getD (n:Int)).toNat<=n:=ZD
   refine .mk' hs (v:=.slice (some ⟨b,off,none⟩) (U.getD n).toNat n) ?_ ?_ trivial
   ·simp only[execOp,hm,hq,Instr.sliceAt,Sem.run_bind,Ao dx,Result.andThen_ok,Instr.sureAddr,Sem.run_pure,eh,J3,cO,Bh jR];have ha:(⟨b,off,none⟩:Addr).add (0 * i.size)=⟨b,off,none⟩:=(by rw[Nat.zero_mul,BT,Jz]);by_cases hn:n=0
    ·subst hn;simp
    ·simp[hn,ha];try rw[BT,Jz]
   ·rw[eV];have ak:((cells.take (U.getD (n:Int)).toNat).map λc=>[c]).length=(U.getD (n:Int)).toNat:=ZJ;have a8:∀(k:Nat) (row:List C),((cells.take (U.getD (n:Int)).toNat).map λc=>[c])[k]? = some row->∃c,row=[c]/\cells[k]? = some c:=by
     intro k row hk;rw[Jj,Jo]at hk;split at hk
     ·cases jB:cells[k]? with
      |none=>rw[jB]at hk;simp at hk
      |some c=>rw[jB]at hk;simp at hk;exact⟨c,hk.symm,rfl⟩
     ·simp at hk
    have:=RepC.sl (w:=w) (g:=g) U.isNone 1 ((cells.take (U.getD (n:Int)).toNat).map λc=>[c]) b off n (λk _=>val k) ZX
     (λhu=>by
      have:U=none:=(by simpa using hu);subst this;rw[ak];simp) ZX da (λk row hk=>by obtain⟨c,rfl,_⟩:=a8 k row hk;rfl)
     (λk row j c hk hj=>by
      obtain⟨c',rfl,cq⟩:=a8 k row hk
      cases j with
      |zero=>simp only[Nat.mul_one,Jz];exact hc k c' cq
      |succ j=>simp at hj)
     (λk row j c hk hj=>by
      obtain⟨c',rfl,cq⟩:=a8 k row hk
      cases j with
      |zero=>simp at hj;subst hj;exact nw k c' cq
      |succ j=>simp at hj)
    rw[ak]at this;exact .c _ _ this
 ·exact h2.elim
theorem s_slm {sz:Nat}{x hi:Opd}{x' pY tK:Operand}{t el:TypeId}{i:TypeInfo}(hm:o.op=.slice t x' none (some pY) (some tK))(hu:P.underlying t=some (.slice el))
  (jR:P.info? el=some i) (hx:mO x x'=true) (hh1:mO hi pY=true) (hh2:mO hi tK=true)
  (hs:Sat H g w) (he:EnvOk w g e a) (hp:p=true) (ho:(FOp.slm sz x hi).obl p e H):FOk P H g w e a o (.slm sz x hi):=by
 simp only[FOp.obl]at ho;obtain⟨h1,h2,h3,h4,h5⟩:=ho;have hr:=An he hx hp h1;have e1:=BV he hh1 hp h2 h3;have e2:=BV he hh2 hp h2 h3;split at h5
 ·rename_i fl z rows hv
  obtain⟨rfl,h6⟩:=h5;rw[hv]at hr;have dy:=hr.aK;have eV:(FOp.slm z x hi).val e H=.c (.sl true z (rows.take (Ag (hi.v e)).toNat)):=by simp only[FOp.val,hv]
  generalize Ag (hi.v e)=n at *;obtain⟨n,rfl⟩:=Int.eq_ofNat_of_zero_le h4;have h7:n<=rows.length:=ZD
  simp only[Jaq]at eV;generalize hq:a.eval x'=xv at dy;have run:∀(ad:Option Addr) (len cap:Nat),xv=.slice ad len cap->n<=cap->
    (execOp a.eval o).run P w=.ok (.value (.slice (if n=0 then ad else ad.map (·.add (0 * i.size))) n n)) w:=by
   intro ad len cap jm eL;have hb:(Instr.sliceBounds true len cap none (some (.int .i64 (n:Int))) (some (.int .i64 (n:Int)))).run P w=.ok (0,n,n) w:=by
    unfold Instr.sliceBounds;simp only[Sem.run_bind,Instr.sliceBound,asIntOf,Sem.run_pure,Result.andThen_ok];rw[if_pos ⟨Jbc _,ZD⟩];simp only[Sem.run_pure,Result.andThen_ok,Jaq];rw[if_pos ⟨Jbc _,Int.le_refl _⟩];simp only[Sem.run_pure,Result.andThen_ok,Jaq]
   simp only[execOp,hm,hq,jm,Instr.sliceAt,Sem.run_bind,Ao hu,Result.andThen_ok,e1,e2,Jq,J3,Instr.slice,hb,Bh jR,Sem.run_pure,Nat.sub_zero]
  cases dy with
  |ca _ _ ad=>
   have h0:n=0:=by simpa using h7
   subst h0;refine .mk' hs (run ad 0 0 rfl (Jv _)) ?_ trivial;rw[eV];exact .c _ _ (.ca _ _ _)
  |sl _ _ _ b off cap val hl hf eL da eY qq nw=>
   refine .mk' hs (run _ _ cap rfl ZD) ?_ trivial;rw[eV];have ha:(if n=0 then (some ⟨b,off,none⟩:Option Addr)else (some ⟨b,off,none⟩:Option Addr).map (·.add (0 * i.size)))=some ⟨b,off,none⟩:=by
    split
    ·rfl
    ·simp only[Jq,Nat.zero_mul,BT,Jz]
   rw[ha];have ak:(rows.take n).length=n:=ZJ
   have a8:∀(k:Nat) (row:List C),(rows.take n)[k]? = some row->rows[k]? = some row:=by
    intro k row hk;rw[Jo]at hk;split at hk
    ·exact hk
    ·simp at hk
   have:=RepC.sl (w:=w) (g:=g) true z (rows.take n) b off n val ZX (λ_=>by rw[ak]) (by rw[ak];exact Jv _) da (λk row hk=>eY _ _ (a8 k row hk))
    (λk row j c hk hj=>qq _ _ _ _ (a8 k row hk) hj) (λk row j c hk hj=>nw _ _ _ _ (a8 k row hk) hj)
   rw[ak]at this;exact .c _ _ this
 ·exact h5.elim
theorem Qb0o {off n:Nat}{agg:Bool}{x:Opd}{x':Operand}{s:TypeId}{k:Nat}{fs:Array Field}{f:Field}{i:TypeInfo}{d:TypeDesc}(hm:o.op=.field s x' k)(hu:P.underlying s=some (.struct fs))
  (hf:fs[k]? = some f) (mz:f.offset=off) (hi:P.info? f.type=some i) (hd:P.underlying f.type=some d) (ha:BD d=agg) (hn:agg=true->i.size=n) (dz:agg=false->n=1) (hx:mO x x'=true)
  (hs:Sat H g w) (he:EnvOk w g e a) (hp:p=true) (ho:(FOp.fld off n agg x).obl p e H):FOk P H g w e a o (.fld off n agg x):=by
 simp only[FOp.obl]at ho;obtain⟨h1,h2,h3⟩:=ho;have hr:=An he hx hp h1;have hv:∃cs,x.v e=.ag cs:=by cases hv:x.v e <;> simp_all[V.isAg]
 obtain⟨cs,hv⟩:=hv;rw[hv]at hr h3;simp only[V.cells]at h3;obtain⟨vs,hq,hl,hh⟩:=hr.ag_inv
 cases agg with
 |true=>
  have hz:=hn rfl;refine .mk' hs (v:=.agg ((vs.drop off).take n).toArray) ?_ ?_ trivial
  ·simp only[execOp,hm,hq,Instr.field,Sem.run_bind,Ao hu,Result.andThen_ok,hf,asAgg,Sem.run_pure,part,D1 hd,ha,if_true,Bh hi,hz,mz];congr 4;apply Jab;simp[J9,Ja7]
  ·simp only[FOp.val,BM,hv,V.cells,if_true];refine .ag _ _ ZJ λj c u h1 h2=>?_;simp only[Jo,Jt]at h1 h2;split at h1
   ·rename_i hj;rw[if_pos hj]at h2;exact hh _ _ _ h1 h2
   ·simp at h1
 |false=>
  have hz:=dz rfl;subst hz;have ae:off<vs.length:=ZD
  refine .mk' hs (v:=vs[off]) ?_ ?_ trivial
  ·simp only[execOp,hm,hq,Instr.field,Sem.run_bind,Ao hu,Result.andThen_ok,hf,asAgg,Sem.run_pure,part,D1 hd,ha,mz];simp[ae]
  ·simp only[FOp.val,BM,hv,V.cells,Jr,if_false];have eo:off<cs.length:=ZD
   have:((cs.drop off).take 1).headD .unk=cs[off]:=by
    rw[List.drop_eq_getElem_cons eo];rfl
   rw[this];exact .c _ _ (hh off _ _ (Jd eo) (Jd ae))
theorem OQ (off:Nat):∀(vs:List Value) (s:Nat) (cs:Array Value) (k:Nat),off+s+vs.length<=cs.size->
  ((vs.zipIdx s).foldl (λ(cs:Array Value) (x:Value×Nat)=>cs.setIfInBounds (off+x.2) x.1) cs).size=cs.size/\
  ((vs.zipIdx s).foldl (λ(cs:Array Value) (x:Value×Nat)=>cs.setIfInBounds (off+x.2) x.1) cs)[k]? =
   if off+s<=k/\k<off+s+vs.length then vs[k-(off+s)]? else cs[k]?
 |[],s,cs,k,_=>by
  refine⟨rfl,?_⟩;rw[if_neg (by simp only[Ja1];omega)];rfl
 |v::vs,s,cs,k,h=>by
  simp only[J7]at h;have ih:=OQ off vs (s+1) (cs.setIfInBounds (off+s) v) k ZJ;simp only[List.zipIdx_cons,List.foldl_cons];refine⟨by rw[ih.1];simp,?_⟩;rw[ih.2];simp only[J7];by_cases h1:off+(s+1)<=k/\k<off+(s+1)+vs.length
  ·rw[if_pos h1,if_pos ZD];have:k-(off+s)=(k-(off+(s+1)))+1:=ZD
   rw[this,List.getElem?_cons_succ]
  ·rw[if_neg h1];by_cases h2:k=off+s
   ·subst h2;rw[if_pos ZD];simp only[Nat.sub_self,List.getElem?_cons_zero];rw[Jx ZD]
   ·rw[if_neg ZD,Js ZD]
theorem IE {place:Nat->Option (Nat×Nat)}{cells:Array Value}{i off sz:Nat}{v:Value}{rest:List (Nat×Value)}(hp:place i=some (off,sz))(hz:v.cells.size=sz)
  (hb:off+sz<=cells.size):∃cs:Array Value,Instr.fill place cells ((i,v)::rest)=Instr.fill place cs rest/\cs.size=cells.size/\
   ∀k,cs[k]? = if off<=k/\k<off+sz then v.cells[k-off]? else cells[k]?:=by
 have hf:=λk=>OQ off v.cells.toList 0 cells k ZJ;refine⟨v.cells.zipIdx.foldl (λ(cs:Array Value) (x:Value×Nat)=>cs.setIfInBounds (off+x.2) x.1) cells,?_,?_,λk=>?_⟩
 ·simp only[Instr.fill,hp];rw[if_neg ZJ]
 ·rw[<-Jba,Ja8];exact (hf 0).1
 ·rw[<-Jba,Ja8,(hf k).2];simp only[Jz,Array.length_toList,hz,Ju]
def RepL (w:World)(g:G)(cs:List C)(vs:Array Value):Prop:=
 vs.size=cs.length/\∀(j:Nat) (c:C) (u:Value),cs[j]? = some c->vs[j]? = some u->RepC w g c u
theorem RepL.put {cs ps:List C}{vs us vs':Array Value}{off:Nat}(h:RepL w g cs vs)(hp:RepL w g ps us)(hb:off+ps.length<=cs.length)(bj:vs'.size=vs.size)
  (hv:∀k,vs'[k]? = if off<=k/\k<off+ps.length then us[k-off]? else vs[k]?) :
  RepL w g (cs.take off++ps++cs.drop (off+ps.length)) vs':=by
 refine⟨by rw[bj,h.1];simp;omega,λj c u h1 h2=>?_⟩;rw[hv]at h2;by_cases hj:off<=j/\j<off+ps.length
 ·rw[if_pos hj]at h2;rw[Jw,Jn ZJ,Jl ZJ]at h1;refine hp.2 _ c u ?_ h2;rw[<-h1];congr 1;simp;omega
 ·rw[if_neg hj]at h2;refine h.2 j c u ?_ h2;by_cases hl:j<off
  ·rw[Jw,Jl ZJ,Jo,if_pos hl]at h1;exact h1
  ·rw[Jn ZJ,Jt]at h1;rw[<-h1];congr 1;simp;omega
def Ep:C->Value->Bool
 |.int k n,.int k' n'=>k == k'&&n == n'
 |.bool b,.bool b'=>b == b'
 |.str [],.string b=>decide (b.data.toList=[])
 |.sl _ _ [],.slice none 0 0=>true
 |.pnil,.pointer none=>true
 |.mnil,.map none=>true
 |.fnil,.nilFunc=>true
 |_,_=>false
theorem Qbra {c:C}{v:Value}(h:Ep c v=true):RepC w g c v:=by
 unfold Ep at h;split at h
 ·simp at h;obtain⟨rfl,rfl⟩:=h;exact .int _ _
 ·simp at h;subst h;exact .bool _
 ·rename_i b
  have hb:b=⟨([]:List UInt8).toArray⟩:=by
   apply Jbb;apply Jab;simpa using h
  rw[hb];exact .str _ (by simp[Cp])
 ·exact .ca _ _ _
 ·exact .pnil
 ·exact .mnil
 ·exact .fnil
 ·simp at h
def B5 (cs:List C)(v:Value):Bool:=cs.length == v.cells.size&&(cs.zip v.cells.toList).all λx=>Ep x.1 x.2
theorem GH {cs:List C}{v:Value}(h:B5 cs v=true):RepL w g cs v.cells:=by
 unfold B5 at h;rw[Ja,Jaa]at h;obtain⟨h1,h2⟩:=h;refine⟨by simpa using (beq_iff_eq.1 h1).symm,λj c u e1 e2=>Qbra (h2 (c,u) ?_)⟩;have:(cs.zip v.cells.toList)[j]? = some (c,u):=by
  rw[Jao];exact⟨e1,Zab⟩
 exact Jh this
theorem Eb {t:TypeId}{i:TypeInfo}{z:Value}(hi:P.info? t=some i)(hz:i.zero=some z)(w:World):(zeroValue t).run P w=.ok z w:=by
 simp[zeroValue,GU hi,hz]
theorem Qau8 (fs:List Field)(h:∀f∈fs,∃i,P.info? f.type=some i)(w:World) :
  (fs.mapM λf=>(do pure (f.offset,<-sizeOf f.type):Sem (Nat×Nat))).run P w=.ok (fs.map λf=>(f.offset,P.cellsOf f.type)) w:=by
 induction fs with
 |nil=>simp
 |cons f fs ih=>
  obtain⟨i,hi⟩:=h f ZF;have ih':=ih λf hf=>h f (by simp[hf]);simp only[List.mapM_cons,Sem.run_bind,Bh hi,Result.andThen_ok,Sem.run_pure,ih',Jbp,Qazm hi]
theorem KQ (place:Nat->Option (Nat×Nat)):∀(parts:List (Nat×Nat×List C)) (ps:List (Nat×Value)) (cells:Array Value) (cs:List C),
  RepL w g cs cells->ps.length=parts.length->
  (∀(j:Nat) (x:Nat×Nat×List C) (y:Nat×Value),parts[j]? = some x->ps[j]? = some y->place y.1=some (x.1,x.2.1)/\x.2.2.length=x.2.1/\x.1+x.2.1<=cs.length/\RepL w g x.2.2 y.2.cells)->
  ∃out,Instr.fill place cells ps=some out/\RepL w g (OM cs (parts.map λx=>(x.1,x.2.2))) out
 |[],[],cells,cs,h,_,_=>⟨cells,rfl,h⟩
 |[],y::ps,_,_,_,hl,_=>by simp at hl
 |x::parts,[],_,_,_,hl,_=>by simp at hl
 |x::parts,(i,v)::ps,cells,cs,h,hl,hh=>by
  obtain⟨h1,h2,h3,h4⟩:=hh 0 x (i,v) rfl rfl;obtain⟨cs',f1,f2,f3⟩:=IE (rest:=ps) (cells:=cells) h1 (by rw[h4.1,h2]) (by rw[h.1];exact h3);have hr:RepL w g (cs.take x.1++x.2.2++cs.drop (x.1+x.2.2.length)) cs':=h.put h4 (by rw[h2];exact h3) f2 (by rw[h2];exact f3);obtain⟨out,o1,o2⟩:=KQ place parts ps cs' _ hr Zaf (λj x' y' e1 e2=>by
   obtain⟨q1,q2,q3,q4⟩:=hh (j+1) x' y' ZaU Zab;refine⟨q1,q2,?_,q4⟩;have:(cs.take x.1++x.2.2++cs.drop (x.1+x.2.2.length)).length=cs.length:=ZJ
   rw[this];exact q3)
  exact⟨out,f1.trans o1,by simpa[OM]using o2⟩
theorem Gm {v:V}{u:Value}(h:RepV w g v u)(hn:v.cells≠[]):RepL w g v.cells u.cells:=FB h hn
theorem Qb0i {zero:List C}{parts:List (Nat×Nat×Opd)}{t:TypeId}{parts':Array (Nat×Operand)}{fs:Array Field}{i:TypeInfo}{z:Value}
  (hm:o.op=.build t parts') (hu:P.underlying t=some (.struct fs)) (hi:P.info? t=some i) (hz:i.zero=some z) (dH:B5 zero z=true)
  (pA:∀f∈fs.toList,∃i,P.info? f.type=some i) (hl:parts.length=parts'.size)
  (hx:∀(j:Nat) (x:Nat×Nat×Opd) (y:Nat×Operand),parts[j]? = some x->parts'[j]? = some y->
   mO x.2.2 y.2=true/\(∃f,fs[y.1]? = some f/\f.offset=x.1/\P.cellsOf f.type=x.2.1)/\x.1+x.2.1<=zero.length/\x.2.1≠0)
  (hs:Sat H g w) (he:EnvOk w g e a) (hp:p=true) (ho:(FOp.bld zero parts).obl p e H):FOk P H g w e a o (.bld zero parts):=by
 simp only[FOp.obl]at ho;have ak:(parts'.toList.map λ(x:Nat×Operand)=>(x.1,a.eval x.2)).length=(parts.map λq=>(q.1,q.2.1,(q.2.2.v e).cells)).length:=Zbd
 obtain⟨out,f1,f2⟩:=KQ (w:=w) (g:=g) (λ(j:Nat)=>(fs.toList.map λf=>(f.offset,P.cellsOf f.type))[j]?) (parts.map λq=>(q.1,q.2.1,(q.2.2.v e).cells))
  (parts'.toList.map λ(x:Nat×Operand)=>(x.1,a.eval x.2)) z.cells zero (GH dH) ak (λj x y e1 e2=>by
   simp only[Jj]at e1 e2
   cases hj:parts[j]? with
   |none=>rw[hj]at e1;simp at e1
   |some q=>
    cases cQ:parts'.toList[j]? with
    |none=>rw[cQ]at e2;simp at e2
    |some y'=>
     rw[hj]at e1;rw[cQ]at e2;simp only[Jq,Jc]at e1 e2;subst e1;subst e2;obtain⟨m1,⟨f,m2,m3,m4⟩,m5,m6⟩:=hx j q y' hj (by simpa using cQ);obtain⟨o1,o2⟩:=ho q (Jh hj);refine⟨?_,o2,m5,Gm (An he m1 hp o1) (λhn=>m6 (by rw[<-o2,hn];rfl))⟩;simp only[Jj,Ju,m2,Jq,m3,m4])
 have iN:(fs.mapM λf=>(do pure (f.offset,<-sizeOf f.type):Sem (Nat×Nat))).run P w=.ok ((fs.toList.map λf=>(f.offset,P.cellsOf f.type)).toArray) w:=by
  rw[Array.mapM_eq_mapM_toList];simp only[Sem.run_map,Qau8 fs.toList pA w,Result.andThen_ok]
 refine .mk' hs (v:=.agg out) ?_ ?_ trivial
 ·simp only[execOp,hm,Instr.build,Sem.run_bind,Eb hi hz,Result.andThen_ok,Ao hu,iN];have:(λ(x:Nat)=>((fs.toList.map λf=>(f.offset,P.cellsOf f.type)).toArray)[x]?)=(λ(j:Nat)=>(fs.toList.map λf=>(f.offset,P.cellsOf f.type))[j]?):=by
   funext j;simp
  rw[this];have rk:(parts'.map λ(x:Nat×Operand)=>(x.1,a.eval x.2)).toList=parts'.toList.map λ(x:Nat×Operand)=>(x.1,a.eval x.2):=ZF
  rw[rk,f1];simp
 ·simp only[FOp.val];have mr:out=out.toList.toArray:=ZF
  rw[mr];refine .ag _ _ ?_ ?_
  ·have:=f2.1;simp only[Jbq,Jbe]at this;simpa using this
  ·intro j c u h1 h2;refine f2.2 j c u ?_ Zag;simpa only[Jbq,Jbe]using h1
theorem F7 (size:Nat):∀(ps:List (Nat×Value)) (s:Nat) (cells:Array Value),(∀(j:Nat) (y:Nat×Value),ps[j]? = some y->y.1=s+j/\y.2.cells.size=size)->
  (s+ps.length) * size<=cells.size->
  ∃out:Array Value,Instr.fill (λi=>some (i * size,size)) cells ps=some out/\out.size=cells.size/\
   (∀k,k<s * size->out[k]? = cells[k]?)/\
   ∀(j:Nat) (y:Nat×Value) (k:Nat),ps[j]? = some y->k<size->out[(s+j) * size+k]? = y.2.cells[k]?
 |[],s,cells,_,_=>⟨cells,rfl,rfl,λ_ _=>rfl,ZF⟩
 |(i,v)::ps,s,cells,h,hb=>by
  obtain⟨h1,h2⟩:=h 0 (i,v) rfl;simp only[Jz]at h1 h2;subst h1;have aU:(i+1+ps.length) * size<=cells.size:=by
   have e:i+((i,v)::ps).length=i+1+ps.length:=by simp only[J7];omega
   rw[e]at hb;exact hb
  have fE:i * size+size<=cells.size:=by
   have:(i+1) * size<=(i+1+ps.length) * size:=Jp _ ZD;rw[Jm,Jaj]at this;omega
  obtain⟨cs,f1,f2,f3⟩:=IE (place:=λi=>some (i * size,size)) (rest:=ps) (cells:=cells) (i:=i) (v:=v) rfl h2 fE;obtain⟨out,o1,o2,o3,o4⟩:=F7 size ps (i+1) cs (λj y hj=>by
   have:=h (j+1) y Zac;exact⟨by rw[this.1];omega,this.2⟩) (by rw[f2];exact aU)
  refine⟨out,f1.trans o1,o2.trans f2,λk hk=>?_,λj y k hj hk=>?_⟩
  ·rw[o3 k Zav,f3 k,if_neg ZD]
  ·cases j with
   |zero=>
    simp at hj;subst hj;simp only[Jz];rw[o3 _ Zav,f3 _,if_pos ZD];congr 1;omega
   |succ j=>
    have:=o4 j y k Zac hk;rw[<-this];congr 3;omega
theorem Qb0k {sz:Nat}{parts:List Opd}{t el:TypeId}{n:Nat}{parts':Array (Nat×Operand)}{i:TypeInfo}{z:Value}
  (hm:o.op=.buildSlice t n parts') (hu:P.underlying t=some (.slice el)) (hi:P.info? el=some i) (hz:i.zero=some z) (bj:i.size=sz) (oE:sz≠0)
  (hn:n=parts'.size) (pM:n * sz<=2 ^ 24) (hl:parts.length=parts'.size)
  (hx:∀(j:Nat) (x:Opd) (y:Nat×Operand),parts[j]? = some x->parts'[j]? = some y->y.1=j/\mO x y.2=true)
  (hs:Sat H g w) (he:EnvOk w g e a) (hp:p=true) (ho:(FOp.aH sz parts).obl p e H):FOk P H g w e a o (.aH sz parts):=by
 simp only[FOp.obl]at ho;have rk:(parts'.map λ(x:Nat×Operand)=>(x.1,a.eval x.2)).toList=parts'.toList.map λ(x:Nat×Operand)=>(x.1,a.eval x.2):=ZF
 have b7:∀(j:Nat) (y:Nat×Value),(parts'.toList.map λ(x:Nat×Operand)=>(x.1,a.eval x.2))[j]? = some y->
   ∃x y',parts[j]? = some x/\parts'[j]? = some y'/\y=(y'.1,a.eval y'.2):=by
  intro j y hj;simp only[Jj]at hj
  cases cQ:parts'.toList[j]? with
  |none=>rw[cQ]at hj;simp at hj
  |some y'=>
   rw[cQ]at hj;simp at hj;have ae:j<parts.length:=by
    rw[hl];rcases Jg j parts'.size with h|h
    ·exact h
    ·simp[Ji h]at cQ
   exact⟨_,y',Jd ae,by simpa using cQ,hj.symm⟩
 have a8:∀x∈parts,x.fine p e/\(x.v e).cells.length=sz/\(x.v e).cells≠[]:=λx hx=>by
  obtain⟨q1,q2⟩:=ho x hx;exact⟨q1,q2,λhn=>oE (by rw[<-q2,hn];rfl)⟩
 have kU:(parts'.toList.map λ(x:Nat×Operand)=>(x.1,a.eval x.2)).length=n:=ZaF
 obtain⟨out,f1,f2,f3,f4⟩:=F7 sz (parts'.toList.map λ(x:Nat×Operand)=>(x.1,a.eval x.2)) 0
  ((Array.range (n * sz)).map ((if n * sz=0 then #[]else z.cells)[· % (if n * sz=0 then #[]else z.cells).size]!)) (λj y hj=>by
   obtain⟨x,y',e1,e2,rfl⟩:=b7 j y hj;obtain⟨q1,q2⟩:=hx j x y' e1 e2;obtain⟨q3,q4,q5⟩:=a8 x (Jh e1);refine⟨by simp[q1],?_⟩;rw[(Gm (An he q2 hp q3) q5).1,q4]) (by rw[kU];simp)
 have aR:=Q8m hs (.cells out el);refine⟨.slice (some ⟨w.heap.size,0,none⟩) n n,w.alloc (.cells out el),g.newPer w.heap.size,?_,aR,?_,trivial⟩
 ·simp only[execOp,hm,Instr.buildSlice,Sem.run_bind,Ao hu,Result.andThen_ok,Bh hi,bj,rk];rw[if_neg ZD];by_cases h0:n * sz=0
  ·simp only[if_pos h0]at f1⊢;simp only[Sem.run_bind,Sem.run_pure,Result.andThen_ok];rw[f1];simp[newRow]
  ·simp only[if_neg h0]at f1⊢;simp only[Sem.run_bind,Sem.run_pure,Result.andThen_ok,Eb hi hz];rw[f1];simp[newRow]
 ·simp only[FOp.val];have fU:(parts.map λx=>(x.v e).cells).length=n:=by simp[hl,hn]
  refine .c _ _ ?_;have fe:∀(k:Nat) (row:List C),(parts.map λx=>(x.v e).cells)[k]? = some row->∃x y,parts[k]? = some x/\parts'[k]? = some y/\row=(x.v e).cells:=by
   intro k row hk;simp only[Jj]at hk
   cases hj:parts[k]? with
   |none=>rw[hj]at hk;simp at hk
   |some x=>
    rw[hj]at hk;simp at hk;have ae:k<parts'.size:=by
     rw[<-hl];rcases Jg k parts.length with h|h
     ·exact h
     ·rw[Jf h]at hj;simp at hj
    exact⟨x,parts'[k],rfl,Jb ae,hk.symm⟩
  have cj:∀(k:Nat) (row:List C) (j:Nat) (c:C),(parts.map λx=>(x.v e).cells)[k]? = some row->row[j]? = some c->∃u,out[0+k * sz+j]? = some u/\RepC w g c u:=by
   intro k row j c hk hj;obtain⟨x,y,e1,e2,rfl⟩:=fe k row hk;obtain⟨q1,q2⟩:=hx k x y e1 e2;obtain⟨q3,q4,q5⟩:=a8 x (Jh e1);have hr:=Gm (An he q2 hp q3) q5;have fH:j<sz:=by
    rw[<-q4];rcases Jg j (x.v e).cells.length with h|h
    ·exact h
    ·rw[Jf h]at hj;simp at hj
   have fK:j<(a.eval y.2).cells.size:=by rw[hr.1,q4];exact fH
   have:=f4 k (y.1,a.eval y.2) j (by simp only[Jj,Ju,e2,Jq]) fH;simp only[J4]at this⊢;rw[this];exact⟨_,Jb fK,hr.2 j c _ hj (Jb fK)⟩
  have:=RepC.sl (w:=w.alloc (.cells out el)) (g:=g.newPer w.heap.size) true sz (parts.map λx=>(x.v e).cells) w.heap.size 0 n (λk j=>out.getD (0+k * sz+j) undef)
   (by rw[fU,Cp]
       have dz:n * 1<=n * sz:=Ja9 _ ZD;have xu:(2:Nat) ^ 24=16777216:=ZR;rw[xu]at pM;omega) (λ_=>fU.symm) (by rw[fU];exact Jv _) (by simp[G.newPer])
   (λk row hk=>by obtain⟨x,y,e1,e2,rfl⟩:=fe k row hk;exact (a8 x (Jh e1)).2.1)
   (λk row j c hk hj=>by
    obtain⟨u,e1,e2⟩:=cj k row j c hk hj;rw[MJ,Je,e1];rfl)
   (λk row j c hk hj=>by
    obtain⟨u,e1,e2⟩:=cj k row j c hk hj;simp only[Je,e1,J1];exact e2.mono aR.le)
  rw[fU]at this;exact this
end Go.AE
namespace Go.AE
open Go.MapKept (IsKey findNow_spec run_checkKey run_findKey run_keyThatStays)
variable {P:Program}{H:Heap}{g:G}{w:World}{e:Env}{a:Act}{o:Oper}{p:Bool}
def tagD:Nat->TypeDesc
 |0=>.int .i64
 |1=>.string
 |_=>.bool
theorem Dz {tag:Nat}{k:C}{es:List (C×V)}(h:Bu tag k es){v:Value}(hr:RepC w g k v):IsKey (tagD tag) v:=by
 unfold Bu at h;split at h
 ·rw[hr.aG];simp[tagD,IsKey]
 ·rw[hr.str_inv.1];simp[tagD,IsKey]
 ·rw[hr.bx];simp[tagD,IsKey]
 ·exact h.elim
theorem Qbsm {tag:Nat}{k:C}{es:List (C×V)}(h:Bu tag k es){x:C×V}(hx:x∈es){v:Value}(hr:RepC w g x.1 v):IsKey (tagD tag) v:=by
 unfold Bu at h;split at h
 ·obtain⟨n,hn⟩:=h x hx;rw[hn]at hr;rw[hr.aG];simp[tagD,IsKey]
 ·obtain⟨n,hn⟩:=h x hx;rw[hn]at hr;rw[hr.str_inv.1];simp[tagD,IsKey]
 ·obtain⟨n,hn⟩:=h x hx;rw[hn]at hr;rw[hr.bx];simp[tagD,IsKey]
 ·exact h.elim
theorem Dl {tag:Nat}{k:C}{es:List (C×V)}(h:Bu tag k es){x:C×V}(hx:x∈es){u v:Value}(hr:RepC w g k u)(bh:RepC w g x.1 v) :
  AD k x.1=true↔v=u:=by
 unfold Bu at h;split at h
 ·obtain⟨n,hn⟩:=h x hx;rw[hn]at bh⊢;rw[bh.aG,hr.aG];simp only[AD,decide_eq_true_eq,Value.int.injEq,true_and];exact eq_comm
 ·obtain⟨n,hn⟩:=h x hx;rw[hn]at bh⊢;rw[bh.str_inv.1,hr.str_inv.1];simp only[AD,decide_eq_true_eq,Value.string.injEq,Jbs,Array.mk.injEq];exact eq_comm
 ·obtain⟨n,hn⟩:=h x hx;rw[hn]at bh⊢;rw[bh.bx,hr.bx];simp only[AD,beq_iff_eq,Value.bool.injEq];exact eq_comm
 ·exact h.elim
theorem ID:∀(es:List (C×V)) (k:C) (j:Nat) (x:C×V),es[j]? = some x->AD k x.1=true->(∀i y,i<j->es[i]? = some y->AD k y.1=false)->AO k es=some x.2
 |[],_,_,_,h,_,_=>ZK
 |y::es,k,0,x,h,hk,_=>by simp at h;subst h;simp[AO,hk]
 |y::es,k,j+1,x,h,hk,hh=>by
  have h0:=hh 0 y ZD rfl;simp only[AO,h0,Jr,if_false];exact ID es k j x ZP hk λi z hi hz=>hh (i+1) z ZD ZaG
theorem KO:∀(es:List (C×V)) (k:C),(∀x∈es,AD k x.1=false)->AO k es=none
 |[],_,_=>rfl
 |y::es,k,h=>by
  simp only[AO,h y ZF,Jr,if_false];exact KO es k λx hx=>h x Za0
theorem IC {tag:Nat}{k:C}{es:List (C×V)}{ms:Array MapEntry}(ay:Bu tag k es){kv:Value}(hk:RepC w g k kv)(bj:ms.size=es.length)
  (hE:∀(i:Nat) (x:C×V) (m:MapEntry),es[i]? = some x->ms[i]? = some m->RepE w g x m)
  (hd:∀(i j:Nat) (m m':MapEntry),ms[i]? = some m->ms[j]? = some m'->(m.born=m'.born\/m.key=m'.key)->i=j) :
  (Instr.findNow (tagD tag) kv ms.toList 0=some none/\AO k es=none/\∀x∈es,AD k x.1=false)\/
  ∃j m x,Instr.findNow (tagD tag) kv ms.toList 0=some (some (j,m.val))/\ms[j]? = some m/\m.key=kv/\es[j]? = some x/\AO k es=some x.2/\AD k x.1=true/\
   ∀i y,i<j->es[i]? = some y->AD k y.1=false:=by
 have pair:∀(i:Nat) (m:MapEntry),ms[i]? = some m->∃x,es[i]? = some x:=by
  intro i m hm;have:i<es.length:=by
   rw[<-bj];rcases Jg i ms.size with h|h
   ·exact h
   ·rw[Ji h]at hm;simp at hm
  exact⟨_,Jd this⟩
 have pair':∀(i:Nat) (x:C×V),es[i]? = some x->∃m,ms[i]? = some m:=by
  intro i x hx;have:i<ms.size:=by
   rw[bj];rcases Jg i es.length with h|h
   ·exact h
   ·rw[Jf h]at hx;simp at hx
  exact⟨_,Jb this⟩
 have rQ:∀m∈ms.toList,IsKey (tagD tag) m.key:=by
  intro m hm;obtain⟨i,hi⟩:=J2 hm;obtain⟨x,hx⟩:=pair i m Zah;exact Qbsm ay (Jh hx) (hE i x m hx Zah).1
 rcases findNow_spec (Dz ay hk) ms.toList 0 rQ with ⟨h1,h2⟩|⟨j,m,h1,h2,h3⟩
 ·have bR:∀x∈es,AD k x.1=false:=by
   intro x hx;obtain⟨i,hi⟩:=J2 hx;obtain⟨m,hm⟩:=pair' i x hi;have:=h2 m (by have:=Jh (l:=ms.toList) (i:=i) (a:=m) (by simpa using hm);exact this)
   cases hq:AD k x.1 with
   |false=>rfl
   |true=>exact absurd ((Dl ay hx hk (hE i x m hi hm).1).1 hq) this
  exact .inl ⟨h1,KO es k bR,bR⟩
 ·have hm:ms[j]? = some m:=Zag
  obtain⟨x,hx⟩:=pair j m hm;have hq:=(Dl ay (Jh hx) hk (hE j x m hx hm).1).2 h3;have kZ:∀i y,i<j->es[i]? = some y->AD k y.1=false:=by
   intro i y hi hy;obtain⟨m',em⟩:=pair' i y hy
   cases xT:AD k y.1 with
   |false=>rfl
   |true=>
    have e1:=(Dl ay (Jh hy) hk (hE i y m' hy em).1).1 xT;have:=hd i j m' m em hm (.inr (e1.trans h3.symm));omega
  exact .inr ⟨j,m,x,Zaw,hm,h3,hx,ID es k j x hx hq kZ,hq,kZ⟩
end Go.AE
namespace Go.AE
variable {P:Program}{H:Heap}{g:G}{w:World}{e:Env}{a:Act}{o:Oper}{p:Bool}
def Cg (P:Program)(fs:Array Field)(zl:Nat):List (Nat×Nat×Opd)->List (Nat×Operand)->Bool
 |[],[]=>true
 |(off,sz,x)::r,(i,y)::r'=>mO x y&&(match fs[i]? with
   |some f=>f.offset == off&&P.cellsOf f.type == sz
   |none=>false)&&decide (off+sz<=zl)&&decide (sz≠0)&&Cg P fs zl r r'
 |_,_=>false
def mRow:Nat->List Opd->List (Nat×Operand)->Bool
 |_,[],[]=>true
 |k,x::r,(i,y)::r'=>i == k&&mO x y&&mRow (k+1) r r'
 |_,_,_=>false
def mOs:List Opd->List Operand->Bool
 |[],[]=>true
 |x::r,y::r'=>mO x y&&mOs r r'
 |_,_=>false
theorem EK:∀(xs:List Opd) (ys:List Operand),mOs xs ys=true->xs.length=ys.length/\∀(j:Nat) (x:Opd) (y:Operand),xs[j]? = some x->ys[j]? = some y->mO x y=true
 |[],[],_=>⟨rfl,ZF⟩
 |[],_::_,h=>by simp[mOs]at h
 |_::_,[],h=>by simp[mOs]at h
 |x::r,y::r',h=>by
  simp only[mOs,Ja]at h;obtain⟨h1,h2⟩:=EK r r' h.2;refine⟨by simp[h1],λj x' y' e1 e2=>?_⟩
  cases j with
  |zero=>simp at e1 e2;subst e1;subst e2;exact h.1
  |succ j=>exact h2 j x' y' ZaU Zab
theorem MT {fs:Array Field}{zl:Nat}:∀(xs:List (Nat×Nat×Opd)) (ys:List (Nat×Operand)),Cg P fs zl xs ys=true->
  xs.length=ys.length/\∀(j:Nat) (x:Nat×Nat×Opd) (y:Nat×Operand),xs[j]? = some x->ys[j]? = some y->
   mO x.2.2 y.2=true/\(∃f,fs[y.1]? = some f/\f.offset=x.1/\P.cellsOf f.type=x.2.1)/\x.1+x.2.1<=zl/\x.2.1≠0
 |[],[],_=>⟨rfl,ZF⟩
 |[],_::_,h=>by simp[Cg]at h
 |_::_,[],h=>by simp[Cg]at h
 |(off,sz,x)::r,(i,y)::r',h=>by
  simp only[Cg,Ja,decide_eq_true_eq]at h;obtain⟨⟨⟨⟨h1,h2⟩,h3⟩,h4⟩,h5⟩:=h;obtain⟨k1,k2⟩:=MT r r' h5;refine⟨ZaH,λj x' y' e1 e2=>?_⟩
  cases j with
  |zero=>
   simp at e1 e2;subst e1;subst e2;refine⟨h1,?_,h3,h4⟩;split at h2
   ·rename_i f hf;simp at h2;exact⟨f,hf,h2.1,h2.2⟩
   ·simp at h2
  |succ j=>exact k2 j x' y' ZaU Zab
theorem FE:∀(k:Nat) (xs:List Opd) (ys:List (Nat×Operand)),mRow k xs ys=true->
  xs.length=ys.length/\∀(j:Nat) (x:Opd) (y:Nat×Operand),xs[j]? = some x->ys[j]? = some y->y.1=k+j/\mO x y.2=true
 |_,[],[],_=>⟨rfl,ZF⟩
 |_,[],_::_,h=>by simp[mRow]at h
 |_,_::_,[],h=>by simp[mRow]at h
 |k,x::r,(i,y)::r',h=>by
  simp only[mRow,Ja,beq_iff_eq]at h;obtain⟨⟨h1,h2⟩,h3⟩:=h;obtain⟨k1,k2⟩:=FE (k+1) r r' h3;refine⟨ZaH,λj x' y' e1 e2=>?_⟩
  cases j with
  |zero=>simp at e1 e2;subst e1;subst e2;exact⟨by simp[h1],h2⟩
  |succ j=>
   have:=k2 j x' y' ZaU Zab;exact⟨by rw[this.1];omega,this.2⟩
def C4 (P:Program)(t:TypeId)(n:Nat)(agg:Bool):Bool:=
 match P.underlying t,P.info? t with
 |some d,some i=>BD d == agg&&(if agg then i.size == n else n == 1)
 |_,_=>false
theorem Q6j {t:TypeId}{n:Nat}{agg:Bool}(h:C4 P t n agg=true) :
  ∃d i,P.underlying t=some d/\P.info? t=some i/\BD d=agg/\(agg=true->i.size=n)/\(agg=false->n=1):=by
 unfold C4 at h;split at h
 ·rename_i d i hd hi
  simp only[Ja,beq_iff_eq]at h;refine⟨d,i,hd,hi,h.1,λha=>?_,λha=>?_⟩
  ·subst ha;simpa using h.2
  ·subst ha;simpa using h.2
 ·simp at h
def BL (P:Program)(t:TypeId)(sz:Nat):Bool:=
 match P.info? t with
 |some i=>i.size == sz
 |none=>false
theorem GZ {t:TypeId}{sz:Nat}(h:BL P t sz=true):∃i,P.info? t=some i/\i.size=sz:=by
 unfold BL at h;split at h
 ·rename_i i hi;exact⟨i,hi,ZP⟩
 ·simp at h
def Cb (P:Program)(t:TypeId)(zero:List C):Bool:=
 match P.info? t with
 |some i=>(match i.zero with
  |some z=>B5 zero z
  |none=>false)
 |none=>false
theorem GY {t:TypeId}{zero:List C}(h:Cb P t zero=true):∃i z,P.info? t=some i/\i.zero=some z/\B5 zero z=true:=by
 unfold Cb at h;split at h
 ·rename_i i hi
  split at h
  ·rename_i z hz;exact⟨i,z,hi,hz,h⟩
  ·simp at h
 ·simp at h
def Et (d:TypeDesc)(tag:Nat):Bool:=
 match d,tag with
 |.int .i64,0=>true
 |.string,1=>true
 |.bool,2=>true
 |_,_=>false
theorem Qbib {d:TypeDesc}{tag:Nat}(h:Et d tag=true):d=tagD tag:=by
 unfold Et at h;split at h <;> first|rfl|simp at h
def mF (P:Program)(o:Oper):FOp->Bool
 |.mv x=>match o.op with
  |.move y=>mO x y
  |.assign y=>mO x y
  |_=>false
 |.pick c a b=>match o.op with
  |.pick c' a' b'=>mO c c'&&mO a a'&&mO b b'
  |_=>false
 |.bin tag op a b=>match o.op with
  |.binOp op' t a' b' _=>op == op'&&mTag P tag t&&mO a a'&&mO b b'
  |_=>false
 |.not a=>match o.op with
  |.unOp .not _ a'=>mO a a'
  |_=>false
 |.fad off a=>match o.op with
  |.fieldAddr s y k=>mO a y&&(match P.underlying s with
   |some (.struct fs)=>(match fs[k]? with
    |some f=>f.offset == off&&(match P.info? f.type with
     |some i=>decide (i.size≠0)
     |none=>false)
    |none=>false)
   |_=>false)
  |_=>false
 |.iad sz a i=>match o.op with
  |.indexAddr t a' i'=>mO a a'&&mO i i'&&(match P.underlying t with
   |some (.slice el)=>BL P el sz
   |_=>false)
  |_=>false
 |.ld n agg a=>match o.op with
  |.load t a'=>mO a a'&&C4 P t n agg
  |_=>false
 |.nck a=>match o.op with
  |.nilCheck a'=>mO a a'
  |_=>false
 |.len a=>match o.op with
  |.call { callee:=.builtin .len,args:=⟨[a']⟩,argTypes:=ats }=>mO a a'&&(match ats[0]? with
   |some t=>(match P.underlying t with
    |some (.slice _)=>true
    |_=>false)
   |none=>false)
  |_=>false
 |.lenx a=>false
 |.lens a=>match o.op with
  |.call { callee:=.builtin .len,args:=⟨[a']⟩,argTypes:=ats }=>mO a a'&&(match ats[0]? with
   |some t=>(match P.underlying t with
    |some .string=>true
    |_=>false)
   |none=>false)
  |_=>false
 |.lensx a=>false
 |.lenm a=>match o.op with
  |.call { callee:=.builtin .len,args:=⟨[a']⟩,argTypes:=ats }=>mO a a'&&(match ats[0]? with
   |some t=>(match P.underlying t with
    |some (.map _ _)=>true
    |_=>false)
   |none=>false)
  |_=>false
 |.sli sz a lo hi=>match o.op with
  |.slice t a' lo' bS none=>mO a a'&&mOpt lo lo'&&mOpt hi bS&&(match P.underlying t with
   |some (.slice el)=>BL P el sz
   |_=>false)
  |_=>false
 |.iaa sz n a i=>false
 |.aslp n a hi=>false
 |.slm sz a hi=>false
 |.ldg n b _=>false
 |.ldo b _=>false
 |.aslg n b _=>false
 |.iax sz n a i=>false
 |.asl n a=>false
 |.slis a lo hi=>match o.op with
  |.slice t a' lo' bS none=>mO a a'&&mOpt lo lo'&&mOpt hi bS&&(match P.underlying t with
   |some .string=>true
   |_=>false)
  |_=>false
 |.ext a i=>match o.op with
  |.extract a' i'=>mO a a'&&i == i'
  |_=>false
 |.fld off n agg a=>match o.op with
  |.field s y k=>mO a y&&(match P.underlying s with
   |some (.struct fs)=>(match fs[k]? with
    |some f=>f.offset == off&&C4 P f.type n agg
    |none=>false)
   |_=>false)
  |_=>false
 |.idx a i=>match o.op with
  |.index t a' i'=>mO a a'&&mO i i'&&(match P.underlying t with
   |some .string=>true
   |_=>false)
  |_=>false
 |.bld zero parts=>match o.op with
  |.build t parts'=>(match P.underlying t with
   |some (.struct fs)=>Cb P t zero&&fs.toList.all (λf=>(P.info? f.type).isSome)&&Cg P fs zero.length parts parts'.toList
   |_=>false)
  |_=>false
 |.aH sz parts=>match o.op with
  |.buildSlice t n parts'=>n == parts'.size&&decide (n * sz<=2 ^ 24)&&mRow 0 parts parts'.toList&&decide (sz≠0)&&(match P.underlying t with
   |some (.slice el)=>BL P el sz&&(match P.info? el with
    |some i=>i.zero.isSome
    |none=>false)
   |_=>false)
  |_=>false
 |.box a=>match o.op with
  |.box _ a'=>mO a a'
  |_=>false
 |.cvt k a=>match o.op with
  |.convert src dst a'=>mO a a'&&(match P.underlying dst,P.underlying src with
   |some (.int k'),some _=>k == k'
   |_,_=>false)
  |_=>false
 |.mkf f caps=>match o.op with
  |.makeFunc (.func f') ⟨[]⟩ caps'=>f == f'&&mOs caps caps'.toList
  |_=>false
 |.lup tag zero m k=>false
 |.lup2 tag zero m k=>false
 |.mx a b=>false
 |.mn a b=>match o.op with
  |.call { callee:=.builtin .min,args:=⟨[a',b']⟩,argTypes:=_ }=>mO a a'&&mO b b'
  |_=>false
theorem Kd {op:FOp}(hm:mF P o op=true)(hs:Sat H g w)(he:EnvOk w g e a)(hp:p=true)(ho:op.obl p e H):FOk P H g w e a o op:=by
 cases op with
 |mv x=>
  simp only[mF]at hm;split at hm
  ·exact s_mv (.inl ‹_›) hm hs he hp ho
  ·exact s_mv (.inr ‹_›) hm hs he hp ho
  ·simp at hm
 |pick c x y=>
  simp only[mF]at hm;split at hm
  ·simp only[Ja]at hm;exact TY ‹_› hm.1.1 hm.1.2 hm.2 hs he hp ho
  ·simp at hm
 |bin tag bo x y=>
  simp only[mF]at hm;split at hm
  ·simp only[Ja,beq_iff_eq]at hm;obtain⟨⟨⟨rfl,h2⟩,h3⟩,h4⟩:=hm;exact Qb0h ‹_› h2 h3 h4 hs he hp ho
  ·simp at hm
 |not x=>
  simp only[mF]at hm;split at hm
  ·exact Qb0u ‹_› hm hs he hp ho
  ·simp at hm
 |fad off x=>
  simp only[mF]at hm;split at hm
  ·rename_i s y k bP
   rw[Ja]at hm;obtain⟨h1,h2⟩:=hm;split at h2
   ·rename_i fs pA
    split at h2
    ·rename_i f hf
     rw[Ja]at h2;obtain⟨h3,h4⟩:=h2;split at h4
     ·rename_i i hi
      exact Qb0n bP pA hf (by simpa using h3) hi (by simpa using h4) h1 hs he hp ho
     ·simp at h4
    ·simp at h2
   ·simp at h2
  ·simp at hm
 |iad sz x y=>
  simp only[mF]at hm;split at hm
  ·rename_i t x' y' bP
   simp only[Ja]at hm;obtain⟨⟨h1,h2⟩,h3⟩:=hm;split at h3
   ·rename_i el lN
    obtain⟨i,hi,hz⟩:=GZ h3;exact Qb0p bP lN hi hz h1 h2 hs he hp ho
   ·simp at h3
  ·simp at hm
 |ld n agg x=>
  simp only[mF]at hm;split at hm
  ·rename_i t x' bP
   rw[Ja]at hm;obtain⟨d,i,h1,h2,h3,h4,h5⟩:=Q6j hm.2;exact s_ld bP h1 h2 h3 h4 h5 hm.1 hs he hp ho
  ·simp at hm
 |nck x=>
  simp only[mF]at hm;split at hm
  ·exact Qb0t ‹_› hm hs he hp ho
  ·simp at hm
 |len x=>
  simp only[mF]at hm;split at hm
  ·rename_i x' ats bP
   rw[Ja]at hm;obtain⟨h1,h2⟩:=hm;split at h2
   ·rename_i t ht
    split at h2
    ·exact Qb0r bP ht ‹_› h1 hs he hp ho
    ·simp at h2
   ·simp at h2
  ·simp at hm
 |lenx x=>
  simp[mF]at hm
 |lens x=>
  simp only[mF]at hm;split at hm
  ·rename_i x' ats bP
   rw[Ja]at hm;obtain⟨h1,h2⟩:=hm;split at h2
   ·rename_i t ht
    split at h2
    ·exact TZ bP ht ‹_› h1 hs he hp ho
    ·simp at h2
   ·simp at h2
  ·simp at hm
 |lensx x=>
  simp[mF]at hm
 |lenm x=>
  simp only[mF]at hm;split at hm
  ·rename_i x' ats bP
   rw[Ja]at hm;obtain⟨h1,h2⟩:=hm;split at h2
   ·rename_i t ht
    split at h2
    ·exact Va bP ht ‹_› h1 hs he hp ho
    ·simp at h2
   ·simp at h2
  ·simp at hm
 |sli sz x lo hi=>
  simp only[mF]at hm;split at hm
  ·rename_i t x' lo' bS bP
   simp only[Ja]at hm;obtain⟨⟨⟨h1,h2⟩,h3⟩,h4⟩:=hm;split at h4
   ·rename_i el lN
    obtain⟨i,hi,hz⟩:=GZ h4;exact Qb0v bP lN hi hz h1 h2 h3 hs he hp ho
   ·simp at h4
  ·simp at hm
 |iaa sz n x y=>
  simp[mF]at hm
 |aslp n x hi=>
  simp[mF]at hm
 |slm sz x hi=>
  simp[mF]at hm
 |ldg n b l=>
  simp[mF]at hm
 |ldo b l=>
  simp[mF]at hm
 |aslg n b l=>
  simp[mF]at hm
 |iax sz n x y=>
  simp[mF]at hm
 |asl n x=>
  simp[mF]at hm
 |slis x lo hi=>
  simp only[mF]at hm;split at hm
  ·rename_i t x' lo' bS bP
   simp only[Ja]at hm;obtain⟨⟨⟨h1,h2⟩,h3⟩,h4⟩:=hm;split at h4
   ·exact TX bP ‹_› h1 h2 h3 hs he hp ho
   ·simp at h4
  ·simp at hm
 |ext x i=>
  simp only[mF]at hm;split at hm
  ·rename_i x' i' bP
   simp only[Ja,beq_iff_eq]at hm;obtain⟨h1,rfl⟩:=hm;exact Qb0m bP h1 hs he hp ho
  ·simp at hm
 |fld off n agg x=>
  simp only[mF]at hm;split at hm
  ·rename_i s y k bP
   rw[Ja]at hm;obtain⟨h1,h2⟩:=hm;split at h2
   ·rename_i fs pA
    split at h2
    ·rename_i f hf
     rw[Ja]at h2;obtain⟨h3,h4⟩:=h2;obtain⟨d,i,k1,k2,k3,k4,k5⟩:=Q6j h4;exact Qb0o bP pA hf (by simpa using h3) k2 k1 k3 k4 k5 h1 hs he hp ho
    ·simp at h2
   ·simp at h2
  ·simp at hm
 |idx x y=>
  simp only[mF]at hm;split at hm
  ·rename_i t x' y' bP
   simp only[Ja]at hm;obtain⟨⟨h1,h2⟩,h3⟩:=hm;split at h3
   ·exact Qb0q bP ‹_› h1 h2 hs he hp ho
   ·simp at h3
  ·simp at hm
 |bld zero parts=>
  simp only[mF]at hm;split at hm
  ·rename_i t parts' bP
   split at hm
   ·rename_i fs pA
    simp only[Ja]at hm;obtain⟨⟨h1,h2⟩,h3⟩:=hm;obtain⟨i,z,k1,k2,k3⟩:=GY h1;obtain⟨k4,k5⟩:=MT _ _ h3;rw[Jaa]at h2;refine Qb0i bP pA k1 k2 k3 (λf hf=>Jac.1 (h2 f hf)) (by simpa using k4) (λj x y e1 e2=>k5 j x y e1 Zab) hs he hp ho
   ·simp at hm
  ·simp at hm
 |aH sz parts=>
  simp only[mF]at hm;split at hm
  ·rename_i t n parts' bP
   simp only[Ja,decide_eq_true_eq,beq_iff_eq]at hm;obtain⟨⟨⟨⟨h1,h2⟩,h3⟩,h4⟩,h5⟩:=hm;split at h5
   ·rename_i el lN
    rw[Ja]at h5;obtain⟨i,hi,hz⟩:=GZ h5.1;have h6:=h5.2;rw[hi]at h6;obtain⟨z,dl⟩:=Jac.1 h6;obtain⟨k1,k2⟩:=FE _ _ _ h3;exact Qb0k bP lN hi dl hz h4 h1 h2 (by simpa using k1) (λj x y e1 e2=>by
     have:=k2 j x y e1 Zab;exact⟨by simpa using this.1,this.2⟩) hs he hp ho
   ·simp at h5
  ·simp at hm
 |box x=>
  simp only[mF]at hm;split at hm
  ·exact Qb0j ‹_› hm hs he hp ho
  ·simp at hm
 |cvt k x=>
  simp only[mF]at hm;split at hm
  ·rename_i src dst x' bP
   rw[Ja]at hm;obtain⟨h1,h2⟩:=hm;split at h2
   ·simp only[beq_iff_eq]at h2;subst h2;exact Qb0l bP ‹_› ‹_› h1 hs he hp ho
   ·simp at h2
  ·simp at hm
 |mkf f caps=>
  simp only[mF]at hm;split at hm
  ·rename_i f' caps' bP
   simp only[Ja,beq_iff_eq]at hm;obtain⟨rfl,h2⟩:=hm;obtain⟨k1,k2⟩:=EK _ _ h2;exact Qb0s bP (by simpa using k1) (λj x y e1 e2=>k2 j x y e1 Zab) hs he hp ho
  ·simp at hm
 |lup tag zero m k=>
  simp[mF]at hm
 |lup2 tag zero m k=>
  simp[mF]at hm
 |mx x y=>
  simp[mF]at hm
 |mn x y=>
  simp only[mF]at hm;split at hm
  ·simp only[Ja]at hm;exact s_mn ‹_› hm.1 hm.2 hs he hp ho
  ·simp at hm
def EOk (P:Program)(H:Heap)(g:G)(w:World)(a:Act)(o:Oper)(K:V->Heap->Prop):Prop:=
 ∀(Q:Exit->Act->World->Prop) (next:Act->World->Prop),
  (∀x v w' H' g',K x H'->Stp H g w H' g' w'->RepV w' g' x v->next (a.put o.dst v) w')->
  (∀v w' H' g',K (.pn v) H'->Stp H g w H' g' w'->Q (.panic [{ v:=v,recovered:=false }]) a w')->o.wp P a w next Q
theorem EOk.value {K:V->Heap->Prop}{v:Value}{w':World}{x:V}{H':Heap}{g':G}(hr:(execOp a.eval o).run P w=.ok (.value v) w')(hk:K x H')(aR:Stp H g w H' g' w')(hv:RepV w' g' x v) :
  EOk P H g w a o K:=by
 intro Q next hn iF;unfold Oper.wp;rw[hr,Oper.upon_value];exact hn x v w' H' g' hk aR hv
theorem EOk.skip {K:V->Heap->Prop}{w':World}{H':Heap}{g':G}(hr:(execOp a.eval o).run P w=.ok .skip w')(hk:K .unk H')(aR:Stp H g w H' g' w') :
  EOk P H g w a o K:=by
 intro Q next hn iF;unfold Oper.wp;rw[hr,Oper.upon_skip];exact hn .unk undef w' H' g' hk aR (.unk _)
theorem Sat.newName (hs:Sat H g w):∃l,g.io l=none/\H l=.none:=by
 obtain⟨N,hN⟩:=hs.names;exact⟨N,hN N (Jv _),hs.none_of_io (hN N (Jv _))⟩
def G.newObj (g:G)(l nb sz base:Nat):G:=
 { g with own:=λb=>if b=nb then some (l,[])else g.own b,io:=λx=>if x=l then some (nb,sz,base)else g.io x }
theorem Ef (hs:Sat H g w){l:Nat}(hl:g.io l=none)(sz base:Nat)(x:Go.Obj):Le g w (g.newObj l w.heap.size sz base) (w.alloc x):=by
 refine⟨λb hb=>⟨hb,CW _ _ (E8 hs hb)⟩,λm y hm=>?_,ZF,λb T n hn=>?_,rfl,rfl,rfl⟩
 ·simp only[G.newObj];have:m≠l:=λh=>by subst h;rw[hl]at hm;simp at hm
  rw[if_neg this];exact hm
 ·rw[PC (CW _ _ (EJ hn))];exact hn
theorem Qa0o (hs:Sat H g w){l:Nat}(sz base:Nat)(x:Go.Obj)(m:Nat):Cn g w (g.newObj l w.heap.size sz base) (w.alloc x) m:=by
 intro b q hb;have:=Cf hs hb;refine⟨?_,CW _ _ this⟩;simp only[G.newObj];rw[if_neg ZD];exact hb
theorem Da (hs:Sat H g w){l:Nat}(hl:g.io l=none)(sz base:Nat)(x:Go.Obj)(ob:Obj)
  (aX:∀g',g'=g.newObj l w.heap.size sz base->SatObj (H.set l ob) g' (w.alloc x) l ob) :
  Stp H g w (H.set l ob) (g.newObj l w.heap.size sz base) (w.alloc x):=by
 have aP:=Ef hs hl sz base x;have hk:=Qa0o hs (l:=l) sz base x;have hH:H l=.none:=hs.none_of_io hl;refine⟨aP,λm hm hn=>?_,⟨λb hb=>?_,?_,λb y hb=>?_,λb m q hb=>?_,λm=>?_⟩⟩
 ·have:m≠l:=λh=>by subst h;exact hm hl
  rw[Heap.af _ _ this];exact⟨hn,λb q hb=>hk m b q hb⟩
 ·simp only[World.size_alloc]at hb;refine⟨(hs.fresh b ZD).1,?_⟩;simp only[G.newObj];rw[if_neg ZD];exact (hs.fresh b ZD).2
 ·obtain⟨N,hN⟩:=hs.names;refine⟨max N (l+1),λm hm=>?_⟩;simp only[G.newObj];rw[if_neg ZD];exact hN m ZD
 ·simp only[G.newObj]at hb;split at hb
  ·rename_i h;subst h;exact (hs.fresh _ (Jv _)).1
  ·exact hs.excl b y hb
 ·simp only[G.newObj]at hb⊢;split at hb
  ·simp at hb;obtain⟨rfl,rfl⟩:=hb;simp
  ·split
   ·simp
   ·exact hs.named b m q hb
 ·by_cases hm:m=l
  ·subst hm;rw[Heap.aC];exact aX _ rfl
  ·have dt:=Heap.af H ob hm;rw[dt,<-dt];refine SatObj.keep hs aP (hk m) dt λm' v left cur hc v' es hv=>?_;by_cases em:m'=l
   ·subst em;have m8:=hs.objs m;rw[hc]at m8;obtain⟨b,mb,si,se,h1,h2,h3,h4,h5⟩:=m8;rw[hl]at h4;simp at h4
   ·rw[Heap.af _ _ em]at hv;exact .inl ⟨hv,hk m'⟩
theorem Q5j {l:Nat}{cells:List C}{vs:Array Value}{T:TypeId}{H':Heap}(hr:∀(j:Nat) (c:C) (u:Value),cells[j]? = some c->vs[j]? = some u->RepC w g c u)(bj:vs.size=cells.length)
  (aP:Le g w (g.newObj l w.heap.size cells.length 0) (w.alloc (.cells vs T))) :
  SatObj H' (g.newObj l w.heap.size cells.length 0) (w.alloc (.cells vs T)) l (.st cells):=by
 refine⟨w.heap.size,cells.length,T,vs,ZN,ZN,BX _ _,bj,λk c v h1 h2=>.plain _ _ _ _ ((hr k c v h1 h2).mono aP)⟩
theorem Yt {cells:List C}{t:TypeId}{i:TypeInfo}{z:Value}{K:V->Heap->Prop}(hm:o.op=.alloc t)(hi:P.info? t=some i)(hz:i.zero=some z)(dH:B5 cells z=true)
  (hs:Sat H g w) (ho:(EOp.alloc cells).eff P p e H K):EOk P H g w a o K:=by
 obtain⟨l,hl,hH⟩:=hs.newName;have hr:=GH (w:=w) (g:=g) dH;have aP:=Ef hs hl cells.length 0 (.cells z.cells t);have aR:=Da hs hl cells.length 0 (.cells z.cells t) (.st cells) (λg' hg=>by subst hg;exact Q5j hr.2 hr.1 aP);refine EOk.value (v:=.pointer (some ⟨w.heap.size,0,none⟩)) (x:=.c (.ptr l 0)) ?_ (ho l hH) aR ?_
 ·simp[execOp,hm,Instr.alloc,Eb hi hz,newVar,newRow]
 ·exact .c _ _ (.ptr l 0 w.heap.size cells.length 0 ZN)
theorem V2 {x:Opd}{x':Operand}{t:TypeId}{K:V->Heap->Prop}(hm:o.op=.box t x')(hx:mO x x'=true)
  (hs:Sat H g w) (he:EnvOk w g e a) (hp:p=true) (ho:(EOp.boxm x).eff P p e H K):EOk P H g w a o K:=by
 simp only[EOp.eff]at ho;obtain⟨h1,h2,h3⟩:=ho;have hr:=An he hx hp h1;obtain⟨hz,hc⟩:=FB hr h2;obtain⟨l,hl,hH⟩:=hs.newName;have aP:=Ef hs hl (x.v e).cells.length 0 (.cells (a.eval x').cells t);have aR:=Da hs hl (x.v e).cells.length 0 (.cells (a.eval x').cells t) (.st (x.v e).cells) (λg' hg=>by subst hg;exact Q5j hc hz aP);refine EOk.value (v:=.pointer (some ⟨w.heap.size,0,none⟩)) (x:=.c (.ptr l 0)) ?_ (h3 l hH) aR ?_
 ·simp[execOp,hm,Instr.box,newVar,newRow]
 ·exact .c _ _ (.ptr l 0 w.heap.size (x.v e).cells.length 0 ZN)
def World.az (w:World)(b:Nat)(cs:Array Value)(T:TypeId):World:={ w with heap:=w.heap.setIfInBounds b (.cells cs T (0,0)) }
theorem Gz {w:World}{b:Nat}{cs:Array Value}{T:TypeId}(h:b<w.heap.size):(World.az w b cs T).heap[b]? = some (.cells cs T (0,0)):=by
 simp[World.az,h]
theorem EI {w:World}{b b':Nat}{cs:Array Value}{T:TypeId}(h:b'≠b):(World.az w b cs T).heap[b']? = w.heap[b']?:=by
 simp only[World.az];rw[Js (Ne.symm h)]
theorem Qaeu {w:World}{b k:Nat}{cs:Array Value}{T:TypeId}{v:Value}(h:w.heap[b]? = some (.cells cs T (0,0))) :
  w.setCell ⟨b,k,none⟩ v=World.az w b (cs.setIfInBounds k v) T:=by
 simp only[World.setCell,World.az];congr 1;apply Jab;apply Jbg;intro i;simp only[Ju,J8];by_cases hi:b=i
 ·subst hi;rw[if_pos rfl,h];have ae:b<w.heap.size:=by
   rcases Jg b w.heap.size with h'|h'
   ·exact h'
   ·simp[Ji h']at h
  simp[ae]
 ·rw[if_neg hi,Js hi]
theorem Q6o (w:World)(b:Nat)(cs cs':Array Value)(T:TypeId):World.az (World.az w b cs T) b cs' T=World.az w b cs' T:=by
 simp only[World.az,Array.setIfInBounds_setIfInBounds]
theorem Ps:∀(vs:List Value) (i:Nat) (w:World) (b k:Nat) (cs:Array Value) (T:TypeId),w.heap[b]? = some (.cells cs T (0,0))->k+i+vs.length<=cs.size->(∀v∈vs,v.oneCell'=true)->
  (storeCells ⟨b,k,none⟩ vs i).run P w=.ok () (World.az w b ((vs.zipIdx i).foldl (λ(cs:Array Value) (x:Value×Nat)=>cs.setIfInBounds (k+x.2) x.1) cs) T)
 |[],i,w,b,k,cs,T,h,_,_=>by
  simp only[storeCells,Sem.run_pure,List.zipIdx_nil,List.foldl_nil];congr 1;simp only[World.az];have ae:b<w.heap.size:=by
   rcases Jg b w.heap.size with h'|h'
   ·exact h'
   ·simp[Ji h']at h
  have:w.heap.setIfInBounds b (.cells cs T (0,0))=w.heap:=by
   apply Jab;apply Jbg;intro j;simp only[Ju];by_cases hj:b=j
   ·subst hj;rw[h];simp[ae]
   ·rw[Js hj]
  rw[this]
 |v::vs,i,w,b,k,cs,T,h,hb,hv=>by
  simp only[J7]at hb;have ae:k+i<cs.size:=ZD
  have cj:w.cell? ⟨b,k+i,none⟩=some cs[k+i]:=by rw[DX h];exact Jb ae
  have gz:w.frozen? ⟨b,k+i,none⟩=false:=by simp[World.frozen?,h]
  have h1:=hv v ZF;have aR:(store ⟨b,k+i,none⟩ v).run P w=.ok () (w.setCell ⟨b,k+i,none⟩ v):=by
   rw[run_store _ _ _ _ _ h1];simp[cj,gz]
  have iU:b<w.heap.size:=by
   rcases Jg b w.heap.size with h'|h'
   ·exact h'
   ·simp[Ji h']at h
  simp only[storeCells,Sem.run_bind,BT,aR,Result.andThen_ok];rw[Qaeu h];rw[Ps vs (i+1) _ b k (cs.setIfInBounds (k+i) v) T (Gz iU) ZJ (λx hx=>hv x Za0)];rw[Q6o];rfl
theorem Qbl9 (hs:Sat H g w){l b:Nat}(hb:g.own b=some (l,[])){w':World}(bj:w'.heap.size=w.heap.size)(jy:∀b',b'≠b->w'.heap[b']? = w.heap[b']?)
  (gN:∀T n,w.shape? b=some (T,n)->w'.shape? b=some (T,n)) (ht:w'.tape=w.tape) (mt:w'.os=w.os) (rp:w'.output=w.output):Le g w g w':=by
 refine⟨λb' aU=>⟨aU,jy b' λh=>?_⟩,λ_ _ h=>h,ZD,λb' T n hn=>?_,ht,mt,rp⟩
 ·subst h;rw[hs.excl _ _ hb]at aU;simp at aU
 ·by_cases h:b'=b
  ·subst h;exact gN T n hn
  ·rw[PC (jy b' h)];exact hn
theorem Qazn {l b:Nat}(hb:g.own b=some (l,[])){w':World}(jy:∀b',b'≠b->w'.heap[b']? = w.heap[b']?){m:Nat}(hm:m≠l):Cn g w g w' m:=by
 intro b' q hq;refine⟨hq,jy b' λh=>?_⟩;subst h;rw[hb]at hq;simp at hq;exact hm hq.1.symm
theorem Pn {l b:Nat}(hb:g.own b=some (l,[])){w':World}(aP:Le g w g w')(jy:∀b',b'≠b->w'.heap[b']? = w.heap[b']?){q:List Nat}(hq:q≠[]){c:C}{v:Value}
  (h:RepO w g l q c v):RepO w' g l q c v:=by
 refine h.move aP λr b' aU=>⟨aU,jy b' λh=>?_⟩;subst h;rw[hb]at aU;simp only[Jc,Jk,true_and]at aU;have:=congrArg List.length aU;simp at this;exact hq (Jy.1 ZD)
theorem Q8l (hs:Sat H g w){l b:Nat}(hb:g.own b=some (l,[])){w':World}(bj:w'.heap.size=w.heap.size)(jy:∀b',b'≠b->w'.heap[b']? = w.heap[b']?)
  (gN:∀T n,w.shape? b=some (T,n)->w'.shape? b=some (T,n)) (ht:w'.tape=w.tape) (mt:w'.os=w.os) (rp:w'.output=w.output) (ob:Obj) (gp:H l≠.none)
  (aX:Le g w g w'->SatObj (H.set l ob) g w' l ob) (o9:∀v es,ob=.map v es->∃v0 es0,H l=.map v0 es0/\v0<v):Stp H g w (H.set l ob) g w':=by
 have aP:=Qbl9 hs hb bj jy gN ht mt rp;have hk:=λ(m:Nat) (hm:m≠l)=>Qazn (g:=g) (w:=w) hb jy hm;refine⟨aP,λm hm hn=>?_,⟨λb' aU=>hs.fresh b' ZD,hs.names,hs.excl,hs.named,λm=>?_⟩⟩
 ·have:m≠l:=λh=>gp (h▸hn);rw[Heap.af _ _ this];exact⟨hn,λb' q hq=>hk m this b' q hq⟩
 ·by_cases hm:m=l
  ·subst hm;rw[Heap.aC];exact aX aP
  ·have dt:=Heap.af H ob hm;rw[dt,<-dt];refine SatObj.keep hs aP (hk m hm) dt λm' v left cur hc v' es hv=>?_;by_cases em:m'=l
   ·subst em;rw[Heap.aC]at hv;obtain⟨v0,es0,q1,q2⟩:=o9 v' es hv;exact .inr ⟨v0,es0,q1,q2⟩
   ·rw[Heap.af _ _ em]at hv;exact .inl ⟨hv,hk m' em⟩
theorem Ed {w:World}{b:Nat}{x:Go.Obj}(h:w.heap[b]? = some x):b<w.heap.size:=by
 rcases Jg b w.heap.size with h'|h'
 ·exact h'
 ·simp[Ji h']at h
theorem P1 (hs:Sat H g w){l b:Nat}(hb:g.own b=some (l,[])){cs cs':Array Value}{T:TypeId}(hw:w.heap[b]? = some (.cells cs T (0,0)))(bj:cs'.size=cs.size)(ob:Obj)(gp:H l≠.none)
  (aX:Le g w g (World.az w b cs' T)->(World.az w b cs' T).heap[b]? = some (.cells cs' T (0,0))->SatObj (H.set l ob) g (World.az w b cs' T) l ob)
  (o9:∀v es,ob≠.map v es):Stp H g w (H.set l ob) g (World.az w b cs' T):=by
 have ae:=Ed hw;refine Q8l hs hb (by simp[World.az]) (λb' h=>EI h) (λT' n hn=>?_) rfl rfl rfl ob gp (λaP=>aX aP (Gz ae)) (λv es h=>absurd h (o9 v es));simp only[World.shape?,hw,Jc,Jk]at hn;simp only[World.shape?,Gz ae,Jc,Jk];rw[bj];exact hn
theorem Ku {row vs:List C}{k j:Nat}(hb:k+vs.length<=row.length):(CJ row k vs)[j]? = if k<=j/\j<k+vs.length then vs[j-k]? else row[j]?:=by
 unfold CJ;by_cases hj:k<=j/\j<k+vs.length
 ·rw[if_pos hj,Jw,Jn ZJ,Jl ZJ];congr 1;simp;omega
 ·rw[if_neg hj];by_cases hl:j<k
  ·rw[Jw,Jl ZJ,Jo,if_pos hl]
  ·rw[Jn ZJ,Jt];congr 1;simp;omega
theorem Kt {row vs:List C}{k:Nat}(hb:k+vs.length<=row.length):(CJ row k vs).length=row.length:=by
 simp[CJ];omega
theorem Qb0b {n:Nat}{x y:Opd}{x' y':Operand}{t:TypeId}{i:TypeInfo}{K:V->Heap->Prop}(hm:o.op=.store t x' y')(hi:P.info? t=some i)(bj:i.size=n)(hx:mO x x'=true)(hy:mO y y'=true)
  (hs:Sat H g w) (he:EnvOk w g e a) (hp:p=true) (ho:(EOp.sto n x y).eff P p e H K):EOk P H g w a o K:=by
 simp only[EOp.eff]at ho;obtain⟨h1,h2,h3,h4,h5,h6⟩:=ho;have hr:=An he hx hp h1;have jL:=An he hy hp h2;have cB:=Gm jL (λhn=>by rw[hn]at h4;simp at h4;omega);rw[Bo h3]at hr;have dy:=hr.aK;generalize hq:a.eval x'=xv at dy;generalize jB:(x.v e).c1=cc at dy h6;have fE:∀v∈(a.eval y').cells.toList,v.oneCell'=true:=by
  intro v hv;obtain⟨j,hj⟩:=J2 hv;have cQ:(a.eval y').cells[j]? = some v:=Zac
  have ae:j<(y.v e).cells.length:=by
   rw[<-cB.1];rcases Jg j (a.eval y').cells.size with h|h
   ·exact h
   ·rw[Ji h]at cQ;simp at cQ
  exact (cB.2 j _ v (Jd ae) cQ).one
 have run:∀(b k:Nat) (cs:Array Value) (T:TypeId),xv=.pointer (some ⟨b,k,none⟩)->w.heap[b]? = some (.cells cs T (0,0))->k+n<=cs.size->
   ∃cs':Array Value,(execOp a.eval o).run P w=.ok .skip (World.az w b cs' T)/\cs'.size=cs.size/\
    ∀j,cs'[j]? = if k<=j/\j<k+n then (a.eval y').cells[j-k]? else cs[j]?:=by
  intro b k cs T hv hw hb;have ak:(a.eval y').cells.toList.length=n:=by simp[cB.1,h4]
  have hf:=λj=>OQ k (a.eval y').cells.toList 0 cs j ZX;refine⟨_,?_,(hf 0).1,λj=>?_⟩
  ·have lS:(a.eval y').cells.size=n:=by rw[cB.1,h4]
   simp only[execOp,hm,hq,hv,Instr.storeAt,Instr.sureAddr,Sem.run_bind,Sem.run_pure,Result.andThen_ok,storeVar,Bh hi,bj];rw[if_neg (by simp[lS])];rw[Ps _ 0 w b k cs T hw ZX fE];rfl
  ·rw[(hf j).2];simp only[Jz,ak,Ju]
 cases dy with
 |ptr l k b sz base cg=>
  simp only[BH]at h6;split at h6
  ·rename_i cells hH
   obtain⟨h7,h8⟩:=h6;have aX:=hs.objs l;rw[hH]at aX;obtain⟨b',sz',T,cs,q1,q2,q3,q4,q5⟩:=aX;rw[cg]at q1;simp only[Jc,Jk]at q1;obtain⟨rfl,rfl,rfl⟩:=q1;obtain⟨cs',r1,r2,r3⟩:=run b (0+k) cs T rfl q3 ZD;refine EOk.skip (g':=g) r1 h8 ?_;refine P1 hs q2 q3 r2 _ ZaB (λaP fR=>?_) ZF;refine⟨b,sz,T,cs',cg,q2,fR,by rw[r2,q4,Kt h7],λj c v e1 e2=>?_⟩;rw[Ku h7]at e1;rw[r3]at e2;by_cases hj:k<=j/\j<k+(y.v e).cells.length
   ·rw[if_pos hj]at e1;rw[if_pos ZD]at e2;exact .plain _ _ _ _ ((cB.2 _ _ _ e1 (by rw[<-e2];congr 1;omega)).mono aP)
   ·rw[if_neg hj]at e1;rw[if_neg ZD]at e2;exact Pn q2 aP (λb' h=>EI h) ZF (q5 j c v e1 e2)
  ·exact h6.elim
 |ep s z i k b off m cap eA hz cV=>
  simp only[BH]at h6;split at h6
  ·simp_all
  ·rename_i l sz st nn z' i' k' mV
   simp only[C.ep.injEq]at mV;obtain⟨rfl,rfl,rfl,rfl⟩:=mV;split at h6
   ·rename_i y' rows hH
    obtain⟨rfl,rfl,h7,h8,h9,dg⟩:=h6;have aX:=hs.objs l;rw[hH]at aX
    cases eA with
    |bZ=>omega
    |ah _ _ _ _ _ _ base T mm cg hn gN eB=>
     obtain⟨b',base',T',cs,val,q1,q2,q3,q4,q5,q6,q7,q8⟩:=SatVec.of aX cg;rw[cg]at q1;simp only[Jc,Jk,true_and]at q1;obtain⟨rfl,rfl⟩:=q1;have a8:rows[st+i]? = some (rows.getD (st+i) []):=by
      rw[J0,Jd ZD];rfl
     generalize eY:rows.getD (st+i) []=row at a8 dg;have dA:=q6 _ _ a8;have aL:(st+i) * z+z<=rows.length * z:=by
      have:(st+i+1) * z<=rows.length * z:=Jp _ ZD;rw[Jm,Jaj]at this;exact this
     obtain⟨cs',r1,r2,r3⟩:=run b (base+st * z+i * z+k) cs T' rfl q3 (by
      have:st * z+i * z=(st+i) * z:=(by rw[Jm]);omega)
     refine EOk.skip (g':=g) r1 dg ?_;refine P1 hs q2 q3 r2 _ ZaB (λaP fR=>?_) ZF;have fz:k+(y.v e).cells.length<=row.length:=ZD;have dS:∀(i2:Nat) (row2:List C) (j:Nat) (c:C),(rows.set (st+i) (CJ row k (y.v e).cells))[i2]? = some row2->row2[j]? = some c->
       ∃v,cs'[base+i2 * z+j]? = some v/\RepO (World.az w b cs' T') g l [i2,j] c v:=by
      intro i2 row2 j c e1 e2;have aR:st * z+i * z=(st+i) * z:=(by rw[Jm]);rw[Jar]at e1;split at e1
      ·rename_i gI
       subst gI;rw[if_pos ZD]at e1;simp only[Jc]at e1;subst e1;rw[Ku fz]at e2;by_cases hj:k<=j/\j<k+(y.v e).cells.length
       ·rw[if_pos hj]at e2;have eS:j-k<(a.eval y').cells.size:=(by rw[cB.1];omega);refine⟨(a.eval y').cells[j-k],?_,?_⟩
        ·rw[r3,if_pos ZD];rw[show base+(st+i) * z+j-(base+st * z+i * z+k)=j-k by omega];exact Jb eS
        ·exact .plain _ _ _ _ ((cB.2 _ _ _ e2 (Jb eS)).mono aP)
       ·rw[if_neg hj]at e2;refine⟨val (st+i) j,?_,Pn q2 aP (λb' h=>EI h) ZF (q8 _ _ _ _ a8 e2)⟩;rw[r3,if_neg ZD];exact q7 _ _ _ _ a8 e2
      ·rename_i gI
       have fK:=q6 _ _ e1;have fH:j<z:=by
        rw[<-fK];rcases Jg j row2.length with h|h
        ·exact h
        ·rw[Jf h]at e2;simp at e2
       refine⟨val i2 j,?_,Pn q2 aP (λb' h=>EI h) ZF (q8 _ _ _ _ e1 e2)⟩;rw[r3,if_neg ?_]
       ·exact q7 _ _ _ _ e1 e2
       ·intro gA;rcases Jg i2 (st+i)with h|h
        ·have:(i2+1) * z<=(st+i) * z:=Jp _ ZD;rw[Jm,Jaj]at this;omega
        ·have:(st+i+1) * z<=i2 * z:=Jp _ ZD;rw[Jm,Jaj]at this;omega
     refine .inr ⟨b,base,T',cs',λi2 j=>cs'.getD (base+i2 * z+j) undef,cg,q2,fR,by rw[r2];simpa using q4,by simpa using q5,λi2 row2 e1=>?_,λi2 row2 j c e1 e2=>?_,λi2 row2 j c e1 e2=>?_⟩
     ·rw[Jar]at e1;split at e1
      ·rw[if_pos ZD]at e1;simp only[Jc]at e1;subst e1;rw[Kt fz];exact dA
      ·exact q6 _ _ e1
     ·obtain⟨v,f1,f2⟩:=dS i2 row2 j c e1 e2;show _=some (cs'.getD (base+i2 * z+j) undef);rw[Je,f1];rfl
     ·obtain⟨v,f1,f2⟩:=dS i2 row2 j c e1 e2;show RepO _ _ _ _ _ (cs'.getD (base+i2 * z+j) undef);rw[Je,f1];exact f2
   ·exact h6.elim
  ·exact h6.elim
 |_=>simp[BH]at h6
theorem GD {i j n sz:Nat}(hi:i<n)(hj:j<sz):i * sz+j<n * sz:=by
 have:(i+1) * sz<=n * sz:=Jp _ ZD;rw[Jm,Jaj]at this;omega
theorem DT {q n sz:Nat}(h:q<n * sz):q / sz<n/\q % sz<sz/\q / sz * sz+q % sz=q:=by
 have hz:0<sz:=by
  rcases Jaf sz with h0|h0
  ·subst h0;simp at h
  ·exact h0
 exact⟨Nat.div_lt_of_lt_mul (by rw[Ja4];exact h),Jbi _ hz,by rw[Ja4];exact Nat.div_add_mod q sz⟩
theorem G9 (hs:Sat H g w){s:C}{v:Value}(h:RepC w g s v)(ho:aZ H s){sz:Nat}(hz:s.aN=sz)(hn:∀r∈rowsOf H s,an r=true) :
  ∃f:Nat->Value,(Builtin.firstCells sz (ax s) v).run P w=.ok ((List.range (ax s * sz)).map f).toArray w/\
   (∀q,q<ax s * sz->(f q).oneCell'=true)/\
   ∀(i:Nat) (row:List C) (j:Nat) (c:C),(rowsOf H s)[i]? = some row->row[j]? = some c->RepC w g c (f (i * sz+j)):=by
 obtain⟨ad,cap,rfl,h1,h2,h3,h4⟩:=Ga hs h ho;by_cases h0:ax s=0
 ·refine⟨λ_=>undef,?_,λq hq=>by rw[h0]at hq;simp at hq,λi row j c e1 _=>?_⟩
  ·rw[h0]
   cases ad with
   |none=>simp[Builtin.firstCells]
   |some x=>simp[Builtin.firstCells,loadCells,loadCellsFrom]
  ·have:(rowsOf H s)[i]? = none:=Jf ZD;rw[this]at e1;simp at e1
 ·obtain⟨b,off,rfl,h5⟩:=h4 h0;rw[hz]at h3 h5;have known:∀(i:Nat) (row:List C) (j:Nat) (c:C),(rowsOf H s)[i]? = some row->row[j]? = some c->w.cell? ⟨b,off+(i * sz+j),none⟩=some (getV w b off (i * sz+j))/\RepC w g c (getV w b off (i * sz+j)):=by
   intro i row j c e1 e2;obtain⟨u,k1,k2⟩:=h5 i row j c e1 e2 (Ig (hn row (Jh e1)) e2);rw[Jav]at k1;simp only[getV,k1,J1];exact⟨trivial,k2⟩
  have flat:∀q,q<ax s * sz->w.cell? ⟨b,off+q,none⟩=some (getV w b off q)/\(getV w b off q).oneCell'=true:=by
   intro q hq;obtain⟨a1,a2,a3⟩:=DT hq;have e1:(rowsOf H s)[q / sz]? = some ((rowsOf H s)[q / sz]'ZD):=Jd ZD;have hl:=h3 _ _ e1;have e2:((rowsOf H s)[q / sz]'ZD)[q % sz]? = some (((rowsOf H s)[q / sz]'ZD)[q % sz]'ZD):=Jd ZD;have:=known _ _ _ _ e1 e2;rw[a3]at this;exact⟨this.1,this.2.one⟩
  refine⟨getV w b off,?_,λq hq=>(flat q hq).2,λi row j c e1 e2=>(known i row j c e1 e2).2⟩;simp only[Builtin.firstCells];exact run_loadCells w _ _ _ λj hj=>by rw[BT];exact (flat j hj).1
theorem IZ (n:Nat):∀(r c:Nat),Builtin.growBy n r c<=max c (n+(n+768) / 4)
 |0,c=>by simp[Builtin.growBy];omega
 |r+1,c=>by
  simp only[Builtin.growBy];split
  ·omega
  ·have:=IZ n r (c+(c+768) / 4);omega
theorem Qbi2 {need cap:Nat}(h:cap<need):Builtin.nextslicecap need cap<=2 * need+512:=by
 unfold Builtin.nextslicecap;split
 ·omega
 ·split
  ·omega
  ·have:=IZ need 4 cap;omega
theorem Q6q {ats:Array TypeId}{ty t t2 el el2:TypeId}{i:TypeInfo}{sz:Nat}(h0:ats[0]? = some t)(h1:ats[1]? = some t2)(hu:P.underlying t=some (.slice el))(dx:P.underlying t2=some (.slice el2))
  (hi:P.info? el=some i) (hz:i.size=sz) {base:Option Addr} {n cap m cap2:Nat} {a2:Option Addr} {f:Nat->Value} (eN:n+m<=cap)
  (hf:(Builtin.firstCells sz m (.slice a2 m cap2)).run P w=.ok ((List.range (m * sz)).map f).toArray w)
  {w':World} (aR:∀x,base=some x->(storeCells (x.add (n * sz)) ((List.range (m * sz)).map f)).run P w=.ok () w') (kO:base=none->w'=w) :
  (Builtin.append_ ats ty #[.slice base n cap,.slice a2 m cap2]).run P w=.ok (.slice base (n+m) cap) w':=by
 simp only[Builtin.append_,h0,h1];simp[Ao hu,Ao dx,Bh hi,hz,Builtin.lenOf,eN,hf]
 cases base with
 |none=>simp[kO rfl]
 |some x=>simp[aR x rfl]
theorem KA {ats:Array TypeId}{ty t t2 el el2:TypeId}{i:TypeInfo}{sz:Nat}{z:Value}(h0:ats[0]? = some t)(h1:ats[1]? = some t2)(hu:P.underlying t=some (.slice el))(dx:P.underlying t2=some (.slice el2))
  (hi:P.info? el=some i) (hz:i.size=sz) (dH:i.zero=some z) (iW:z.cells.size=sz) (nc:i.bytes<=128) (na:i.bytes≠0) {base:Option Addr} {n cap m cap2:Nat} {a2:Option Addr} {f f1:Nat->Value} (eN:¬n+m<=cap) (eu:n+m<=LIM)
  (nO:(Builtin.firstCells sz m (.slice a2 m cap2)).run P w.drew=.ok ((List.range (m * sz)).map f).toArray w.drew)
  (pB:(Builtin.firstCells sz n (.slice base n cap)).run P w.drew=.ok ((List.range (n * sz)).map f1).toArray w.drew) :
  ∃(newCap:Nat) (rest:Array Value),n+m<=newCap/\rest.size=(newCap-(n+m)) * sz/\
   (Builtin.append_ ats ty #[.slice base n cap,.slice a2 m cap2]).run P w=.ok (.slice (some ⟨w.heap.size,0,none⟩) (n+m) newCap)
    (w.drew.alloc (.cells (((List.range (n * sz)).map f1).toArray++((List.range (m * sz)).map f).toArray++rest) el)):=by
 rw[Cp]at eu;have tg:=Qbi2 (Nat.lt_of_not_le eN);have rB:Builtin.nextslicecap (n+m) cap * i.bytes<=(2 * (n+m)+512) * 128:=Nat.mul_le_mul tg nc;have h48:(2:Nat) ^ 48=281474976710656:=ZR
 generalize dS:(Question.appendCap (n+m) cap el).cut (w.tape w.drawn (.appendCap (n+m) cap el))=newCap;refine⟨newCap,Builtin.zeroCells z.cells (newCap-(n+m)),?_,?_,?_⟩
 ·rw[<-dS];simp[Question.cut]
 ·simp[Builtin.zeroCells,iW]
 ·simp only[Builtin.append_,h0,h1];simp[Ao hu,Ao dx,Bh hi,hz,Builtin.lenOf,eN,GU hi,na];rw[if_neg ZD];simp[Question.forced,dS,pB,nO,Eb hi dH,newRow];rw[<-Jal];simp
def G.handOver (g:G)(l l' st n nb sz base:Nat):G:=
 { g with
  own:=λb=>if b=nb then some (l',[])else match g.own b with
   |none=>none
   |some (m,[])=>if m=l then none else some (m,[])
   |some (m,i::r)=>if m=l then (if st<=i/\i<st+n then some (l',(i-st)::r)else none)else some (m,i::r)
  io:=λx=>if x=l' then some (nb,sz,base)else g.io x }
theorem Qanj {l l' st n nb sz base b m:Nat}{q:List Nat}(hb:g.own b=some (m,q))(hm:m≠l)(mD:b≠nb):(g.handOver l l' st n nb sz base).own b=some (m,q):=by
 simp only[G.handOver,if_neg mD,hb]
 cases q with
 |nil=>simp[hm]
 |cons i r=>simp[hm]
theorem Q1g {l l' st n nb sz base b i:Nat}{r:List Nat}(hb:g.own b=some (l,(st+i)::r))(hi:i<n)(mD:b≠nb):(g.handOver l l' st n nb sz base).own b=some (l',i::r):=by
 simp only[G.handOver,if_neg mD,hb];simp[hi]
theorem Ny (hs:Sat H g w){l l':Nat}(cZ:g.io l'=none)(hl:H l≠.none){st n nb sz base:Nat}{w':World}{rows:List (List C)}
  (mD:(nb<w.heap.size/\g.own nb=some (l,[]))\/nb=w.heap.size) (bj:w.heap.size<=w'.heap.size) (m9:nb<w'.heap.size) (mh:w'.heap.size<=max w.heap.size (nb+1)) (jy:∀b,b≠nb->b<w.heap.size->w'.heap[b]? = w.heap[b]?)
  (gN:nb<w.heap.size->∀T k,w.shape? nb=some (T,k)->w'.shape? nb=some (T,k)) (ht:w'.tape=w.tape) (mt:w'.os=w.os) (rp:w'.output=w.output)
  (aX:Le g w (g.handOver l l' st n nb sz base) w'->SatVec (g.handOver l l' st n nb sz base) w' l' sz rows) (xZ:∀v es,H l≠.map v es) :
  Stp H g w ((H.set l .none).set l' (.vec sz rows)) (g.handOver l l' st n nb sz base) w':=by
 have lI:l≠l':=λh=>by subst h;exact hl (hs.none_of_io cZ)
 have da:g.per nb=false:=by
  rcases mD with ⟨_,h⟩|h
  ·exact hs.excl _ _ h
  ·exact (hs.fresh nb ZD).1
 have aP:Le g w (g.handOver l l' st n nb sz base) w':=by
  refine⟨λb hb=>⟨hb,jy b (λh=>by subst h;rw[da]at hb;simp at hb) (E8 hs hb)⟩,λm x hm=>?_,bj,λb T k hn=>?_,ht,mt,rp⟩
  ·simp only[G.handOver];have:m≠l':=λh=>by subst h;rw[cZ]at hm;simp at hm
   rw[if_neg this];exact hm
  ·have ae:=EJ hn;by_cases h:b=nb
   ·subst h;exact gN ae T k hn
   ·rw[PC (jy b h ae)];exact hn
 have be:∀(m b:Nat) (q:List Nat),g.own b=some (m,q)->m≠l->b≠nb:=by
  intro m b q hb hm h;subst h;rcases mD with ⟨_,h⟩|h
  ·rw[hb]at h;simp at h;exact hm h.1
  ·have:=Cf hs hb;omega
 have hk:∀m,m≠l->Cn g w (g.handOver l l' st n nb sz base) w' m:=by
  intro m hm b q hb;have h1:=be m b q hb hm;exact⟨Qanj hb hm h1,jy b h1 (Cf hs hb)⟩
 refine⟨aP,λm hm hn=>?_,⟨λb hb=>?_,?_,λb y hb=>?_,λb m q hb=>?_,λm=>?_⟩⟩
 ·have h1:m≠l':=λh=>by subst h;exact hm cZ
  have h2:m≠l:=λh=>by subst h;exact hl hn
  rw[Heap.af _ _ h1,Heap.af _ _ h2];exact⟨hn,λb q hb=>hk m h2 b q hb⟩
 ·have h1:w.heap.size<=b:=ZD
  have h2:b≠nb:=ZD
  refine⟨(hs.fresh b h1).1,?_⟩;simp only[G.handOver,if_neg h2,(hs.fresh b h1).2]
 ·obtain⟨N,hN⟩:=hs.names;refine⟨max N (l'+1),λm hm=>?_⟩;simp only[G.handOver];rw[if_neg ZD];exact hN m ZD
 ·by_cases h:b=nb
  ·subst h;exact da
  ·have:∃z,g.own b=some z:=by
    simp only[G.handOver,if_neg h]at hb
    cases ho:g.own b with
    |none=>rw[ho]at hb;simp at hb
    |some z=>exact⟨z,rfl⟩
   obtain⟨z,hz⟩:=this;exact hs.excl b z hz
 ·simp only[G.handOver]at hb⊢;split
  ·simp
  ·rename_i pf
   split at hb
   ·simp at hb;exact absurd hb.1.symm pf
   ·split at hb
    ·simp at hb
    ·rename_i m0 ho
     split at hb
     ·simp at hb
     ·simp at hb;obtain⟨rfl,rfl⟩:=hb;exact hs.named _ _ _ ho
    ·rename_i m0 i r ho
     split at hb
     ·split at hb
      ·simp at hb;exact absurd hb.1.symm pf
      ·simp at hb
     ·simp at hb;obtain⟨rfl,rfl⟩:=hb;exact hs.named _ _ _ ho
 ·by_cases em:m=l'
  ·subst em;rw[Heap.aC];exact .inr (aX aP)
  ·rw[Heap.af _ _ em];by_cases hm:m=l
   ·subst hm;rw[Heap.aC];trivial
   ·have dt:((H.set l .none).set l' (.vec sz rows)) m=H m:=(by rw[Heap.af _ _ em,Heap.af _ _ hm]);rw[Heap.af _ _ hm,<-dt];refine SatObj.keep hs aP (hk m hm) dt λk v left cur hc v' es hv=>?_;by_cases h1:k=l'
    ·subst h1;rw[Heap.aC]at hv;simp at hv
    ·rw[Heap.af _ _ h1]at hv;by_cases h2:k=l
     ·subst h2;rw[Heap.aC]at hv;simp at hv
     ·rw[Heap.af _ _ h2]at hv;exact .inl ⟨hv,hk k h2⟩
theorem GK {g':G}{w':World}{l' sz nb base n m:Nat}{T:TypeId}{arr:Array Value}{R1 R2:List (List C)}(cg:g'.io l'=some (nb,sz,base))(iH:g'.own nb=some (l',[]))
  (hw:w'.heap[nb]? = some (.cells arr T (0,0))) (aL:base+(n+m) * sz<=arr.size) (eu:n+m<=LIM) (pS:R1.length=n) (tE:R2.length=m)
  (mL:∀(i:Nat) (row:List C),R1[i]? = some row->row.length=sz) (ft:∀(i:Nat) (row:List C),R2[i]? = some row->row.length=sz)
  (h1:∀(i:Nat) (row:List C) (j:Nat) (c:C),R1[i]? = some row->row[j]? = some c->∃v,arr[base+i * sz+j]? = some v/\RepO w' g' l' [i,j] c v)
  (h2:∀(i:Nat) (row:List C) (j:Nat) (c:C),R2[i]? = some row->row[j]? = some c->∃v,arr[base+(n+i) * sz+j]? = some v/\RepC w' g' c v) :
  SatVec g' w' l' sz (R1++R2):=by
 have bg:∀(i:Nat) (row:List C) (j:Nat) (c:C),(R1++R2)[i]? = some row->row[j]? = some c->∃v,arr[base+i * sz+j]? = some v/\RepO w' g' l' [i,j] c v:=by
  intro i row j c e1 e2;by_cases hi:i<n
  ·rw[Jl ZD]at e1;exact h1 i row j c e1 e2
  ·rw[Jn ZD]at e1;obtain⟨v,k1,k2⟩:=h2 (i-R1.length) row j c e1 e2;rw[pS,show n+(i-n)=i by omega]at k1;exact⟨v,k1,.plain _ _ _ _ k2⟩
 refine⟨nb,base,T,arr,λi j=>arr.getD (base+i * sz+j) undef,cg,iH,hw,by rw[Jae,pS,tE];exact aL,by rw[Jae,pS,tE];exact eu,λi row e1=>?_,λi row j c e1 e2=>?_,λi row j c e1 e2=>?_⟩
 ·by_cases hi:i<n
  ·rw[Jl ZD]at e1;exact mL i row e1
  ·rw[Jn ZD]at e1;exact ft _ row e1
 ·obtain⟨v,k1,k2⟩:=bg i row j c e1 e2;show _=some (arr.getD (base+i * sz+j) undef);rw[Je,k1];rfl
 ·obtain⟨v,k1,k2⟩:=bg i row j c e1 e2;show RepO _ _ _ _ _ (arr.getD (base+i * sz+j) undef);rw[Je,k1];exact k2
theorem Oc {n m sz:Nat}{f1 f:Nat->Value}{rest:Array Value} :
  (∀i j,i<n->j<sz->(((List.range (n * sz)).map f1).toArray++((List.range (m * sz)).map f).toArray++rest)[0+i * sz+j]? = some (f1 (i * sz+j)))/\
  (∀i j,i<m->j<sz->(((List.range (n * sz)).map f1).toArray++((List.range (m * sz)).map f).toArray++rest)[0+(n+i) * sz+j]? = some (f (i * sz+j))):=by
 constructor
 ·intro i j hi hj;have:=GD hi hj;rw[Jal,Jak ZJ];simp only[Ja0,Jj,J4];rw[Jai this];rfl
 ·intro i j hi hj;have:=GD hi hj;have e0:0+(n+i) * sz+j=n * sz+(i * sz+j):=Zav
  rw[e0,Jal,Array.getElem?_append_right ZF];rw[Jak ZJ];simp only[Ja0,Jj,List.size_toArray,List.length_map,Jbh,Nat.add_sub_cancel_left];rw[Jai this];rfl
def G.newVirt (g:G)(l sz:Nat):G:={ g with io:=λx=>if x=l then some (0,sz+1,0)else g.io x }
theorem Lk (hs:Sat H g w){l:Nat}(hl:g.io l=none)(sz:Nat):Stp H g w (H.set l (.vec sz [])) (g.newVirt l sz) w:=by
 have aP:Le g w (g.newVirt l sz) w:=by
  refine⟨λb hb=>⟨hb,rfl⟩,λm x hm=>?_,Jv _,λ_ _ _ h=>h,rfl,rfl,rfl⟩;simp only[G.newVirt];have:m≠l:=λh=>by subst h;rw[hl]at hm;simp at hm
  rw[if_neg this];exact hm
 have hk:∀m,Cn g w (g.newVirt l sz) w m:=λm b q hb=>⟨hb,rfl⟩;refine⟨aP,λm hm hn=>?_,⟨hs.fresh,?_,hs.excl,λb m q hb=>?_,λm=>?_⟩⟩
 ·have:m≠l:=λh=>by subst h;exact hm hl
  rw[Heap.af _ _ this];exact⟨hn,λb q hb=>hk m b q hb⟩
 ·obtain⟨N,hN⟩:=hs.names;refine⟨max N (l+1),λm hm=>?_⟩;simp only[G.newVirt];rw[if_neg ZD];exact hN m ZD
 ·simp only[G.newVirt];split
  ·simp
  ·exact hs.named b m q hb
 ·by_cases hm:m=l
  ·subst hm;rw[Heap.aC];exact .inl ⟨rfl,_,by simp[G.newVirt];rfl,ZF⟩
  ·have dt:=Heap.af H (.vec sz []) hm;rw[dt,<-dt];refine SatObj.keep hs aP (hk m) dt λm' v left cur hc v' es hv=>?_;by_cases em:m'=l
   ·subst em;rw[Heap.aC]at hv;simp at hv
   ·rw[Heap.af _ _ em]at hv;exact .inl ⟨hv,hk m'⟩
theorem Yz (hs:Sat H g w)(l:Nat)(hm:∀v es,H l≠.map v es):Stp H g w (H.set l .none) g w:=by
 refine⟨.refl _ _,λm hm hn=>?_,⟨hs.fresh,hs.names,hs.excl,hs.named,λm=>?_⟩⟩
 ·by_cases h:m=l
  ·subst h;rw[Heap.aC];exact⟨rfl,λb q hb=>⟨hb,rfl⟩⟩
  ·rw[Heap.af _ _ h];exact⟨hn,λb q hb=>⟨hb,rfl⟩⟩
 ·by_cases h:m=l
  ·subst h;rw[Heap.aC];trivial
  ·have dt:=Heap.af H .none h;rw[dt,<-dt];refine SatObj.keep hs (.refl _ _) (λb q hb=>⟨hb,rfl⟩) dt λm' v left cur hc v' es hv=>?_;by_cases em:m'=l
   ·subst em;rw[Heap.aC]at hv;simp at hv
   ·rw[Heap.af _ _ em]at hv;exact .inl ⟨hv,λb q hb=>⟨hb,rfl⟩⟩
theorem Vp {sz:Nat}{x y:Opd}{x' y':Operand}{ats:Array TypeId}{t t2 el el2:TypeId}{i:TypeInfo}{z:Value}{K:V->Heap->Prop}
  (hm:o.op=.call { callee:=.builtin .append,args:=#[x',y'],argTypes:=ats }) (h0:ats[0]? = some t) (h1:ats[1]? = some t2) (hu:P.underlying t=some (.slice el)) (dx:P.underlying t2=some (.slice el2))
  (hi:P.info? el=some i) (hz:i.size=sz) (dH:i.zero=some z) (iW:z.cells.size=sz) (nc:i.bytes<=128) (na:i.bytes≠0) (hx:mO x x'=true) (hy:mO y y'=true)
  (hs:Sat H g w) (he:EnvOk w g e a) (hp:p=true) (ho:(EOp.app sz x y).eff P p e H K):EOk P H g w a o K:=by
 simp only[EOp.eff]at ho;obtain⟨q1,q2,q3,q4,q5⟩:=ho;have eM:=An he hx hp q1;have jL:=An he hy hp q2;rw[Bo q3]at eM;rw[Bo q4]at jL;have gJ:=eM.aK;have fN:=jL.aK;generalize kB:a.eval x'=xv at gJ;generalize uN:a.eval y'=yv at fN;generalize (x.v e).c1=A at gJ q5;generalize (y.v e).c1=B at fN q5;have cR:(execOp a.eval o).run P w=((Builtin.append_ ats o.type #[xv,yv]).run P w).andThen λv w'=>.ok (.value v) w':=by
  simp[execOp,hm,resolve,invoke,builtin,kB,uN]
 unfold appT at q5;obtain⟨b1,b2,q5⟩:=q5;obtain⟨ady,capy,lB,by1,by2,by3,by4⟩:=Ga hs fN b1;rw[b2]at by3;have jc:=Iy hs;split at q5
 ·
  rename_i z' rows
  obtain⟨rfl,c2,c3,c4,c5⟩:=q5;have kR:∀r∈rowsOf H B,an r=true:=λr hr=>c3 r (Ja2 _ hr);have jm:∃ad,xv=.slice ad rows.length rows.length:=by
   cases gJ with
   |ca _ _ ad=>exact⟨ad,rfl⟩
   |sl _ _ _ b off cap val hl hf eL da eY qq nw=>rw[hf rfl];exact⟨_,rfl⟩
  obtain⟨ad,rfl⟩:=jm;by_cases lH:ax B=0
  ·have cx:rows=[]:=by
    rcases c2 with h|h
    ·exact h
    ·exact absurd (Jy.1 ZD) h
   subst cx;obtain⟨l,hl,xn⟩:=hs.newName;obtain⟨f,f1,f2,f3⟩:=G9 hs fN b1 b2 kR;rw[lB]at f1;have cO:=Q6q (P:=P) (w:=w) (ty:=o.type) (base:=ad) (n:=0) (cap:=0) (m:=ax B) h0 h1 hu dx hi hz ZD f1 (w':=w)
    (λx _=>by rw[lH];simp[storeCells]) (λ_=>rfl)
   refine EOk.value (v:=.slice ad (0+ax B) 0) (by rw[cR,lB];simp only[Ja1];rw[cO];rfl) (c5 l xn) ?_ ?_ (g':=g.newVirt l z')
   ·have uM:rowsOf H B=[]:=Jy.1 ZD;rw[uM];exact Lk hs hl z'
   ·simp only[Ja1,lH,Jz];exact .c _ _ (.bZ _ _ _ _)
  ·obtain⟨l,hl,xn⟩:=jc.sat.newName;have w6:=gJ.mono jc.le;have pJ:=fN.mono jc.le;have hA:∀r∈rowsOf H (C.sl true z' rows),an r=true:=λr hr=>c3 r (Ja6 _ hr);obtain⟨f,f1,f2,f3⟩:=G9 jc.sat pJ b1 b2 kR;obtain⟨f',f1',f2',f3'⟩:=G9 jc.sat w6 (s:=.sl true z' rows) trivial (sz:=z') rfl hA;rw[lB]at f1;simp only[ax]at f1';obtain⟨newCap,rest,k1,k2,k3⟩:=KA (P:=P) (w:=w) (ty:=o.type) h0 h1 hu dx hi hz dH iW nc na (base:=ad) (n:=rows.length) (cap:=rows.length) (m:=ax B) ZD c4 f1 f1';have b7:=Oc (n:=rows.length) (m:=ax B) (sz:=z') (f1:=f') (f:=f) (rest:=rest);generalize dD:(((List.range (rows.length * z')).map f').toArray++((List.range (ax B * z')).map f).toArray++rest)=arr at k3 b7;have lr:arr.size=newCap * z':=by
    rw[<-dD];simp[k2];rw[<-Jm,<-Jm];congr 1;omega
   have aR:=Da jc.sat hl z' 0 (.cells arr el) (.vec z' (rows++rowsOf H B)) (λg' hg=>by
    subst hg;have aP:=Ef jc.sat hl z' 0 (.cells arr el);refine .inr (GK (nb:=w.drew.heap.size) (base:=0) (T:=el) (arr:=arr) (n:=rows.length) (m:=ax B) ZN ZN (BX _ _)
     (by rw[lr,J4];exact Jp _ k1) c4 rfl ZD ?_ by3 ?_ ?_)
    ·cases gJ with
     |ca=>simp
     |sl _ _ _ b off cap val hl hf eL da eY qq nw=>exact eY
    ·intro i row j c e1 e2;have rF:row.length=z':=by
      cases gJ with
      |ca=>simp at e1
      |sl _ _ _ b off cap val hl hf eL da eY qq nw=>exact eY _ _ e1
     refine⟨f' (i * z'+j),b7.1 i j ?_ ?_,.plain _ _ _ _ ((f3' i row j c e1 e2).mono aP)⟩
     ·rcases Jg i rows.length with h|h
      ·exact h
      ·rw[Jf h]at e1;simp at e1
     ·rw[<-rF];rcases Jg j row.length with h|h
      ·exact h
      ·rw[Jf h]at e2;simp at e2
    ·intro i row j c e1 e2;refine⟨f (i * z'+j),b7.2 i j ?_ ?_,(f3 i row j c e1 e2).mono aP⟩
     ·rcases Jg i (rowsOf H B).length with h|h
      ·omega
      ·rw[Jf h]at e1;simp at e1
     ·rw[<-by3 i row e1];rcases Jg j row.length with h|h
      ·exact h
      ·rw[Jf h]at e2;simp at e2)
   refine EOk.value (v:=.slice (some ⟨w.heap.size,0,none⟩) (rows.length+ax B) newCap) (by rw[cR,lB,k3];rfl) (c5 l xn) (jc.trans aR) ?_;have:=RepC.ah (w:=w.drew.alloc (.cells arr el)) (g:=g.newObj l w.drew.heap.size z' 0) l z' 0 (rows.length+ax B) newCap w.heap.size 0 el arr.size ZN k1
    Zaa (by rw[lr];simp)
   simpa using RepV.c _ _ this
 ·
  rename_i l z' st n
  split at q5
  ·rename_i y0 rows hH
   obtain⟨tM,tQ,c2,kR,c4,c5⟩:=q5;subst tQ;subst tM;have aX:=hs.objs l;rw[hH]at aX;have mI:H l≠.none:=ZaB
   have iM:∀v es,H l≠.map v es:=ZaB
   have ll:(∃ad,xv=.slice ad 0 0/\n=0)\/∃b base cap T mm,xv=.slice (some ⟨b,base+st * z',none⟩) n cap/\g.io l=some (b,z',base)/\n<=cap/\w.shape? b=some (T,mm)/\base+(st+cap) * z'<=mm:=by
    cases gJ with
    |bZ _ _ _ ad=>exact .inl ⟨ad,rfl,rfl⟩
    |ah _ _ _ _ cap b base T mm cg hn gN eB=>exact .inr ⟨b,base,cap,T,mm,rfl,cg,hn,gN,eB⟩
   have b8:((rows.drop st).take n).length=n:=ZJ
   have gQ:∀(i:Nat) (row:List C),((rows.drop st).take n)[i]? = some row->i<n/\rows[st+i]? = some row:=by
    intro i row h;simp only[Jo,Jt]at h;split at h
    ·exact⟨by assumption,h⟩
    ·simp at h
   have jlt:∀{row:List C} {j:Nat} {c:C} {k:Nat},row.length=k->row[j]? = some c->j<k:=by
    intro row j c k hk hj;rw[<-hk];rcases Jg j row.length with h|h
    ·exact h
    ·rw[Jf h]at hj;simp at hj
   have grow:∀(ad:Option Addr) (cap:Nat),xv=.slice ad n cap->¬n+ax B<=cap->EOk P H g w a o K:=by
    intro ad cap jm tf;have pJ:=fN.mono jc.le;obtain⟨f,f1,f2,f3⟩:=G9 jc.sat pJ b1 b2 kR;rw[lB]at f1;have iK:∃f':Nat->Value,(Builtin.firstCells z' n (.slice ad n cap)).run P w.drew=.ok ((List.range (n * z')).map f').toArray w.drew/\
      ∀(i:Nat) (row:List C) (j:Nat) (c:C),((rows.drop st).take n)[i]? = some row->row[j]? = some c->RepO w g l [st+i,j] c (f' (i * z'+j)):=by
     rcases ll with ⟨ad',h1,h2⟩|⟨b,base,cap',T,mm,h1,h2,h3,h4,h5⟩
     ·rw[jm]at h1;simp only[Value.slice.injEq]at h1;subst h2;refine⟨λ_=>undef,?_,λi row j c e1 _=>by simp at e1⟩
      cases ad with
      |none=>simp[Builtin.firstCells]
      |some q=>simp[Builtin.firstCells,loadCells,loadCellsFrom]
     ·rw[jm]at h1;simp only[Value.slice.injEq]at h1;obtain⟨rfl,_,rfl⟩:=h1;obtain⟨b',base',T',cs,val,r1,r2,r3,r4,r5,r6,r7,r8⟩:=SatVec.of aX h2;rw[h2]at r1;simp only[Jc,Jk,true_and]at r1;obtain⟨rfl,rfl⟩:=r1;have aL:(st+n) * z'<=rows.length * z':=Jp _ c2;rw[Jm]at aL;refine⟨λq=>cs.getD (base+st * z'+q) undef,?_,λi row j c e1 e2=>?_⟩
      ·simp only[Builtin.firstCells];refine run_loadCells _ _ _ _ λj hj=>?_;rw[BT];rw[show w.drew.cell? ⟨b,base+st * z'+j,none⟩=w.cell? ⟨b,base+st * z'+j,none⟩ from rfl,DX r3];rw[Je,Jb ZD];rfl
      ·obtain⟨hi,e1'⟩:=gQ i row e1;have:=r7 _ _ _ _ e1' e2;rw[Jm]at this;have e3:base+st * z'+(i * z'+j)=base+(st * z'+i * z')+j:=ZD;show RepO _ _ _ _ _ (cs.getD (base+st * z'+(i * z'+j)) undef);rw[e3,Je,this];exact r8 _ _ _ _ e1' e2
    obtain⟨f',f1',f3'⟩:=iK;obtain⟨newCap,rest,k1,k2,k3⟩:=KA (P:=P) (w:=w) (ty:=o.type) h0 h1 hu dx hi hz dH iW nc na (base:=ad) (n:=n) (cap:=cap) (m:=ax B) tf c4 f1 f1';have b7:=Oc (n:=n) (m:=ax B) (sz:=z') (f1:=f') (f:=f) (rest:=rest);generalize dD:(((List.range (n * z')).map f').toArray++((List.range (ax B * z')).map f).toArray++rest)=arr at k3 b7;have lr:arr.size=newCap * z':=by
     rw[<-dD];simp[k2];rw[<-Jm,<-Jm];congr 1;omega
    obtain⟨l',cZ,ie⟩:=jc.sat.newName;have lI:l'≠l:=λh=>ZaN;have aR:=Ny jc.sat (l:=l) (l':=l') cZ mI (st:=st) (n:=n) (nb:=w.drew.heap.size) (sz:=z') (base:=0) (w':=w.drew.alloc (.cells arr el)) (rows:=(rows.drop st).take n++rowsOf H B)
     (.inr rfl) ZF ZF ZF (λb hb ae=>CW _ _ ae) (λh=>absurd h (Nat.lt_irrefl _)) rfl rfl rfl (λaP=>by
      refine GK (nb:=w.drew.heap.size) (base:=0) (T:=el) (arr:=arr) (n:=n) (m:=ax B) Zas Zas (BX _ _)
       (by rw[lr,J4];exact Jp _ k1) c4 b8 ZD (λi row h=>?_) by3 (λi row j c e1 e2=>?_) (λi row j c e1 e2=>?_)
      ·obtain⟨hi,h'⟩:=gQ i row h;rcases aX with ⟨r1,_⟩|⟨b',base',T',cs,val,r1,r2,r3,r4,r5,r6,r7,r8⟩
       ·rw[r1]at h';simp at h'
       ·exact r6 _ _ h'
      ·obtain⟨hi,h'⟩:=gQ i row e1;have dA:row.length=z':=by
        rcases aX with ⟨r1,_⟩|⟨b',base',T',cs,val,r1,r2,r3,r4,r5,r6,r7,r8⟩
        ·rw[r1]at h';simp at h'
        ·exact r6 _ _ h'
       refine⟨f' (i * z'+j),b7.1 i j hi (jlt dA e2),?_⟩;refine (f3' i row j c e1 e2).move (jc.le.trans aP) λq b hb=>?_;have bG:=Cf hs hb;have cM:b≠w.drew.heap.size:=(by simp only[World.size_drew];omega);exact⟨Q1g hb hi cM,CW _ _ bG⟩
      ·refine⟨f (i * z'+j),b7.2 i j ?_ (jlt (by3 i row e1) e2),(f3 i row j c e1 e2).mono aP⟩;rcases Jg i (rowsOf H B).length with h|h
       ·omega
       ·rw[Jf h]at e1;simp at e1) iM
    refine EOk.value (v:=.slice (some ⟨w.heap.size,0,none⟩) (n+ax B) newCap) (by rw[cR,jm,lB,k3];rfl) (c5 l' (by rw[Heap.af _ _ lI];exact ie)) (jc.trans aR) ?_;have:=RepC.ah (w:=w.drew.alloc (.cells arr el)) (g:=g.handOver l l' st n w.drew.heap.size z' 0) l' z' 0 (n+ax B) newCap w.heap.size 0 el arr.size Zas k1
     Zaa (by rw[lr];simp)
    simpa using RepV.c _ _ this
   rcases ll with ⟨ad,jm,rfl⟩|⟨b,base,cap,T,mm,jm,cg,yd,gN,eB⟩
   ·by_cases lH:ax B=0
    ·
     obtain⟨f,f1,f2,f3⟩:=G9 hs fN b1 b2 kR;rw[lB]at f1;have cO:=Q6q (P:=P) (w:=w) (ty:=o.type) (base:=ad) (n:=0) (cap:=0) (m:=ax B) h0 h1 hu dx hi hz ZD f1 (w':=w)
      (λx _=>by rw[lH];simp[storeCells]) (λ_=>rfl)
     have hd:=Yz hs l iM;obtain⟨l',cZ,ie⟩:=hd.sat.newName;refine EOk.value (v:=.slice ad (0+ax B) 0) (by rw[cR,jm,lB,cO];rfl) (c5 l' ie) ?_ ?_ (g':=g.newVirt l' z')
     ·have uM:rowsOf H B=[]:=Jy.1 ZD;rw[uM];simp only[List.take_zero,Jaz];exact hd.trans (Lk hd.sat cZ z')
     ·simp only[lH,Jz];exact .c _ _ (.bZ _ _ _ _)
    ·exact grow ad 0 jm ZD
   ·by_cases eN:n+ax B<=cap
    ·
     obtain⟨b',base',T',cs,val,r1,r2,r3,r4,r5,r6,r7,r8⟩:=SatVec.of aX cg;rw[cg]at r1;simp only[Jc,Jk,true_and]at r1;obtain⟨rfl,rfl⟩:=r1;have vz:mm=cs.size/\T=T':=by
      simp only[World.shape?,r3,Jc,Jk]at gN;exact⟨gN.2.symm,gN.1.symm⟩
     obtain⟨rfl,rfl⟩:=vz;obtain⟨f,f1,f2,f3⟩:=G9 hs fN b1 b2 kR;rw[lB]at f1;have nQ:(st+(n+ax B)) * z'<=(st+cap) * z':=Jp _ ZD;rw[Jm,Jm]at nQ;have aL:base+st * z'+n * z'+ax B * z'<=cs.size:=by
      rw[Jm]at eB nQ;omega
     have jf:=λk=>OQ (base+st * z'+n * z') ((List.range (ax B * z')).map f) 0 cs k ZJ;generalize sp:(((List.range (ax B * z')).map f).zipIdx 0).foldl (λ(cs:Array Value) (x:Value×Nat)=>cs.setIfInBounds (base+st * z'+n * z'+x.2) x.1) cs=cs' at jf;have k8:=Ps (P:=P) ((List.range (ax B * z')).map f) 0 w b (base+st * z'+n * z') cs T r3 ZJ (by
      intro v hv;simp only[Jbr,List.mem_range]at hv;obtain⟨q,hq,rfl⟩:=hv;exact f2 q hq)
     rw[sp]at k8;have cO:=Q6q (P:=P) (w:=w) (ty:=o.type) (base:=some ⟨b,base+st * z',none⟩) (n:=n) (cap:=cap) (m:=ax B) h0 h1 hu dx hi hz eN f1 (w':=World.az w b cs' T)
      (λx hx=>by simp only[Jc]at hx;subst hx;rw[BT];exact k8) (λh=>ZK)
     have iU:=Ed r3;obtain⟨l',cZ,ie⟩:=hs.newName;have lI:l'≠l:=λh=>ZaN;have mh:cs'.size=cs.size:=(jf 0).1;have aR:=Ny hs (l:=l) (l':=l') cZ mI (st:=st) (n:=n) (nb:=b) (sz:=z') (base:=base+st * z') (w':=World.az w b cs' T) (rows:=(rows.drop st).take n++rowsOf H B)
      (.inl ⟨iU,r2⟩) (by simp[World.az]) (by simp[World.az];exact iU) (by simp[World.az];omega) (λb' aU _=>EI aU)
      (λ_ T0 k hk=>by
       simp only[World.shape?,r3,Jc,Jk]at hk;simp only[World.shape?,Gz iU,mh,Jc,Jk];exact hk) rfl rfl rfl (λaP=>by
       refine GK (nb:=b) (base:=base+st * z') (T:=T) (arr:=cs') (n:=n) (m:=ax B) Zas Zas (Gz iU)
        (by rw[mh,Jm];omega) c4 b8 ZD (λi row h=>r6 _ _ (gQ i row h).2) by3 (λi row j c e1 e2=>?_) (λi row j c e1 e2=>?_)
       ·obtain⟨hi,h'⟩:=gQ i row e1;have hj:=jlt (r6 _ _ h') e2;have ae:=GD hi hj;refine⟨val (st+i) j,?_,?_⟩
        ·rw[(jf _).2,if_neg ZD,<-r7 _ _ _ _ h' e2];congr 1;rw[Jm];omega
        ·refine (r8 _ _ _ _ h' e2).move aP λq b2 cI=>?_;have cM:b2≠b:=λh=>(by subst h;rw[r2]at cI;simp at cI);exact⟨Q1g cI hi cM,EI cM⟩
       ·have hj:=jlt (by3 i row e1) e2;have hi:i<ax B:=by
         rcases Jg i (rowsOf H B).length with h|h
         ·omega
         ·rw[Jf h]at e1;simp at e1
        have ae:=GD hi hj;refine⟨f (i * z'+j),?_,(f3 i row j c e1 e2).mono aP⟩;have rB:(n+i) * z'=n * z'+i * z':=(by rw[Jm]);rw[(jf _).2,if_pos ZJ];rw[show base+st * z'+(n+i) * z'+j-(base+st * z'+n * z'+0)=i * z'+j by omega];simp only[Jj];rw[Jai ae];rfl) iM
     refine EOk.value (v:=.slice (some ⟨b,base+st * z',none⟩) (n+ax B) cap) (by rw[cR,jm,lB,cO];rfl) (c5 l' (by rw[Heap.af _ _ lI];exact ie)) aR ?_;have:=RepC.ah (w:=World.az w b cs' T) (g:=g.handOver l l' st n b z' (base+st * z')) l' z' 0 (n+ax B) cap b (base+st * z') T cs.size Zas eN
      (by simp only[World.shape?,Gz iU,mh]) (by rw[J4];rw[Jm]at eB;omega)
     simpa using RepV.c _ _ this
    ·exact grow _ cap jm eN
  ·exact q5.elim
 ·exact q5.elim
end Go.AE
namespace Go.AE
open Go.MapKept (IsKey findNow_spec run_checkKey run_findKey run_keyThatStays)
variable {P:Program}{H:Heap}{g:G}{w:World}{e:Env}{a:Act}{o:Oper}{p:Bool}
theorem Vl {sz:Nat}{zero:List C}{x:Opd}{x' y':Operand}{t el:TypeId}{i:TypeInfo}{z:Value}{K:V->Heap->Prop}(hm:o.op=.makeSlice t x' y')(hu:P.underlying t=some (.slice el))
  (hi:P.info? el=some i) (hz:i.size=sz) (qa:sz≠0) (dH:i.zero=some z) (ik:B5 zero z=true) (iW:zero.length=sz) (nc:i.bytes<=128) (hx:mO x x'=true) (hy:mO x y'=true)
  (hs:Sat H g w) (he:EnvOk w g e a) (hp:p=true) (ho:(EOp.mks sz zero x).eff P p e H K):EOk P H g w a o K:=by
 simp only[EOp.eff]at ho;obtain⟨q1,q2,q3,q4,q5⟩:=ho;have e1:=BV he hx hp q1 q2;have e2:=BV he hy hp q1 q2;generalize hk:Ag (x.v e)=k at *;have hr:=GH (w:=w) (g:=g) ik;rw[Cp]at q4;have xG:IntKind.i64.wrap k=k:=G7 (by unfold inR;simp[IntKind.min,IntKind.max,IntKind.signed,IntKind.bits];omega);have tB:(i.bytes:Int) * k<=128 * 549755813888:=by
  have h1:(i.bytes:Int) * k<=128 * k:=Int.mul_le_mul_of_nonneg_right ZD q3;omega
 have h48:(2:Int) ^ 48=281474976710656:=ZR
 obtain⟨l,hl,hH⟩:=hs.newName;have cE:z.cells.size=sz:=by rw[hr.1,iW]
 have bY:k.toNat * sz=0\/k.toNat * sz≠0:=ZD
 have cO:∃arr:Array Value,(execOp a.eval o).run P w=.ok (.value (.slice (some ⟨w.heap.size,0,none⟩) k.toNat k.toNat)) (w.alloc (.cells arr el))/\arr.size=k.toNat * sz/\
   ∀q,q<k.toNat * sz->arr[q]? = z.cells[q % sz]?:=by
  by_cases hn:k.toNat * sz=0
  ·refine⟨(Array.range 0).map (λ_=>default),?_,ZaF,λq hq=>ZD⟩;simp only[execOp,hm,e1,e2,Instr.makeSlice,Sem.run_bind,Ao hu,Result.andThen_ok,asInt,asIntOf,Sem.run_pure,GU hi,xG];rw[if_neg ZJ];simp[Bh hi,hz,hn,newRow]
  ·refine⟨(Array.range (k.toNat * sz)).map (z.cells[· % z.cells.size]!),?_,ZF,λq hq=>?_⟩
   ·simp only[execOp,hm,e1,e2,Instr.makeSlice,Sem.run_bind,Ao hu,Result.andThen_ok,asInt,asIntOf,Sem.run_pure,GU hi,xG];rw[if_neg ZJ];simp only[Sem.run_bind,run_askRoom,Result.andThen_ok,Bh hi,hz,if_neg hn,Eb hi dH,Sem.run_pure];simp[newRow]
   ·have ae:q % sz<z.cells.size:=(by rw[cE];exact Jbi _ (by omega));simp only[Jam,cE];rw[Jah,if_pos hq];simp[ae]
 obtain⟨arr,h1,h2,h3⟩:=cO;have aP:=Ef hs hl sz 0 (.cells arr el);have aR:=Da hs hl sz 0 (.cells arr el) (.vec sz (List.replicate k.toNat zero)) (λg' hg=>by
  subst hg;have dj:∀(i:Nat) (row:List C),(List.replicate k.toNat zero)[i]? = some row->i<k.toNat/\row=zero:=by
   intro i row h;rw[Jat]at h;split at h
   ·exact⟨by assumption,by simpa using h.symm⟩
   ·simp at h
  have:=GK (g':=g.newObj l w.heap.size sz 0) (w':=w.alloc (.cells arr el)) (l':=l) (sz:=sz) (nb:=w.heap.size) (base:=0) (n:=k.toNat) (m:=0) (T:=el) (arr:=arr) (R1:=List.replicate k.toNat zero) (R2:=[])
   ZN ZN (BX _ _) Zan (by rw[Cp];omega) ZF rfl (λi row h=>by rw[(dj i row h).2,iW]) ZF
   (λi row j c h h'=>by
    obtain⟨bS,rfl⟩:=dj i row h;have hj:j<sz:=by
     rw[<-iW];rcases Jg j row.length with h0|h0
     ·exact h0
     ·rw[Jf h0]at h';simp at h'
    have fz:=GD bS hj;have pd:(i * sz+j) % sz=j:=(by rw[Ja4,Jbn];exact Jbl hj);have rR:j<z.cells.size:=(by rw[cE];exact hj);refine⟨z.cells[j],?_,.plain _ _ _ _ ((hr.2 j c _ h' (Jb rR)).mono aP)⟩;rw[J4,h3 _ fz,pd];exact Jb rR) ZF
  rw[Jaz]at this;exact .inr this)
 refine EOk.value h1 (q5 l hH) aR ?_;have:=RepC.ah (w:=w.alloc (.cells arr el)) (g:=g.newObj l w.heap.size sz 0) l sz 0 k.toNat k.toNat w.heap.size 0 el arr.size ZN (Jv _)
  (by simp only[World.shape?,BX]) Zan
 simpa using RepV.c _ _ this
theorem V1 {K:V->Heap->Prop}{sz:Nat}{parts:List Opd}{t el:TypeId}{n:Nat}{parts':Array (Nat×Operand)}{i:TypeInfo}{z:Value}
  (hm:o.op=.buildSlice t n parts') (hu:P.underlying t=some (.slice el)) (hi:P.info? el=some i) (hz:i.zero=some z) (bj:i.size=sz) (oE:sz≠0)
  (hn:n=parts'.size) (pM:n * sz<=2 ^ 24) (gp:parts.length=parts'.size)
  (hx:∀(j:Nat) (x:Opd) (y:Nat×Operand),parts[j]? = some x->parts'[j]? = some y->y.1=j/\mO x y.2=true)
  (hs:Sat H g w) (he:EnvOk w g e a) (hp:p=true) (hK:(EOp.bslm sz parts).eff P p e H K):EOk P H g w a o K:=by
 simp only[EOp.eff]at hK;obtain⟨ho,hK⟩:=hK;have rk:(parts'.map λ(x:Nat×Operand)=>(x.1,a.eval x.2)).toList=parts'.toList.map λ(x:Nat×Operand)=>(x.1,a.eval x.2):=ZF
 have b7:∀(j:Nat) (y:Nat×Value),(parts'.toList.map λ(x:Nat×Operand)=>(x.1,a.eval x.2))[j]? = some y->
   ∃x y',parts[j]? = some x/\parts'[j]? = some y'/\y=(y'.1,a.eval y'.2):=by
  intro j y hj;simp only[Jj]at hj
  cases cQ:parts'.toList[j]? with
  |none=>rw[cQ]at hj;simp at hj
  |some y'=>
   rw[cQ]at hj;simp at hj;have ae:j<parts.length:=by
    rw[gp];rcases Jg j parts'.size with h|h
    ·exact h
    ·simp[Ji h]at cQ
   exact⟨_,y',Jd ae,by simpa using cQ,hj.symm⟩
 have a8:∀x∈parts,x.fine p e/\(x.v e).cells.length=sz/\(x.v e).cells≠[]:=λx hx=>by
  obtain⟨q1,q2⟩:=ho x hx;exact⟨q1,q2,λhn=>oE (by rw[<-q2,hn];rfl)⟩
 have kU:(parts'.toList.map λ(x:Nat×Operand)=>(x.1,a.eval x.2)).length=n:=ZaF
 obtain⟨out,f1,f2,f3,f4⟩:=F7 sz (parts'.toList.map λ(x:Nat×Operand)=>(x.1,a.eval x.2)) 0
  ((Array.range (n * sz)).map ((if n * sz=0 then #[]else z.cells)[· % (if n * sz=0 then #[]else z.cells).size]!)) (λj y hj=>by
   obtain⟨x,y',e1,e2,rfl⟩:=b7 j y hj;obtain⟨q1,q2⟩:=hx j x y' e1 e2;obtain⟨q3,q4,q5⟩:=a8 x (Jh e1);refine⟨by simp[q1],?_⟩;rw[(Gm (An he q2 hp q3) q5).1,q4]) (by rw[kU];simp)
 obtain⟨l,hl,hH⟩:=hs.newName;have cO:(execOp a.eval o).run P w=.ok (.value (.slice (some ⟨w.heap.size,0,none⟩) n n)) (w.alloc (.cells out el)):=by
  simp only[execOp,hm,Instr.buildSlice,Sem.run_bind,Ao hu,Result.andThen_ok,Bh hi,bj,rk];rw[if_neg ZD];by_cases h0:n * sz=0
  ·simp only[if_pos h0]at f1⊢;simp only[Sem.run_bind,Sem.run_pure,Result.andThen_ok];rw[f1];simp[newRow]
  ·simp only[if_neg h0]at f1⊢;simp only[Sem.run_bind,Sem.run_pure,Result.andThen_ok,Eb hi hz];rw[f1];simp[newRow]
 have fU:(parts.map λx=>(x.v e).cells).length=n:=by simp[gp,hn]
 have fe:∀(k:Nat) (row:List C),(parts.map λx=>(x.v e).cells)[k]? = some row->∃x y,parts[k]? = some x/\parts'[k]? = some y/\row=(x.v e).cells:=by
  intro k row hk;simp only[Jj]at hk
  cases hj:parts[k]? with
  |none=>rw[hj]at hk;simp at hk
  |some x=>
   rw[hj]at hk;simp at hk;have ae:k<parts'.size:=by
    rw[<-gp];rcases Jg k parts.length with h|h
    ·exact h
    ·rw[Jf h]at hj;simp at hj
   exact⟨x,parts'[k],rfl,Jb ae,hk.symm⟩
 have cj:∀(k:Nat) (row:List C) (j:Nat) (c:C),(parts.map λx=>(x.v e).cells)[k]? = some row->row[j]? = some c->∃u,out[0+k * sz+j]? = some u/\RepC w g c u:=by
  intro k row j c hk hj;obtain⟨x,y,e1,e2,rfl⟩:=fe k row hk;obtain⟨q1,q2⟩:=hx k x y e1 e2;obtain⟨q3,q4,q5⟩:=a8 x (Jh e1);have hr:=Gm (An he q2 hp q3) q5;have fH:j<sz:=by
   rw[<-q4];rcases Jg j (x.v e).cells.length with h|h
   ·exact h
   ·rw[Jf h]at hj;simp at hj
  have fK:j<(a.eval y.2).cells.size:=by rw[hr.1,q4];exact fH
  have:=f4 k (y.1,a.eval y.2) j (by simp only[Jj,Ju,e2,Jq]) fH;simp only[J4]at this⊢;rw[this];exact⟨_,Jb fK,hr.2 j c _ hj (Jb fK)⟩
 have mr:out.size=n * sz:=by
  rw[f2];simp
 have hn24:n<=16777216:=by
  have dz:n * 1<=n * sz:=Ja9 _ ZD;have xu:(2:Nat) ^ 24=16777216:=ZR
  rw[xu]at pM;omega
 have aP:=Ef hs hl sz 0 (.cells out el);have aR:=Da hs hl sz 0 (.cells out el) (.vec sz (parts.map λx=>(x.v e).cells)) (λg' hg=>by
  subst hg;have:=GK (g':=g.newObj l w.heap.size sz 0) (w':=w.alloc (.cells out el)) (l':=l) (sz:=sz) (nb:=w.heap.size) (base:=0) (n:=n) (m:=0) (T:=el) (arr:=out) (R1:=parts.map λx=>(x.v e).cells) (R2:=[])
   ZN ZN (BX _ _) (by rw[mr];simp) (by rw[Cp];omega) fU rfl
   (λk row hk=>by obtain⟨x,y,e1,e2,rfl⟩:=fe k row hk;exact (a8 x (Jh e1)).2.1) ZF
   (λk row j c hk hj=>by
    obtain⟨u,e1,e2⟩:=cj k row j c hk hj;exact⟨u,e1,.plain _ _ _ _ (e2.mono aP)⟩) ZF
  rw[Jaz]at this;exact .inr this)
 have cP:parts.length=n:=by rw[gp,hn]
 refine EOk.value cO (hK l hH) aR ?_;rw[cP];have:=RepC.ah (w:=w.alloc (.cells out el)) (g:=g.newObj l w.heap.size sz 0) l sz 0 n n w.heap.size 0 el out.size ZN (Jv _)
  (by simp only[World.shape?,BX]) (by rw[mr];simp)
 simpa using RepV.c _ _ this
theorem Vm {t:TypeId}{K:V->Heap->Prop}(hm:o.op=.makeMap t none)(hs:Sat H g w)(ho:EOp.mkm.eff P p e H K):EOk P H g w a o K:=by
 simp only[EOp.eff]at ho;obtain⟨l,hl,hH⟩:=hs.newName;have aR:=Da hs hl 0 0 (.map #[] 0) (.map 0 []) (λg' hg=>by
  subst hg;exact⟨w.heap.size,#[],0,ZN,ZN,BX _ _,rfl,by simp[Cp],ZF,ZF,ZF⟩)
 refine EOk.value (v:=.map (some w.heap.size)) (w':=w.alloc (.map #[] 0)) (by simp[execOp,hm,Instr.makeMap]) (ho l hH) aR (.c _ _ (.mp l w.heap.size ZN))
def World.putObj' (w:World)(b:Nat)(x:Go.Obj):World:={ w with heap:=w.heap.setIfInBounds b x }
theorem MI {w:World}{b:Nat}{x:Go.Obj}(h:b<w.heap.size):(World.putObj' w b x).heap[b]? = some x:=by simp[World.putObj',h]
theorem R7 {w:World}{b b':Nat}{x:Go.Obj}(h:b'≠b):(World.putObj' w b x).heap[b']? = w.heap[b']?:=by
 simp only[World.putObj'];rw[Js (Ne.symm h)]
theorem OR {b:Nat}{x y:Go.Obj}(h:w.heap[b]? = some x)(hx:∀c T f,x≠.cells c T f):(setObj b y).run P w=.ok () (World.putObj' w b y):=by
 simp only[setObj,Sem.run,h];cases x <;> first|rfl|exact absurd rfl (hx _ _ _)
theorem Pd (hs:Sat H g w){l b:Nat}(hb:g.own b=some (l,[])){ms ms':Array MapEntry}{clock clock':Nat}(hw:w.heap[b]? = some (.map ms clock)){n:Nat}{es es':List (C×V)}(hH:H l=.map n es)
  (aX:Le g w g (World.putObj' w b (.map ms' clock'))->(World.putObj' w b (.map ms' clock')).heap[b]? = some (.map ms' clock')->SatObj (H.set l (.map (n+1) es')) g (World.putObj' w b (.map ms' clock')) l (.map (n+1) es')) :
  Stp H g w (H.set l (.map (n+1) es')) g (World.putObj' w b (.map ms' clock')):=by
 have ae:=Ed hw;refine Q8l hs hb (by simp[World.putObj']) (λb' h=>R7 h) (λT' k hk=>?_) rfl rfl rfl _ ZaB (λaP=>aX aP (MI ae)) (λv x h=>?_)
 ·simp[World.shape?,hw]at hk
 ·simp at h;exact⟨n,es,hH,ZD⟩
theorem Kp:∀(es:List (C×V)) (k:C) (v:V) (j:Nat) (x:C×V),es[j]? = some x->AD k x.1=true->(∀i y,i<j->es[i]? = some y->AD k y.1=false)->updE k v es=es.set j (k,v)
 |[],_,_,_,_,h,_,_=>ZK
 |y::es,k,v,0,x,h,hk,_=>by simp at h;subst h;simp[updE,hk]
 |y::es,k,v,j+1,x,h,hk,hh=>by
  have h0:=hh 0 y ZD rfl;simp only[updE,h0,Jr,if_false,List.set_cons_succ];rw[Kp es k v j x ZP hk λi z hi hz=>hh (i+1) z ZD ZaG]
theorem Ok:∀(es:List (C×V)) (k:C) (v:V),(∀x∈es,AD k x.1=false)->updE k v es=es++[(k,v)]
 |[],_,_,_=>rfl
 |y::es,k,v,h=>by
  simp only[updE,h y ZF,Jr,if_false,List.cons_append];rw[Ok es k v λx hx=>h x Za0]
theorem KS:∀(es:List (C×V)) (k:C) (j:Nat) (x:C×V),es[j]? = some x->AD k x.1=true->(∀i y,i<j->es[i]? = some y->AD k y.1=false)->delE k es=es.eraseIdx j
 |[],_,_,_,h,_,_=>ZK
 |y::es,k,0,x,h,hk,_=>by simp at h;subst h;simp[delE,hk]
 |y::es,k,j+1,x,h,hk,hh=>by
  have h0:=hh 0 y ZD rfl;simp only[delE,h0,Jr,if_false,Jas];rw[KS es k j x ZP hk λi z hi hz=>hh (i+1) z ZD ZaG]
theorem Ke:∀(es:List (C×V)) (k:C),(∀x∈es,AD k x.1=false)->delE k es=es
 |[],_,_=>rfl
 |y::es,k,h=>by
  simp only[delE,h y ZF,Jr,if_false];rw[Ke es k λx hx=>h x Za0]
theorem E9 {c:C}{v:Value}{l:Nat}(h:RepC w g (.mp l) v):∃b,v=.map (some b)/\g.io l=some (b,0,0):=by
 cases h with
 |mp _ b cg=>exact⟨b,rfl,cg⟩
theorem HH {tag:Nat}{x k y:Opd}{x' k' y':Operand}{t kt et:TypeId}{K:V->Heap->Prop}(hm:o.op=.mapUpdate t x' k' y'\/o.op=.insert t x' k' y')(hu:P.underlying t=some (.map kt et))
  (lK:P.underlying kt=some (tagD tag)) (hx:mO x x'=true) (hk:mO k k'=true) (hy:mO y y'=true)
  (hs:Sat H g w) (he:EnvOk w g e a) (hp:p=true) (ho:(EOp.upd tag x k y).eff P p e H K):EOk P H g w a o K:=by
 simp only[EOp.eff]at ho;obtain⟨q1,q2,q3,q4,q5,_,q6⟩:=ho;have eM:=An he hx hp q1;have rb:=An he hk hp q2;have jL:=An he hy hp q3;rw[Bo q4]at eM;rw[Bo q5]at rb;have gJ:=eM.aK;have jA:=rb.aK;generalize kB:a.eval x'=xv at gJ;generalize uQ:a.eval k'=kv at jA;generalize uN:a.eval y'=yv at jL;generalize (x.v e).c1=A at gJ q6;generalize (k.v e).c1=kc at jA q6;generalize y.v e=yc at jL q6;have cR:(execOp a.eval o).run P w=((Instr.mapUpdate t xv kv yv).run P w).andThen λ_ w'=>.ok .skip w':=by
  rcases hm with hm|hm <;> simp[execOp,hm,kB,uQ,uN]
 unfold updT at q6;split at q6
 ·rename_i l
  split at q6
  ·rename_i n es hH
   obtain⟨c1,c2,c3⟩:=q6;obtain⟨b,rfl,cg⟩:=E9 (c:=.unk) gJ;have aX:=hs.objs l;rw[hH]at aX;obtain⟨b',ms,clock,r1,r2,r3,r4,r5,r6,r7,r8⟩:=aX;rw[cg]at r1;simp only[Jc,Jk,and_true]at r1;subst r1;have gV:=Dz c1 jA;have dV:(getObj b).run P w=.ok (.map ms clock) w:=Zam
   rcases IC c1 jA r4 r6 r8 with ⟨f1,f2,f3⟩|⟨j,m,ent,f1,f2,f3,f4,f5,f6,f7⟩
   ·
    rw[Ok es kc yc f3]at c3;refine EOk.skip (g':=g) (w':=World.putObj' w b (.map (ms.push { key:=kv,val:=yv,born:=clock }) (clock+1))) ?_ c3 ?_
    ·rw[cR];simp only[Instr.mapUpdate,Sem.run_bind,Ao hu,Result.andThen_ok,dV,run_checkKey lK gV _ 9999,run_findKey lK f1,OR r3 ZF]
    ·refine Pd hs r2 r3 hH λaP fR=>?_;refine⟨b,_,_,aP.io _ _ cg,r2,fR,by simp[r4],by simp;omega,λi' x' m' e1 e2=>?_,λi' m' e1=>?_,λi' j' m1 m2 e1 e2 iI=>?_⟩
     ·rw[J5]at e2;split at e2
      ·rename_i bS;simp at e2;subst e2
       rw[Jn ZD]at e1;rw[bS,r4]at e1;simp at e1;subst e1;exact⟨jA.mono aP,jL.mono aP⟩
      ·rename_i bS
       have:i'<es.length:=by
        rw[<-r4];rcases Jg i' ms.size with h|h
        ·exact h
        ·rw[Ji h]at e2;simp at e2
       rw[Jl this]at e1;exact (r6 i' x' m' e1 e2).mono aP
     ·rw[J5]at e1;split at e1
      ·simp at e1;subst e1;simp
      ·have:=r7 i' m' e1;omega
     ·have old:∀(i':Nat) (m1:MapEntry),ms[i']? = some m1->m1.born<clock/\m1.key≠kv:=by
       intro i' m1 h1;refine⟨r7 _ _ h1,λpk=>?_⟩;have ae:i'<es.length:=by
        rw[<-r4];rcases Jg i' ms.size with h|h
        ·exact h
        ·rw[Ji h]at h1;simp at h1
       have tx:=Jd ae;have:=(Dl c1 (Jh tx) jA (r6 _ _ _ tx h1).1).2 pk;rw[f3 _ (Jh tx)]at this;simp at this
      rw[J5]at e1 e2;split at e1 <;> split at e2
      ·omega
      ·simp at e1;subst e1;have:=old _ _ e2;rcases iI with h|h
       ·simp at h;omega
       ·simp at h;exact absurd h.symm this.2
      ·simp at e2;subst e2;have:=old _ _ e1;rcases iI with h|h
       ·simp at h;omega
       ·simp at h;exact absurd h this.2
      ·exact r8 _ _ _ _ e1 e2 iI
   ·
    rw[Kp es kc yc j ent f4 f6 f7]at c3;have fH:j<ms.size:=by
     rcases Jg j ms.size with h|h
     ·exact h
     ·rw[Ji h]at f2;simp at f2
    refine EOk.skip (g':=g) (w':=World.putObj' w b (.map (ms.modify j λe=>{ e with key:=kv,val:=yv }) clock)) ?_ c3 ?_
    ·rw[cR];simp only[Instr.mapUpdate,Sem.run_bind,Ao hu,Result.andThen_ok,dV,run_checkKey lK gV _ 9999,run_findKey lK f1,f2,Jq,J1,f3,run_keyThatStays gV];rw[OR r3 ZF];rfl
    ·refine Pd hs r2 r3 hH λaP fR=>?_;refine⟨b,_,_,aP.io _ _ cg,r2,fR,by simp[r4],by simpa using r5,λi' x' m' e1 e2=>?_,λi' m' e1=>?_,λi' j' m1 m2 e1 e2 iI=>?_⟩
     ·rw[J8]at e2;rw[Jar]at e1;split at e2
      ·rename_i hj
       subst hj;rw[if_pos rfl,if_pos ZD]at e1;simp at e1;subst e1;rw[f2]at e2;simp at e2;subst e2;exact⟨jA.mono aP,jL.mono aP⟩
      ·rename_i hj
       rw[if_neg hj]at e1;exact (r6 i' x' m' e1 e2).mono aP
     ·rw[J8]at e1;split at e1
      ·rename_i hj;subst hj;rw[f2]at e1;simp at e1;subst e1;exact r7 j m f2
      ·exact r7 _ _ e1
     ·have old:∀(i':Nat) (m1:MapEntry),(ms.modify j λe=>{ e with key:=kv,val:=yv })[i']? = some m1->∃m0,ms[i']? = some m0/\m0.born=m1.born/\m0.key=m1.key:=by
       intro i' m1 h1;rw[J8]at h1;split at h1
       ·rename_i hj;subst hj;rw[f2]at h1;simp at h1;subst h1;exact⟨m,f2,rfl,f3⟩
       ·exact⟨m1,h1,rfl,rfl⟩
      obtain⟨n1,k1,k2,k3⟩:=old _ _ e1;obtain⟨n2,k4,k5,k6⟩:=old _ _ e2;refine r8 _ _ _ _ k1 k4 ?_;rcases iI with h|h
      ·exact .inl (by rw[k2,k5,h])
      ·exact .inr (by rw[k3,k6,h])
  ·exact q6.elim
 ·exact q6.elim
theorem Vo {tag:Nat}{x k:Opd}{x' k':Operand}{ats:Array TypeId}{t kt et:TypeId}{K:V->Heap->Prop}(hm:o.op=.call { callee:=.builtin .delete,args:=#[x',k'],argTypes:=ats })(bp:ats[0]? = some t)(hd:o.dst=none)(hu:P.underlying t=some (.map kt et))
  (lK:P.underlying kt=some (tagD tag)) (hx:mO x x'=true) (hk:mO k k'=true)
  (hs:Sat H g w) (he:EnvOk w g e a) (hp:p=true) (ho:(EOp.del tag x k).eff P p e H K):EOk P H g w a o K:=by
 simp only[EOp.eff]at ho;obtain⟨q1,q2,q4,q5,q6⟩:=ho;have eM:=An he hx hp q1;have rb:=An he hk hp q2;rw[Bo q4]at eM;rw[Bo q5]at rb;have gJ:=eM.aK;have jA:=rb.aK;generalize kB:a.eval x'=xv at gJ;generalize uQ:a.eval k'=kv at jA;generalize (x.v e).c1=A at gJ q6;generalize (k.v e).c1=kc at jA q6;have cR:(execOp a.eval o).run P w=((Builtin.delete_ ats o.type #[xv,kv]).run P w).andThen λv w'=>.ok (.value v) w':=by
  simp[execOp,hm,resolve,invoke,builtin,kB,uQ]
 unfold delT at q6;split at q6
 ·rename_i l
  split at q6
  ·rename_i n es hH
   obtain⟨c1,c3⟩:=q6;obtain⟨b,rfl,cg⟩:=E9 (c:=.unk) gJ;have aX:=hs.objs l;rw[hH]at aX;obtain⟨b',ms,clock,r1,r2,r3,r4,r5,r6,r7,r8⟩:=aX;rw[cg]at r1;simp only[Jc,Jk,and_true]at r1;subst r1;have gV:=Dz c1 jA;have dV:(getObj b).run P w=.ok (.map ms clock) w:=Zam
   rcases IC c1 jA r4 r6 r8 with ⟨f1,f2,f3⟩|⟨j,m,ent,f1,f2,f3,f4,f5,f6,f7⟩
   ·rw[Ke es kc f3]at c3;refine EOk.value (g':=g) (v:=.tuple #[]) (w':=World.putObj' w b (.map ms clock)) ?_ c3 ?_ (.unk _)
    ·rw[cR];simp only[Builtin.delete_,bp];simp[Ao hu,dV,run_checkKey lK gV _ 9999,run_findKey lK f1,OR r3]
    ·refine Pd hs r2 r3 hH λaP fR=>?_;exact⟨b,_,_,aP.io _ _ cg,r2,fR,r4,r5,λi' x' m' e1 e2=>(r6 i' x' m' e1 e2).mono aP,r7,r8⟩
   ·rw[KS es kc j ent f4 f6 f7]at c3;have fH:j<ms.size:=by
     rcases Jg j ms.size with h|h
     ·exact h
     ·rw[Ji h]at f2;simp at f2
    have wu:∀q,(ms.eraseIdxIfInBounds j)[q]? = if q<j then ms[q]? else ms[q+1]?:=by
     intro q;unfold Array.eraseIdxIfInBounds;rw[dif_pos fH,Array.getElem?_eraseIdx]
    refine EOk.value (g':=g) (v:=.tuple #[]) (w':=World.putObj' w b (.map (ms.eraseIdxIfInBounds j) clock)) ?_ c3 ?_ (.unk _)
    ·rw[cR];simp only[Builtin.delete_,bp];simp[Ao hu,dV,run_checkKey lK gV _ 9999,run_findKey lK f1,OR r3]
    ·refine Pd hs r2 r3 hH λaP fR=>?_;have lN:es.length-1=(es.eraseIdx j).length:=(by rw[Ja5];simp;omega);refine⟨b,_,_,aP.io _ _ cg,r2,fR,?_,ZD,λi' x' m' e1 e2=>?_,λi' m' e1=>?_,λi' j' m1 m2 e1 e2 iI=>?_⟩
     ·unfold Array.eraseIdxIfInBounds;rw[dif_pos fH];simp;omega
     ·rw[wu]at e2;rw[List.getElem?_eraseIdx]at e1;split at e1
      ·rename_i h;rw[if_pos h]at e2;exact (r6 _ _ _ e1 e2).mono aP
      ·rename_i h;rw[if_neg h]at e2;exact (r6 _ _ _ e1 e2).mono aP
     ·rw[wu]at e1;split at e1
      ·exact r7 _ _ e1
      ·exact r7 _ _ e1
     ·rw[wu]at e1 e2;split at e1 <;> split at e2 <;> have:=r8 _ _ _ _ e1 e2 iI <;> omega
  ·exact q6.elim
 ·obtain⟨c1,c2⟩:=q6;have hv:xv=.map none:=by cases gJ;rfl
  subst hv;have gV:=Dz c1 jA;refine EOk.value (g':=g) (v:=.tuple #[]) (w':=w) ?_ c2 (.refl hs) (.unk _);rw[cR];simp only[Builtin.delete_,bp];simp[Ao hu,run_checkKey lK gV _ 9999]
 ·exact q6.elim
end Go.AE
namespace Go.AE
variable {P:Program}{H:Heap}{g:G}{w:World}{e:Env}{a:Act}{o:Oper}{p:Bool}
theorem Q8q {f:FuncId}(h:fnOk P f=true)(args:Array Value)(w:World):(callFunc f args).run P w=.ok (.enter f args) w:=by
 unfold fnOk at h;split at h
 ·rename_i fn hf
  simp only[Ja,bne_iff_ne,ne_eq]at h;obtain⟨h1,h2⟩:=h;have hn:fn.body≠none:=by intro hb;rw[hb]at h1;simp at h1
  simp[callFunc,hf,h2,hn]
 ·simp at h
theorem KW {f:FuncId}{args:List V}{K:V->Heap->Prop}(hc:Qv P f args H K)(hs:Sat H g w){vs:List Value}(hl:vs.length=args.length)
  (hv:∀(j:Nat) (x:V) (u:Value),args[j]? = some x->vs[j]? = some u->RepV w g x u) (hr:(execOp a.eval o).run P w=.ok (.enter f vs.toArray) w):EOk P H g w a o K:=by
 intro Q next hn iF;unfold Oper.wp;rw[hr,Oper.upon_enter];refine (hc.2 g w vs hs hl hv).mono λen w' h=>?_;rcases h with ⟨v,x,H',g',rfl,hk,aR,dj⟩|⟨v,H',g',rfl,hk,aR⟩
 ·exact hn x v w' H' g' hk aR dj
 ·exact iF v w' H' g' hk aR
theorem IX (he:EnvOk w g e a)(hp:p=true){xs:List Opd}{ys:List Operand}(hm:mOs xs ys=true)(hf:∀x∈xs,x.fine p e) :
  (ys.map a.eval).length=(xs.map λx=>x.v e).length/\∀(j:Nat) (x:V) (u:Value),(xs.map λx=>x.v e)[j]? = some x->(ys.map a.eval)[j]? = some u->RepV w g x u:=by
 obtain⟨h1,h2⟩:=EK xs ys hm;refine⟨by simp[h1],λj x u e1 e2=>?_⟩;simp only[Jj]at e1 e2
 cases hj:xs[j]? with
 |none=>rw[hj]at e1;simp at e1
 |some x0=>
  cases cQ:ys[j]? with
  |none=>rw[cQ]at e2;simp at e2
  |some y0=>
   rw[hj]at e1;rw[cQ]at e2;simp at e1 e2;subst e1;subst e2;exact An he (h2 j x0 y0 hj cQ) hp (hf x0 (Jh hj))
theorem V0 {f:Nat}{xs:List Opd}{as:Array Operand}{ats:Array TypeId}{K:V->Heap->Prop}(hm:o.op=.call { callee:=.value (.func f),args:=as,argTypes:=ats })(hx:mOs xs as.toList=true)
  (hs:Sat H g w) (he:EnvOk w g e a) (hp:p=true) (hf:∀x∈xs,x.fine p e) (hc:Qv P f (xs.map λx=>x.v e) H K):EOk P H g w a o K:=by
 obtain⟨h1,h2⟩:=IX he hp hx hf;refine KW hc hs h1 h2 ?_;have dD:as.map a.eval=(as.toList.map a.eval).toArray:=by apply Jab;simp
 simp only[execOp,hm,resolve,Deferred.ofValue,Act.eval,Sem.run_bind,Sem.run_pure,Result.andThen_ok,invoke];have:(#[]++as.map a.eval++#[]:Array Value)=(as.toList.map a.eval).toArray:=by rw[dD];simp
 rw[this];exact Q8q hc.1 _ w
theorem Ys {x:Opd}{y:Operand}{xs:List Opd}{as:Array Operand}{ats:Array TypeId}{K:V->Heap->Prop}(hm:o.op=.call { callee:=.value y,args:=as,argTypes:=ats })(hy:mO x y=true)(hx:mOs xs as.toList=true)
  (hs:Sat H g w) (he:EnvOk w g e a) (hp:p=true) (ho:(EOp.bB x xs).eff P p e H K):EOk P H g w a o K:=by
 simp only[EOp.eff]at ho;obtain⟨q1,hf,q2⟩:=ho;have hr:=An he hy hp q1;split at q2
 ·rename_i n caps hv
  rw[hv]at hr;obtain⟨cv,hq,cB,tA⟩:=hr.aK.fn_inv;obtain⟨h1,h2⟩:=IX he hp hx hf;refine KW (vs:=as.toList.map a.eval++cv) q2 hs (by rw[Jae,Jae,h1];simp[cB]) (λj z u e1 e2=>?_) ?_
  ·by_cases hj:j<(xs.map λx=>x.v e).length
   ·rw[Jl hj]at e1;rw[Jl (by rw[h1];exact hj)]at e2;exact h2 j z u e1 e2
   ·rw[Jn ZD]at e1 e2;rw[h1]at e2;simp only[Jj]at e1
    cases hc:caps[j-(xs.map λx=>x.v e).length]? with
    |none=>rw[hc]at e1;simp at e1
    |some c=>
     rw[hc]at e1;simp at e1;subst e1;exact .c _ _ (tA _ c u hc e2)
  ·have dD:as.map a.eval=(as.toList.map a.eval).toArray:=by apply Jab;simp
   simp only[execOp,hm,resolve,hq,Deferred.ofValue,Sem.run_bind,Sem.run_pure,Result.andThen_ok,invoke];have:(#[]++as.map a.eval++cv.toArray:Array Value)=(as.toList.map a.eval++cv).toArray:=by rw[dD];simp
   rw[this];exact Q8q q2.1 _ w
 ·exact q2.elim
theorem Qaty {t el:TypeId}(h:P.underlying t=some (.slice el))(d:Nat)(b:Option Addr)(n c:Nat)(w:World):(Op.equalIn (d+1) t (.slice b n c) (.slice none 0 0)).run P w=.ok b.isNone w:=by
 cases b <;> simp[Op.equalIn,Ao h]
theorem KR {α:Type}:∀(l:List α) (i:Nat) (h:i<l.length),(l[i]::l.eraseIdx i).Perm l
 |x::l,0,_=>ZF
 |x::l,i+1,h=>by
  simp only[List.getElem_cons_succ,Jas];exact (List.Perm.swap x _ _).trans ((KR l i ZP).cons x)
theorem Vy {x:Opd}{x' y':Operand}{t t' el:TypeId}{K:V->Heap->Prop}(hm:o.op=.binOp .eql t x' y' t')(hu:P.underlying t=some (.slice el))(hx:mO x x'=true)(hy:a.eval y'=.slice none 0 0)
  (hs:Sat H g w) (he:EnvOk w g e a) (hp:p=true) (ho:(EOp.nilq x).eff P p e H K):EOk P H g w a o K:=by
 simp only[EOp.eff]at ho;obtain⟨q1,q2⟩:=ho;have hr:=An he hx hp q1;split at q2
 ·rename_i fl sz rows hv
  rw[hv]at hr;have tA:=hr.aK;generalize hq:a.eval x'=xv at tA;have jh:(execOp a.eval o).run P w=((binOp .eql t xv (.slice none 0 0)).run P w).andThen λv w'=>.ok (.value v) w':=by
   simp only[execOp,hm,hq,hy,Sem.run_bind];rw[AJ]
   ·simp
   ·intro cs ds h;simp at h
   ·intro h;simp at h
  have mV:∀b:Option Addr,∀n c,(Op.equal t (.slice b n c) (.slice none 0 0)).run P w=.ok b.isNone w:=by
   intro b n c;exact Qaty hu 9999 b n c w
  cases tA with
  |ca _ _ ad=>
   refine EOk.value (g':=g) (v:=.bool ad.isNone) (w':=w) ?_ (q2 ad.isNone (λ_=>rfl)) (.refl hs) (.c _ _ (.bool _));rw[jh];simp only[binOp,Sem.run_bind,mV,Result.andThen_ok,Sem.run_pure]
  |sl=>
   refine EOk.value (g':=g) (v:=.bool false) (w':=w) ?_ (q2 false ZF) (.refl hs) (.c _ _ (.bool _));rw[jh];simp only[binOp,Sem.run_bind,mV,Result.andThen_ok,Sem.run_pure];rfl
 ·exact q2.elim
theorem Qb0a {x:Opd}{x':Operand}{t kt et:TypeId}{K:V->Heap->Prop}(hm:o.op=.range t x')(hu:P.underlying t=some (.map kt et))(hx:mO x x'=true)
  (hs:Sat H g w) (he:EnvOk w g e a) (hp:p=true) (ho:(EOp.rng x).eff P p e H K):EOk P H g w a o K:=by
 simp only[EOp.eff]at ho;obtain⟨q1,q2⟩:=ho;have hr:=An he hx hp q1;obtain⟨l',cZ,ie⟩:=hs.newName;split at q2
 ·rename_i l hv
  rw[hv]at hr;split at q2
  ·rename_i n es hH
   obtain⟨c1,c2⟩:=q2;obtain⟨b,hq,cg⟩:=E9 (c:=.unk) hr.aK;have aX:=hs.objs l;rw[hH]at aX;obtain⟨b',ms,clock,r1,r2,r3,r4,r5,r6,r7,r8⟩:=aX;rw[cg]at r1;simp only[Jc,Jk,and_true]at r1;subst r1;have dV:(getObj b).run P w=.ok (.map ms clock) w:=Zam
   have lI:l≠l':=λh=>by subst h;rw[cZ]at cg;simp at cg
   have aR:=Da hs cZ 0 0 (.mapIter (some b) clock #[] clock) (.iter (some (l,n)) es none) (λg' hg=>by
    subst hg;refine⟨w.heap.size,b,clock,#[],ZN,ZN,BX _ _,by simp[G.newObj,lI,cg],λv es' fx=>?_⟩;rw[Heap.af _ _ lI,hH]at fx;simp only[Obj.map.injEq]at fx;obtain⟨rfl,rfl⟩:=fx;refine⟨Jv _,λ_=>⟨ms,(CW _ _ (Ed r3)).trans r3,r4,c1,c1,λx=>⟨λhx=>?_,λhx=>?_⟩,ZF⟩⟩
    ·obtain⟨i,hi⟩:=J2 hx;have ae:i<ms.size:=by
      rw[r4];rcases Jg i es.length with h|h
      ·exact h
      ·rw[Jf h]at hi;simp at hi
     exact⟨i,ms[i],hi,Jb ae,ZF⟩
    ·obtain⟨i,m,h1,_⟩:=hx;exact Jh h1)
   refine EOk.value (v:=.pointer (some ⟨w.heap.size,0,none⟩)) (w':=w.alloc (.mapIter (some b) clock #[] clock)) ?_ (c2 l' ie) aR (.c _ _ (.itr l' w.heap.size ZN));simp[execOp,hm,hq,Instr.range,Ao hu,dV]
  ·exact q2.elim
 ·rename_i hv
  rw[hv]at hr;have hq:a.eval x'=.map none:=by
   have:=hr.aK;generalize a.eval x'=xv at this;cases this;rfl
  have aR:=Da hs cZ 0 0 (.mapIter none 0 #[] 0) (.iter none [] none) (λg' hg=>by
   subst hg;exact⟨w.heap.size,0,#[],0,ZN,ZN,BX _ _,rfl⟩)
  refine EOk.value (v:=.pointer (some ⟨w.heap.size,0,none⟩)) (w':=w.alloc (.mapIter none 0 #[] 0)) ?_ (q2 l' ie) aR (.c _ _ (.itr l' w.heap.size ZN));simp[execOp,hm,hq,Instr.range,Ao hu]
 ·exact q2.elim
theorem Ij {v:Value}{l:Nat}(h:RepC w g (.itr l) v):∃b,v=.pointer (some ⟨b,0,none⟩)/\g.io l=some (b,0,0):=by
 cases h with
 |itr _ b cg=>exact⟨b,rfl,cg⟩
theorem Qbi9 {r mb since:Nat}{seen:Array Nat}{ms:Array MapEntry}{t:TypeId}(hr:w.heap[r]? = some (.mapIter (some mb) since seen since))(gH:w.heap[mb]? = some (.map ms since))
  (ae:∀(i:Nat) (m:MapEntry),ms[i]? = some m->m.born<since) :
  ((∀(i:Nat) (m:MapEntry),ms[i]? = some m->m.born∈seen)/\(Instr.next (.pointer (some ⟨r,0,none⟩)) false t).run P w=.ok (.tuple #[.bool false]) w)\/
  ∃(w1:World) (i:Nat) (m:MapEntry),ms[i]? = some m/\m.born∉seen/\(w1=w\/w1=w.drew)/\
   (Instr.next (.pointer (some ⟨r,0,none⟩)) false t).run P w=.ok (.tuple #[.bool true,m.key,m.val]) (World.putObj' w1 r (.mapIter (some mb) since (seen.push m.born) since)):=by
 have g1:(getObj r).run P w=.ok (.mapIter (some mb) since seen since) w:=by simp[getObj,Sem.run,hr]
 have g2:(getObj mb).run P w=.ok (.map ms since) w:=by simp[getObj,Sem.run,gH]
 have iK:∀m∈ms,m.born<since:=by
  intro m hm;obtain⟨i,hi⟩:=Jag hm;exact ae i m hi
 have wB:(!seen.isEmpty&&!ms.isEmpty&&ms.all (λm=>decide (m.born≥since)))=false:=by
  by_cases h:ms=#[]
  ·subst h;simp
  ·have be:0<ms.size:=by
    rcases Jaf ms.size with h0|h0
    ·exact absurd (Jax.1 h0) h
    ·exact h0
   have:ms.all (λm=>decide (m.born≥since))=false:=by
    rw[Bool.eq_false_iff];intro bg;rw[Array.all_eq_true]at bg;have:=bg 0 be;simp at this;have:=iK ms[0] (Jbd be);omega
   rw[this];simp
 generalize eR:ms.filter (λm=>!seen.contains m.born)=left;have bz:∀m,m∈left↔m∈ms/\m.born∉seen:=by
  intro m;rw[<-eR];simp[Array.mem_filter]
 have rt:left.filter (λm=>decide (m.born<since))=left:=by
  rw[Array.filter_eq_self];intro m hm;simpa using iK m ((bz m).1 hm).1
 have rz:left.filter (λm=>decide (m.born≥since))=#[]:=by
  rw[Array.filter_eq_empty_iff];intro m hm;have:=iK m ((bz m).1 hm).1;simp;omega
 have bU:(Instr.next (.pointer (some ⟨r,0,none⟩)) false t).run P w =
   ((choose (.mapNext ((if left.isEmpty then #[none]else #[])++left.map some).size)).run P w).andThen λk w'=>
    (match ((if left.isEmpty then #[none]else #[])++left.map some)[k]? with
     |some (some e)=>(do setObj r (.mapIter (some mb) since (seen.push e.born) since);pure (.tuple #[.bool true,e.key,e.val]):Sem Value)
     |some none=>pure (.tuple #[.bool false])
     | none => stuck "Next: no such candidate").run P w' := by
  simp only[Instr.next,Sem.run_bind,g1,Result.andThen_ok,g2];simp only[wB,Jr,if_false,eR,rt,rz,Array.append_empty];simp only[Sem.run_bind]
  first|rfl|(congr 1;funext k w';split <;> simp)
 by_cases tw:left=#[]
 ·left;refine⟨λi m hm=>?_,?_⟩
  ·by_cases hc:m.born∈seen
   ·exact hc
   ·have:m∈left:=(bz m).2 ⟨Jay hm,hc⟩;rw[tw]at this;simp at this
  ·rw[bU,tw];simp[Question.forced]
 ·right;have kE:0<left.size:=by
   rcases Jaf left.size with h0|h0
   ·exact absurd (Jax.1 h0) tw
   ·exact h0
  have mQ:left.isEmpty=false:=by simpa using tw
  have hk:∃(k:Nat) (w1:World),k<left.size/\(w1=w\/w1=w.drew)/\(choose (.mapNext left.size)).run P w=.ok k w1:=by
   by_cases h1:left.size<=1
   ·exact⟨0,w,kE,.inl rfl,by simp[Question.forced,h1]⟩
   ·refine⟨w.tape w.drawn (.mapNext left.size) % left.size,w.drew,Jbi _ kE,.inr rfl,?_⟩;simp[Question.forced,h1,Question.cut]
  obtain⟨k,w1,k1,k2,k3⟩:=hk;have rO:left[k]? = some left[k]:=Jb k1;obtain⟨m1,m2⟩:=(bz left[k]).1 (Jbd k1);obtain⟨i,hi⟩:=Jag m1;refine⟨w1,i,left[k],hi,m2,k2,?_⟩;rw[bU];simp only[mQ,Jr,if_false,Array.empty_append,Array.size_map,k3,Result.andThen_ok,Jam,rO,Jq,Sem.run_bind];have dC:w1.heap[r]? = some (.mapIter (some mb) since seen since):=by rcases k2 with rfl|rfl <;> exact hr
  rw[OR dC ZF];rfl
theorem Vk {x:Opd}{x':Operand}{K:V->Heap->Prop}(hm:o.op=.next x' false)(hx:mO x x'=true)
  (hs:Sat H g w) (he:EnvOk w g e a) (hp:p=true) (ho:(EOp.nxt x).eff P p e H K):EOk P H g w a o K:=by
 simp only[EOp.eff]at ho;obtain⟨q1,q2⟩:=ho;have hr:=An he hx hp q1;split at q2
 ·rename_i i hv
  rw[hv]at hr;obtain⟨b,hq,cg⟩:=Ij hr.aK;have aX:=hs.objs i;split at q2
  ·rename_i left cur hH
   rw[hH]at aX;obtain⟨b',si,se,la,r1,r2,r3,r4⟩:=aX;rw[cg]at r1;simp only[Jc,Jk,and_true]at r1;subst r1;have dV:(getObj b).run P w=.ok (.mapIter none si se la) w:=Zam
   refine EOk.value (g':=g) (v:=.tuple #[.bool false]) (w':=w) (by simp[execOp,hm,hq,Instr.next,dV]) q2 (.refl hs) (.tup _ [.bool false] rfl λj x u e1 e2=>?_)
   cases j with
   |zero=>simp at e1 e2;subst e1;subst e2;exact .c _ _ (.bool _)
   |succ j=>simp at e1
  ·rename_i l n left cur hH
   obtain⟨⟨es,pD⟩,c1,c2⟩:=q2;rw[hH]at aX;obtain⟨b',mb,si,se,r1,r2,r3,r4,r5⟩:=aX;rw[cg]at r1;simp only[Jc,Jk,and_true]at r1;subst r1;obtain⟨_,h5⟩:=r5 n es pD;obtain⟨ms,f1,f2,f3,f4,f5,f6⟩:=h5 rfl;have dX:=hs.objs l;rw[pD]at dX;obtain⟨mb',ms',clock,d1,d2,d3,d4,d5,d6,d7,d8⟩:=dX;rw[r4]at d1;simp only[Jc,Jk,and_true]at d1;subst d1;rw[f1]at d3;simp only[Jc,Go.Obj.map.injEq]at d3;obtain⟨rfl,rfl⟩:=d3;have cR:(execOp a.eval o).run P w=((Instr.next (.pointer (some ⟨b,0,none⟩)) false o.type).run P w).andThen λv w'=>.ok (.value v) w':=by
    simp[execOp,hm,hq]
   rcases Qbi9 (P:=P) (t:=o.type) r3 f1 d7 with ⟨k1,k2⟩|⟨w1,ix,m,k1,k2,k3,k4⟩
   ·have gp:left=[]:=by
     cases left with
     |nil=>rfl
     |cons y r=>
      obtain⟨iy,my,a1,a2,a3⟩:=(f5 y).1 ZF;exact absurd (k1 iy my a2) a3
    refine EOk.value (g':=g) (v:=.tuple #[.bool false]) (w':=w) (by rw[cR,k2];rfl) (c1 gp) (.refl hs) (.tup _ [.bool false] rfl λj x u e1 e2=>?_)
    cases j with
    |zero=>simp at e1 e2;subst e1;subst e2;exact .c _ _ (.bool _)
    |succ j=>simp at e1
   ·have mP:ix<es.length:=by
     rw[<-f2];rcases Jg ix ms.size with h|h
     ·exact h
     ·rw[Ji h]at k1;simp at k1
    have jI:=Jd mP;generalize hxx:es[ix]=xx at jI;have d9:xx∈left:=(f5 xx).2 ⟨ix,m,jI,k1,k2⟩;obtain⟨q,oN,kB⟩:=List.getElem_of_mem d9;have kF:=KR left q oN;rw[kB]at kF;have bE:(xx::left.eraseIdx q).Nodup:=kF.nodup_iff.2 f4;have nE:∀y,y∈left.eraseIdx q↔y∈left/\y≠xx:=by
     intro y;rw[<-kF.mem_iff];rw[Ja3]at bE;constructor
     ·intro hy;exact⟨by simp[hy],λh=>bE.1 (h▸hy)⟩
     ·rintro⟨hy,be⟩;simp at hy;exact hy.resolve_left be
    have hk:=c2 xx (left.eraseIdx q) d9 nE (Ja3.1 bE).2 (by rw[Ja5,if_pos oN];omega);have di:Stp H g w H g w1:=by
     rcases k3 with rfl|rfl
     ·exact .refl hs
     ·exact Iy hs
    have fQ:∀bb:Nat,w1.heap[bb]? = w.heap[bb]?:=(by intro bb;rcases k3 with rfl|rfl <;> rfl);have vH:l≠i:=λh=>(by subst h;rw[pD]at hH;simp at hH);have v7:mb≠b:=λh=>(by subst h;rw[f1]at r3;simp at r3);have aR:Stp H g w1 (H.set i (.iter (some (l,n)) (left.eraseIdx q) (some xx))) g (World.putObj' w1 b (.mapIter (some mb) si (se.push m.born) si)):=by
     have ae:b<w1.heap.size:=Ed ((fQ b).trans r3);refine Q8l di.sat r2 (by simp[World.putObj']) (λb' h=>R7 h) (λT' k hk=>?_) rfl rfl rfl _ ZaB (λaP=>?_) ZF
     ·simp[World.shape?,fQ,r3]at hk
     ·refine⟨b,mb,si,se.push m.born,cg,r2,MI ae,r4,λv es' fx=>?_⟩;rw[Heap.af _ _ vH,pD]at fx;simp only[Obj.map.injEq]at fx;obtain⟨rfl,rfl⟩:=fx;refine⟨Jv _,λ_=>⟨ms,?_,f2,f3,(Ja3.1 bE).2,λy=>?_,λy hy=>?_⟩⟩
      ·rw[R7 v7,fQ];exact f1
      ·rw[nE y,f5 y];constructor
       ·rintro⟨⟨iy,my,a1,a2,a3⟩,be⟩;refine⟨iy,my,a1,a2,λcV=>?_⟩;rw[Jbo]at cV;rcases cV with cV|cV
        ·exact a3 cV
        ·have:=d8 iy ix my m a2 k1 (.inl cV);subst this;rw[jI]at a1;simp at a1;exact be a1.symm
       ·rintro⟨iy,my,a1,a2,a3⟩;rw[Jbo,not_or]at a3;refine⟨⟨iy,my,a1,a2,a3.1⟩,λh=>?_⟩;subst h;have yu:iy<es.length:=by
         rcases Jg iy es.length with h|h
         ·exact h
         ·rw[Jf h]at a1;simp at a1
        have:iy=ix:=(List.getElem_inj (h₀:=yu) (h₁:=mP) f3).1 (by
         rw[Jd yu]at a1;simp at a1;rw[a1,hxx])
        subst this;rw[k1]at a2;simp at a2;subst a2;exact a3.2 rfl
      ·simp at hy;subst hy;exact⟨ix,m,jI,k1,ZF⟩
    have sM:=d6 ix xx m jI k1;refine EOk.value (v:=.tuple #[.bool true,m.key,m.val]) (by rw[cR,k4];rfl) hk (di.trans aR) (.tup _ [.bool true,m.key,m.val] rfl λj y u e1 e2=>?_);have rI:=(di.trans aR).le
    match j with
    |0=>simp at e1 e2;subst e1;subst e2;exact .c _ _ (.bool _)
    |1=>simp at e1 e2;subst e1;subst e2;exact .c _ _ (sM.1.mono rI)
    |2=>simp at e1 e2;subst e1;subst e2;exact sM.2.mono rI
    |j+3=>simp at e1
  ·exact q2.elim
 ·exact q2.elim
theorem Vn {x:Opd}{x':Operand}{K:V->Heap->Prop}(hm:o.op=.entry x')(hx:mO x x'=true)
  (hs:Sat H g w) (he:EnvOk w g e a) (hp:p=true) (ho:(EOp.ent x).eff P p e H K):EOk P H g w a o K:=by
 simp only[EOp.eff]at ho;obtain⟨q1,q2⟩:=ho;have hr:=An he hx hp q1;split at q2
 ·rename_i i hv
  rw[hv]at hr;obtain⟨b,hq,cg⟩:=Ij hr.aK;have aX:=hs.objs i;split at q2
  ·rename_i l n left xx hH
   obtain⟨⟨es,pD⟩,c1⟩:=q2;rw[hH]at aX;obtain⟨b',mb,si,se,r1,r2,r3,r4,r5⟩:=aX;rw[cg]at r1;simp only[Jc,Jk,and_true]at r1;subst r1;obtain⟨_,h5⟩:=r5 n es pD;obtain⟨ms,f1,f2,f3,f4,f5,f6⟩:=h5 rfl;obtain⟨ix,m,k1,k2,k3⟩:=f6 xx rfl;have dX:=hs.objs l;rw[pD]at dX;obtain⟨mb',ms',clock,d1,d2,d3,d4,d5,d6,d7,d8⟩:=dX;rw[r4]at d1;simp only[Jc,Jk,and_true]at d1;subst d1;rw[f1]at d3;simp only[Jc,Go.Obj.map.injEq]at d3;obtain⟨rfl,rfl⟩:=d3;have g1:(getObj b).run P w=.ok (.mapIter (some mb) si se si) w:=Zam
   have g2:(getObj mb).run P w=.ok (.map ms si) w:=by simp[getObj,Sem.run,f1]
   have sk:ms.find? (λx=>x.born == m.born)=some m:=by
    cases hf:ms.find? (λx=>x.born == m.born)with
    |none=>
     rw[Array.find?_eq_none]at hf;have:=hf m (Jay k2);simp at this
    |some m'=>
     have h1:=Array.find?_some hf;obtain⟨i',bS⟩:=Jag (Array.mem_of_find?_eq_some hf);have:i'=ix:=d8 i' ix m' m bS k2 (.inl Zaw);subst this;rw[k2]at bS;exact bS.symm
   refine EOk.value (g':=g) (v:=.tuple #[m.key,m.val]) (w':=w) ?_ c1 (.refl hs) (.tup _ [m.key,m.val] rfl λj y u e1 e2=>?_)
   ·simp[execOp,hm,hq,Instr.entry,g1,k3,g2,sk]
   ·have sM:=d6 ix xx m k1 k2
    match j with
    |0=>simp at e1 e2;subst e1;subst e2;exact .c _ _ sM.1
    |1=>simp at e1 e2;subst e1;subst e2;exact sM.2
    |j+2=>simp at e1
  ·exact q2.elim
 ·exact q2.elim
theorem Vz {sz:Nat}{zero:List C}{x:Opd}{x':Operand}{ats:Array TypeId}{t el:TypeId}{i:TypeInfo}{z:Value}{K:V->Heap->Prop}
  (hm:o.op=.call { callee:=.builtin .clear,args:=#[x'],argTypes:=ats }) (bp:ats[0]? = some t) (hu:P.underlying t=some (.slice el))
  (hi:P.info? el=some i) (hz:i.zero=some z) (ik:B5 zero z=true) (iW:zero.length=sz) (hx:mO x x'=true)
  (hs:Sat H g w) (he:EnvOk w g e a) (hp:p=true) (ho:(EOp.clrs sz zero x).eff P p e H K):EOk P H g w a o K:=by
 simp only[EOp.eff]at ho;obtain⟨q1,q2⟩:=ho;have eM:=An he hx hp q1;split at q2
 ·rename_i l z' st n hv
  obtain⟨rfl,q2⟩:=q2;split at q2
  ·rename_i y rows hH
   obtain⟨rfl,q3,q4⟩:=q2;rw[hv]at eM;have dy:=eM.aK;generalize hq:a.eval x'=xv at dy;have hr:=GH (w:=w) (g:=g) ik;have cE:z.cells.size=y:=hr.1.trans iW;by_cases hn:n=0
   ·subst hn;have e0:rows.take st++List.replicate 0 zero++rows.drop (st+0)=rows:=ZF;rw[e0,Heap.set_self _ _ _ hH]at q4;refine EOk.value (g':=g) (v:=.tuple #[]) (w':=w) ?_ q4 (.refl hs) (.unk _)
    cases dy with
    |bZ _ _ _ ad=>cases ad <;> simp[execOp,hm,resolve,invoke,builtin,hq,Builtin.clear_,bp,Ao hu]
    |ah=>simp[execOp,hm,resolve,invoke,builtin,hq,Builtin.clear_,bp,Ao hu]
   ·cases dy with
    |bZ=>exact absurd rfl hn
    |ah _ _ _ _ cap b base T mm cg hn' gN eB=>
     have aX:=hs.objs l;rw[hH]at aX;obtain⟨b',base',T',cs,val,r1,r2,r3,r4,r5,r6,r7,r8⟩:=SatVec.of aX cg;rw[cg]at r1;simp only[Jc,Jk,true_and]at r1;obtain⟨rfl,rfl⟩:=r1;have b7:∀(q:Nat) (v:Value),(Builtin.zeroCells z.cells n)[q]? = some v->q<n * y/\z.cells[q % y]? = some v:=by
      intro q v h;simp only[Builtin.zeroCells,cE,Jam]at h;by_cases kC:q<n * y
      ·rw[Jah,if_pos kC]at h;have qc:0<y:=by
        rcases Jaf y with h0|h0
        ·subst h0;simp at kC
        ·exact h0
       have ae:q % y<z.cells.size:=(by rw[cE];exact Jbi _ qc);refine⟨kC,?_⟩;rw[Jb ae];simp only[Jq,Jc]at h;rw[<-h];simp[ae]
      ·rw[Jah,if_neg kC]at h;simp at h
     have ak:(Builtin.zeroCells z.cells n).toList.length=n * y:=(by simp[Builtin.zeroCells,cE]);have fE:∀v∈(Builtin.zeroCells z.cells n).toList,v.oneCell'=true:=by
      intro v hv;obtain⟨j,hj⟩:=J2 hv;obtain⟨h1,h2⟩:=b7 j v Zac;have ae:j % y<zero.length:=by
       rcases Jg (j % y) z.cells.size with h|h
       ·rw[hr.1]at h;exact h
       ·rw[Ji h]at h2;simp at h2
      exact (hr.2 _ _ v (Jd ae) h2).one
     have aL:(st+n) * y<=rows.length * y:=Jp _ q3;rw[Jm]at aL;have hf:=λj=>OQ (base+st * y) (Builtin.zeroCells z.cells n).toList 0 cs j ZX;have cO:=Ps (P:=P) (Builtin.zeroCells z.cells n).toList 0 w b (base+st * y) cs T' r3 ZX fE;generalize sp:((Builtin.zeroCells z.cells n).toList.zipIdx 0).foldl (λ(cs:Array Value) (x:Value×Nat)=>cs.setIfInBounds (base+st * y+x.2) x.1) cs=cs' at hf cO;refine EOk.value (g':=g) (v:=.tuple #[]) (w':=World.az w b cs' T') ?_ q4 ?_ (.unk _)
     ·obtain⟨n',rfl⟩:∃n',n=n'+1:=⟨n-1,ZD⟩;simp[execOp,hm,resolve,invoke,builtin,hq,Builtin.clear_,bp,Ao hu,Eb hi hz,cO]
     ·refine P1 hs r2 r3 (hf 0).1 _ ZaB (λaP fR=>?_) ZF;have a8:∀(i2:Nat) (row:List C),(rows.take st++List.replicate n zero++rows.drop (st+n))[i2]? = some row->
        (st<=i2/\i2<st+n/\row=zero)\/((i2<st\/st+n<=i2)/\rows[i2]? = some row):=by
       intro i2 row h;by_cases h1:i2<st
       ·rw[Jw,Jl ZJ,Jo,if_pos h1]at h;exact .inr ⟨.inl h1,h⟩
       ·by_cases h2:i2<st+n
        ·rw[Jl ZJ,Jn ZJ,Jat]at h;split at h
         ·exact .inl ⟨ZD,h2,by simpa using h.symm⟩
         ·simp at h
        ·rw[Jn ZJ,Jt]at h;refine .inr ⟨.inr ZD,?_⟩;rw[<-h];congr 1;simp;omega
      have eV:∀(i2:Nat) (row:List C) (j:Nat) (c:C),(rows.take st++List.replicate n zero++rows.drop (st+n))[i2]? = some row->row[j]? = some c->
        ∃v,cs'[base+i2 * y+j]? = some v/\RepO (World.az w b cs' T') g l [i2,j] c v:=by
       intro i2 row j c e1 e2;have eS:j<row.length:=(Jan.1 e2).1;rcases a8 i2 row e1 with ⟨a1,a2,rfl⟩|⟨a1,a2⟩
       ·rw[iW]at eS;have hq1:(i2-st) * y+j<n * y:=GD ZD eS;have rR:j<z.cells.size:=(by rw[cE];exact eS);refine⟨z.cells[j],?_,.plain _ _ _ _ ((hr.2 j c _ e2 (Jb rR)).mono aP)⟩;have kX:i2 * y=st * y+(i2-st) * y:=(by rw[<-Jm];congr 1;omega);rw[(hf _).2,if_pos ZX,kX];have:base+(st * y+(i2-st) * y)+j-(base+st * y+0)=(i2-st) * y+j:=ZD;rw[this];have aI:(i2-st) * y+j<(Builtin.zeroCells z.cells n).toList.length:=(by rw[ak];exact hq1);rw[Jd aI];have h3:=b7 ((i2-st) * y+j) _ (by rw[<-Ju];exact Jd aI);have pd:((i2-st) * y+j) % y=j:=(by rw[Ja4,Jbn];exact Jbl eS);rw[pd,Jb rR]at h3;exact h3.2.symm
       ·refine⟨val i2 j,?_,Pn r2 aP (λb' h=>EI h) ZF (r8 _ _ _ _ a2 e2)⟩;have hjy:j<y:=(by rw[<-r6 _ _ a2];exact eS);rw[(hf _).2,if_neg ?_]
        ·exact r7 _ _ _ _ a2 e2
        ·rw[ak];intro gA;rcases a1 with h|h
         ·have:(i2+1) * y<=st * y:=Jp _ ZD;rw[Jm,Jaj]at this;omega
         ·have:(st+n) * y<=i2 * y:=Jp _ h;rw[Jm]at this;omega
      refine .inr ⟨b,base,T',cs',λi2 j=>cs'.getD (base+i2 * y+j) undef,cg,r2,fR,?_,?_,λi2 row h=>?_,λi2 row j c e1 e2=>?_,λi2 row j c e1 e2=>?_⟩
      ·rw[(hf 0).1];have:(rows.take st++List.replicate n zero++rows.drop (st+n)).length=rows.length:=ZJ;rw[this];exact r4
      ·have:(rows.take st++List.replicate n zero++rows.drop (st+n)).length=rows.length:=ZJ;rw[this];exact r5
      ·rcases a8 i2 row h with ⟨_,_,rfl⟩|⟨_,a2⟩
       ·exact iW
       ·exact r6 _ _ a2
      ·obtain⟨v,h1,h2⟩:=eV i2 row j c e1 e2;rw[h1];simp[Je,h1]
      ·obtain⟨v,h1,h2⟩:=eV i2 row j c e1 e2;have e0:cs'.getD (base+i2 * y+j) undef=v:=(by simp[Je,h1]);show RepO _ _ _ _ _ (cs'.getD (base+i2 * y+j) undef);rw[e0];exact h2
  ·exact q2.elim
 ·exact q2.elim
def De (P:Program)(el:TypeId)(sz:Nat):Bool:=
 match P.info? el with
 |some i=>i.size == sz&&decide (i.bytes<=128)&&decide (i.bytes≠0)&&(match i.zero with
  |some z=>z.cells.size == sz
  |none=>false)
 |none=>false
theorem KE {el:TypeId}{sz:Nat}(h:De P el sz=true):∃i z,P.info? el=some i/\i.size=sz/\i.zero=some z/\z.cells.size=sz/\i.bytes<=128/\i.bytes≠0:=by
 unfold De at h;split at h
 ·rename_i i hi
  simp only[Ja,decide_eq_true_eq,beq_iff_eq]at h;obtain⟨⟨⟨h1,h2⟩,h3⟩,h4⟩:=h;split at h4
  ·rename_i z hz;exact⟨i,z,hi,h1,hz,by simpa using h4,h2,h3⟩
  ·simp at h4
 ·simp at h
def mMap (P:Program)(t:TypeId)(tag:Nat):Bool:=
 match P.underlying t with
 |some (.map kt _)=>(match P.underlying kt with
  |some d=>Et d tag
  |none=>false)
 |_=>false
theorem FF {t:TypeId}{tag:Nat}(h:mMap P t tag=true):∃kt et,P.underlying t=some (.map kt et)/\P.underlying kt=some (tagD tag):=by
 unfold mMap at h;split at h
 ·rename_i kt et hu
  split at h
  ·rename_i d hd;have:=Qbib h;subst this;exact⟨kt,et,hu,hd⟩
  ·simp at h
 ·simp at h
def mE (P:Program)(o:Oper):EOp->Bool
 |.alloc cells=>match o.op with
  |.alloc t=>Cb P t cells
  |_=>false
 |.boxm x=>match o.op with
  |.box _ x'=>mO x x'
  |_=>false
 |.sto n x y=>match o.op with
  |.store t x' y'=>BL P t n&&mO x x'&&mO y y'
  |_=>false
 |.app sz x y=>match o.op with
  |.call { callee:=.builtin .append,args:=⟨[x',y']⟩,argTypes:=ats }=>mO x x'&&mO y y'&&(match ats[0]?,ats[1]? with
   |some t,some t2=>(match P.underlying t,P.underlying t2 with
    |some (.slice el),some (.slice _)=>De P el sz
    |_,_=>false)
   |_,_=>false)
  |_=>false
 |.mks sz zero x=>match o.op with
  |.makeSlice t x' y'=>mO x x'&&mO x y'&&zero.length == sz&&decide (sz≠0)&&(match P.underlying t with
   |some (.slice el)=>De P el sz&&Cb P el zero
   |_=>false)
  |_=>false
 |.mkm=>match o.op with
  |.makeMap _ none=>true
  |_=>false
 |.upd tag x k y=>match o.op with
  |.mapUpdate t x' k' y'=>mO x x'&&mO k k'&&mO y y'&&mMap P t tag
  |.insert t x' k' y'=>mO x x'&&mO k k'&&mO y y'&&mMap P t tag
  |_=>false
 |.del tag x k=>match o.op with
  |.call { callee:=.builtin .delete,args:=⟨[x',k']⟩,argTypes:=ats }=>mO x x'&&mO k k'&&o.dst.isNone&&(match ats[0]? with
   |some t=>mMap P t tag
   |none=>false)
  |_=>false
 |.clrm x=>false
 |.clrs sz zero x=>match o.op with
  |.call { callee:=.builtin .clear,args:=⟨[x']⟩,argTypes:=ats }=>mO x x'&&zero.length == sz&&(match ats[0]? with
   |some t=>(match P.underlying t with
    |some (.slice el)=>Cb P el zero
    |_=>false)
   |none=>false)
  |_=>false
 |.call f xs=>match o.op with
  |.call { callee:=.value (.func f'),args:=as,argTypes:=_ }=>f == f'&&mOs xs as.toList
  |_=>false
 |.bB x xs=>match o.op with
  |.call { callee:=.value y,args:=as,argTypes:=_ }=>mO x y&&mOs xs as.toList
  |_=>false
 |.rng x=>match o.op with
  |.range t x'=>mO x x'&&(match P.underlying t with
   |some (.map _ _)=>true
   |_=>false)
  |_=>false
 |.rngs x=>false
 |.nxts x=>false
 |.nxt x=>match o.op with
  |.next x' false=>mO x x'
  |_=>false
 |.ent x=>match o.op with
  |.entry x'=>mO x x'
  |_=>false
 |.nilq x=>match o.op with
  |.binOp .eql t x' (.const (.slice none 0 0)) _=>mO x x'&&(match P.underlying t with
   |some (.slice _)=>true
   |_=>false)
  |_=>false
 |.cpy sz x y=>false
 |.bslm sz parts=>match o.op with
  |.buildSlice t n parts'=>n == parts'.size&&decide (n * sz<=2 ^ 24)&&mRow 0 parts parts'.toList&&decide (sz≠0)&&(match P.underlying t with
   |some (.slice el)=>BL P el sz&&(match P.info? el with
    |some i=>i.zero.isSome
    |none=>false)
   |_=>false)
  |_=>false
theorem F9 {op:EOp}{K:V->Heap->Prop}(hm:mE P o op=true)(hs:Sat H g w)(he:EnvOk w g e a)(hp:p=true)(ho:op.eff P p e H K):EOk P H g w a o K:=by
 cases op with
 |alloc cells=>
  simp only[mE]at hm;split at hm
  ·obtain⟨i,z,h1,h2,h3⟩:=GY hm;exact Yt ‹_› h1 h2 h3 hs ho
  ·simp at hm
 |boxm x=>
  simp only[mE]at hm;split at hm
  ·exact V2 ‹_› hm hs he hp ho
  ·simp at hm
 |sto n x y=>
  simp only[mE]at hm;split at hm
  ·simp only[Ja]at hm;obtain⟨i,h1,h2⟩:=GZ hm.1.1;exact Qb0b ‹_› h1 h2 hm.1.2 hm.2 hs he hp ho
  ·simp at hm
 |app sz x y=>
  simp only[mE]at hm;split at hm
  ·rename_i x' y' ats bP
   simp only[Ja]at hm;obtain⟨⟨h1,h2⟩,h3⟩:=hm;split at h3
   ·rename_i t t2 ht ee
    split at h3
    ·rename_i el el2 hu dx
     obtain⟨i,z,k1,k2,k3,k4,k5,k6⟩:=KE h3;exact Vp bP ht ee hu dx k1 k2 k3 k4 k5 k6 h1 h2 hs he hp ho
    ·simp at h3
   ·simp at h3
  ·simp at hm
 |bslm sz parts=>
  simp only[mE]at hm;split at hm
  ·rename_i t n parts' bP
   simp only[Ja,decide_eq_true_eq,beq_iff_eq]at hm;obtain⟨⟨⟨⟨h1,h2⟩,h3⟩,h4⟩,h5⟩:=hm;split at h5
   ·rename_i el lN
    rw[Ja]at h5;obtain⟨i,hi,hz⟩:=GZ h5.1;have h6:=h5.2;rw[hi]at h6;obtain⟨z,dl⟩:=Jac.1 h6;obtain⟨k1,k2⟩:=FE _ _ _ h3;exact V1 bP lN hi dl hz h4 h1 h2 (by simpa using k1) (λj x y e1 e2=>by
     have:=k2 j x y e1 Zab;exact⟨by simpa using this.1,this.2⟩) hs he hp ho
   ·simp at h5
  ·simp at hm
 |mks sz zero x=>
  simp only[mE]at hm;split at hm
  ·rename_i t x' y' bP
   simp only[Ja,decide_eq_true_eq,beq_iff_eq]at hm;obtain⟨⟨⟨⟨h1,h2⟩,h3⟩,h4⟩,h5⟩:=hm;split at h5
   ·rename_i el hu
    rw[Ja]at h5;obtain⟨i,z,k1,k2,k3,k4,k5,k6⟩:=KE h5.1;obtain⟨i',z',l1,l2,l3⟩:=GY h5.2;rw[k1]at l1;simp at l1;subst l1;exact Vl bP hu k1 k2 h4 l2 l3 h3 k5 h1 h2 hs he hp ho
   ·simp at h5
  ·simp at hm
 |mkm=>
  simp only[mE]at hm;split at hm
  ·exact Vm ‹_› hs ho
  ·simp at hm
 |upd tag x k y=>
  simp only[mE]at hm;split at hm
  ·simp only[Ja]at hm;obtain⟨kt,et,h1,h2⟩:=FF hm.2;exact HH (.inl ‹_›) h1 h2 hm.1.1.1 hm.1.1.2 hm.1.2 hs he hp ho
  ·simp only[Ja]at hm;obtain⟨kt,et,h1,h2⟩:=FF hm.2;exact HH (.inr ‹_›) h1 h2 hm.1.1.1 hm.1.1.2 hm.1.2 hs he hp ho
  ·simp at hm
 |del tag x k=>
  simp only[mE]at hm;split at hm
  ·rename_i x' k' ats bP
   simp only[Ja]at hm;obtain⟨⟨⟨h1,h2⟩,h3⟩,h4⟩:=hm;split at h4
   ·rename_i t ht
    obtain⟨kt,et,k1,k2⟩:=FF h4;exact Vo bP ht (by simpa using h3) k1 k2 h1 h2 hs he hp ho
   ·simp at h4
  ·simp at hm
 |clrm x=>
  simp[mE]at hm
 |clrs sz zero x=>
  simp only[mE]at hm;split at hm
  ·rename_i x' ats bP
   rw[Ja,Ja,beq_iff_eq]at hm;obtain⟨⟨h1,h3⟩,h2⟩:=hm;split at h2
   ·rename_i t ht
    split at h2
    ·rename_i el hu
     obtain⟨i,z,l1,l2,l3⟩:=GY h2;exact Vz bP ht hu l1 l2 l3 h3 h1 hs he hp ho
    ·simp at h2
   ·simp at h2
  ·simp at hm
 |call f xs=>
  simp only[mE]at hm;split at hm
  ·simp only[Ja,beq_iff_eq]at hm;obtain⟨rfl,h2⟩:=hm;simp only[EOp.eff]at ho;exact V0 ‹_› h2 hs he hp ho.1 ho.2
  ·simp at hm
 |bB x xs=>
  simp only[mE]at hm;split at hm
  ·simp only[Ja]at hm;exact Ys ‹_› hm.1 hm.2 hs he hp ho
  ·simp at hm
 |rng x=>
  simp only[mE]at hm;split at hm
  ·rename_i t x' bP
   rw[Ja]at hm;obtain⟨h1,h2⟩:=hm;split at h2
   ·exact Qb0a bP ‹_› h1 hs he hp ho
   ·simp at h2
  ·simp at hm
 |rngs x=>
  simp[mE]at hm
 |nxts x=>
  simp[mE]at hm
 |nxt x=>
  simp only[mE]at hm;split at hm
  ·exact Vk ‹_› hm hs he hp ho
  ·simp at hm
 |ent x=>
  simp only[mE]at hm;split at hm
  ·exact Vn ‹_› hm hs he hp ho
  ·simp at hm
 |cpy sz x y=>
  simp[mE]at hm
 |nilq x=>
  simp only[mE]at hm;split at hm
  ·rename_i t x' t' bP
   rw[Ja]at hm;obtain⟨h1,h2⟩:=hm;split at h2
   ·exact Vy bP ‹_› h1 rfl hs he hp ho
   ·simp at h2
  ·simp at hm
def mG (ops:Array Oper):Option (Nat×Bool)->Option (Nat×Bool)->Bool
 |none,none=>true
 |some (j,b),some (t,b')=>(match ops[j]? with
  |some o=>o.dst == some t
  |none=>false)&&b == b'
 |_,_=>false
def mDst (n:Nat)(d d':Option Nat):Bool:=
 d == d'&&(match d with
  |some t=>decide (t<n)
  |none=>true)
def AV (P:Program)(n:Nat)(ops:Array Oper)(o:Oper):Item->Bool
 |.f d g op=>mDst n o.dst d&&mG ops o.guard g&&mF P o op
 |.p d g f xs=>mDst n o.dst d&&mG ops o.guard g&&mE P o (.call f xs)
 |.e d g op=>mDst n o.dst d&&mG ops o.guard g&&mE P o op
 |.chk _ _ _=>false
def mIts (P:Program)(n:Nat)(ops:Array Oper):Nat->List Item->Bool
 |i,[]=>i == ops.size
 |i,x::r=>(match ops[i]? with
  |some o=>AV P n ops o x
  |none=>false)&&mIts P n ops (i+1) r
def Post (n:Nat)(H:Heap)(g:G)(w:World)(K:Env->Heap->Prop)(a:Act)(w':World):Prop:=
 ∃e' H' g',K e' H'/\Stp H g w H' g' w'/\EnvOk w' g' e' a/\a.defers=[]/\a.tmps.size=n
theorem EnvOk.mono {g':G}{w':World}(aP:Le g w g' w')(h:EnvOk w g e a):EnvOk w' g' e a:=λt=>(h t).mono aP
theorem EnvOk.put {n:Nat}{d:Option Nat}{x:V}{v:Value}(h:EnvOk w g e a)(hv:RepV w g x v)(hn:a.tmps.size=n)(hd:∀t,d=some t->t<n):EnvOk w g (putE d x e) (a.put d v):=by
 intro t
 cases d with
 |none=>exact h t
 |some s=>
  have hs:=hd s rfl;simp only[putE,lk,Act.put];by_cases ht:t=s
  ·subst ht;rw[if_pos rfl];have:(a.tmps.setIfInBounds t v).getD t undef=v:=by
    rw[Je,Jx ZD];rfl
   rw[this];exact hv
  ·rw[if_neg ht];have:(a.tmps.setIfInBounds s v).getD t undef=a.tmps.getD t undef:=by
    rw[Je,Js (Ne.symm ht),<-Je]
   rw[this];exact h t
theorem Bq (a:Act)(d:Option Nat)(v:Value):(a.put d v).tmps.size=a.tmps.size/\(a.put d v).defers=a.defers:=by
 cases d <;> simp[Act.put]
theorem Gd {n:Nat}{ops:Array Oper}{gd:Option (Nat×Bool)}(hm:mG ops o.guard gd=true)(he:EnvOk w g e a)(ho:gdO e gd):Region.wanted o (yielded ops a.tmps)=gdB e gd:=by
 unfold Region.wanted
 cases hg:o.guard with
 |none=>
  cases gd with
  |none=>rfl
  |some x=>rw[hg]at hm;simp[mG]at hm
 |some jb=>
  obtain⟨j,b⟩:=jb
  cases gd with
  |none=>rw[hg]at hm;simp[mG]at hm
  |some tb=>
   obtain⟨t,b'⟩:=tb;rw[hg]at hm;simp only[mG,Ja,beq_iff_eq]at hm;obtain⟨h1,rfl⟩:=hm;split at h1
   ·rename_i oj hoj
    simp at h1;simp only[yielded,hoj,Option.bind_some,h1];have hv:=he t;simp only[gdO]at ho;simp only[gdB];have b7:∀c,a.tmps.getD t undef=.bool c->a.tmps[t]? = some (.bool c):=by
     intro c hc;rw[Je]at hc
     cases hx:a.tmps[t]? with
     |none=>rw[hx]at hc;simp[undef]at hc
     |some y=>rw[hx]at hc;simp at hc;rw[hc]
    have bR:a.tmps.getD t undef=undef->∀c,a.tmps[t]?≠some (.bool c):=by
     intro hu c hc;rw[Je,hc]at hu;simp[undef]at hu
    split at ho
    ·rename_i c ip
     rw[ip]at hv;have:=b7 _ hv.aK.bx;simp only[ip];simp[this]
    ·rename_i q c ip
     rw[ip]at hv;simp only[ip]
     cases hv with
     |gd _ _ _ k1 k2=>
      cases q with
      |true=>
       have:=b7 _ (k1 rfl).aK.bx;simp[this]
      |false=>
       have:=bR (k2 rfl);simp only[Bool.false_and]
       cases hx:a.tmps[t]? with
       |none=>simp
       |some y=>cases y <;> simp_all
    ·rename_i q v mD ip
     rw[ip]at hv;subst ho;have e0:gdB e (some (t,b))=false:=by
      simp only[gdB,ip]
      cases v with
      |c x=>cases x <;> simp
      |_=>rfl
     refine Eq.trans ?_ e0.symm
     cases hv with
     |gd _ _ _ k1 k2=>
      have:=bR (k2 rfl)
      cases hx:a.tmps[t]? with
      |none=>simp
      |some y=>cases y <;> simp_all
    ·exact ho.elim
   ·simp at h1
theorem CM {n:Nat}{d d':Option Nat}(h:mDst n d d'=true):d=d'/\∀t,d=some t->t<n:=by
 unfold mDst at h;rw[Ja]at h;refine⟨by simpa using h.1,λt ht=>?_⟩;subst ht;simpa using h.2
theorem I1 {f:Nat}{xs:List Opd}{r:V}(hm:mE P o (.call f xs)=true)(hs:Sat H g w)(he:EnvOk w g e a)(hp:p=true)(hf:∀x∈xs,x.fine p e)(hc:Dg P f (xs.map λx=>x.v e) r) :
  EOk P H g w a o (λv H'=>v=r/\H'=H):=
 F9 (op:=.call f xs) hm hs he hp ⟨hf,hc.2 H _ ⟨rfl,rfl⟩⟩
theorem Of {KP:Value->Heap->Prop}{K:V->Heap->Prop}{x:V}{v:Value}(h:B4 KP K x H)(hr:RepV w g x v):K x H:=by
 cases hr <;> exact h
theorem Qbic {n:Nat}{ops:Array Oper}{i:Nat}{x:Item}{rest:List Item}{KP:Value->Heap->Prop}{K:Env->Heap->Prop}{Q:Exit->Act->World->Prop}{next:Act->World->Prop}(qm:ops[i]? = some o)(hm:AV P n ops o x=true)
  (hs:Sat H g w) (he:EnvOk w g e a) (hn:a.tmps.size=n) (hd:a.defers=[]) (hr:regT P (x::rest) e H KP K)
  (iF:∀v H' g' w',KP v H'->Stp H g w H' g' w'->Q (.panic [{ v:=v,recovered:=false }]) a w')
  (bU:∀e' H' g' a' w',regT P rest e' H' KP K->Stp H g w H' g' w'->EnvOk w' g' e' a'->a'.tmps.size=n->a'.defers=[]->next a' w') :
  (if Region.wanted o (yielded ops a.tmps)then o.wp P a w next Q\/(o.asks P a w/\LetsOut Q)else next (a.put o.dst undef) w):=by
 cases x with
 |f d gd op=>
  simp only[AV,Ja]at hm;obtain⟨⟨h1,h2⟩,h3⟩:=hm;obtain⟨bT,cD⟩:=CM h1;simp only[regT]at hr;obtain⟨r1,r2,r3⟩:=hr;rw[Gd (n:=n) h2 he r1];by_cases hg:gdB e gd=true
  ·rw[if_pos hg];obtain⟨v,w',g',k1,k2,k3,k4⟩:=Kd h3 hs he hg (r2 hg);left;unfold Oper.wp;rw[k1,Oper.upon_value,bT];refine bU _ _ _ _ _ (r3 λ_=>k4) k2 (((he.mono k2.le).put (n:=n) ?_ hn (bT▸cD))) Zak Zal
   cases gd with
   |none=>exact k3
   |some tb=>exact .gd _ _ _ (λ_=>k3) (λh=>by rw[hg]at h;simp at h)
  ·rw[if_neg hg];have kY:gdB e gd=false:=Zai
   rw[bT];refine bU _ _ _ _ _ (r3 λh=>absurd h hg) (.refl hs) (he.put (n:=n) ?_ hn (bT▸cD)) Zak Zal
   cases gd with
   |none=>simp[gdB]at kY
   |some tb=>exact .gd _ _ _ (λh=>absurd h hg) (λ_=>rfl)
 |p d gd f xs=>
  simp only[AV,Ja]at hm;obtain⟨⟨h1,h2⟩,h3⟩:=hm;obtain⟨bT,cD⟩:=CM h1;simp only[regT]at hr;obtain⟨r1,v0,r2,r3⟩:=hr;rw[Gd (n:=n) h2 he r1];by_cases hg:gdB e gd=true
  ·rw[if_pos hg];obtain⟨s1,s2⟩:=r2 hg;left;refine I1 h3 hs he hg s1 s2 Q next (λx v w' H' g' hk aR dj=>?_) λv w' H' g' hk _=>absurd hk.1.symm (s2.1 v);obtain⟨rfl,rfl⟩:=hk;rw[bT];refine bU _ _ _ _ _ r3 aR (((he.mono aR.le).put (n:=n) ?_ hn (bT▸cD))) Zak Zal
   cases gd with
   |none=>exact dj
   |some tb=>exact .gd _ _ _ (λ_=>dj) (λh=>by rw[hg]at h;simp at h)
  ·rw[if_neg hg];have kY:gdB e gd=false:=Zai
   rw[bT];refine bU _ _ _ _ _ r3 (.refl hs) (he.put (n:=n) ?_ hn (bT▸cD)) Zak Zal
   cases gd with
   |none=>simp[gdB]at kY
   |some tb=>exact .gd _ _ _ (λh=>absurd h hg) (λ_=>rfl)
 |e d gd op=>
  simp only[AV,Ja]at hm;obtain⟨⟨h1,h2⟩,h3⟩:=hm;obtain⟨bT,cD⟩:=CM h1;simp only[regT]at hr;obtain⟨r1,r2,r3⟩:=hr;rw[Gd (n:=n) h2 he r1];by_cases hg:gdB e gd=true
  ·rw[if_pos hg];left;refine F9 h3 hs he hg (r2 hg) Q next (λx v w' H' g' hk aR dj=>?_) λv w' H' g' hk aR=>iF v H' g' w' hk aR;rw[bT];exact bU _ _ _ _ _ (Of hk dj) aR (((he.mono aR.le).put (n:=n) dj hn (bT▸cD))) Zak Zal
  ·rw[if_neg hg];have kY:gdB e gd=false:=Zai
   rw[bT];exact bU _ _ _ _ _ (r3 kY) (.refl hs) (he.put (n:=n) (.unk _) hn (bT▸cD)) Zak Zal
 |chk d gd op=>simp[AV]at hm
theorem Q81 {n:Nat}{ops:Array Oper}{KP:Value->Heap->Prop}{K:Env->Heap->Prop}{Q:Exit->Act->World->Prop}{H0:Heap}{g0:G}{w0:World}(hQ:∀a' w',Post n H0 g0 w0 K a' w'->Q .normal a' w')
  (hP:∀v a' w',Post n H0 g0 w0 (λ_ H'=>KP v H') a' w'->Q (.panic [{ v:=v,recovered:=false }]) a' w') :
  ∀(its:List Item) (i:Nat) (e:Env) (H:Heap) (g:G) (w:World) (a:Act),mIts P n ops i its=true->Stp H0 g0 w0 H g w->EnvOk w g e a->a.tmps.size=n->a.defers=[]->regT P its e H KP K->
   wpOps P ops Q (List.range' i its.length) a w
 |[],i,e,H,g,w,a,_,aR,he,hn,hd,hr=>hQ a w ⟨e,H,g,hr,aR,he,hd,hn⟩
 |x::rest,i,e,H,g,w,a,hm,aR,he,hn,hd,hr=>by
  simp only[mIts,Ja]at hm;obtain⟨h1,h2⟩:=hm;split at h1
  ·rename_i o ho
   simp only[J7,List.range'_succ,wpOps,ho];have:=Qbic (Q:=Q) (next:=wpOps P ops Q (List.range' (i+1) rest.length)) ho h1 aR.sat he hn hd hr (λv H' g' w' k1 k2=>hP v a w' ⟨e,H',g',k1,aR.trans k2,he.mono k2.le,hd,hn⟩) λe' H' g' a' w' k1 k2 k3 k4 k5=>
    Q81 hQ hP rest (i+1) e' H' g' w' a' h2 (aR.trans k2) k3 k4 k5 k1
   simpa using this
  ·simp at h1
theorem I4 {n:Nat}{ops:Array Oper}:∀(its:List Item) (i:Nat),mIts P n ops i its=true->i+its.length=ops.size
 |[],i,h=>by simpa[mIts]using h
 |x::r,i,h=>by
  simp only[mIts,Ja]at h;have:=I4 r (i+1) h.2;simp only[J7];omega
end Go.AE
namespace Go.AE
variable {P:Program}
def optL:Option Opd->List Opd
 |none=>[]
 |some x=>[x]
def FOp.opds:FOp->List Opd
 |.mv x=>[x]
 |.pick c a b=>[c,a,b]
 |.bin _ _ a b=>[a,b]
 |.not a=>[a]
 |.fad _ a=>[a]
 |.iad _ a i=>[a,i]
 |.ld _ _ a=>[a]
 |.nck a=>[a]
 |.len a=>[a]
 |.lenx a=>[a]
 |.lens a=>[a]
 |.lensx a=>[a]
 |.lenm a=>[a]
 |.sli _ a lo hi=>a::(optL lo++optL hi)
 |.slis a lo hi=>a::(optL lo++optL hi)
 |.ext a _=>[a]
 |.asl _ a=>[a]
 |.aslp _ a hi=>a::optL hi
 |.ldg _ _ _=>[]
 |.ldo _ _=>[]
 |.aslg _ _ _=>[]
 |.iax _ _ a i=>[a,i]
 |.slm _ a hi=>[a,hi]
 |.iaa _ _ a i=>[a,i]
 |.fld _ _ _ a=>[a]
 |.idx a i=>[a,i]
 |.bld _ parts=>parts.map λp=>p.2.2
 |.aH _ parts=>parts
 |.box a=>[a]
 |.cvt _ a=>[a]
 |.mkf _ caps=>caps
 |.lup _ _ m k=>[m,k]
 |.lup2 _ _ m k=>[m,k]
 |.mx a b=>[a,b]
 |.mn a b=>[a,b]
def EOp.opds:EOp->List Opd
 |.alloc _=>[]
 |.boxm a=>[a]
 |.sto _ a v=>[a,v]
 |.app _ a b=>[a,b]
 |.mks _ _ n=>[n]
 |.mkm=>[]
 |.upd _ m k v=>[m,k,v]
 |.del _ m k=>[m,k]
 |.clrm m=>[m]
 |.clrs _ _ m=>[m]
 |.call _ args=>args
 |.bB f args=>f::args
 |.rng m=>[m]
 |.nxt it=>[it]
 |.rngs m=>[m]
 |.nxts it=>[it]
 |.ent it=>[it]
 |.nilq a=>[a]
 |.bslm _ parts=>parts
 |.cpy _ a b=>[a,b]
def FOp.hfree:FOp->Bool
 |.iad _ _ _=>false
 |.ld _ _ _=>false
 |.len _=>false
 |.lenx _=>false
 |.lenm _=>false
 |.sli _ _ _ _=>false
 |.lup _ _ _ _=>false
 |.asl _ _=>false
 |.ldg _ _ _=>false
 |.ldo _ _=>false
 |.aslg _ _ _=>false
 |.lup2 _ _ _ _=>false
 |_=>true
theorem Opd.aQ {e e':Env}{x:Opd}(h:x.raw e'=x.raw e):x.v e'=x.v e:=by
 simp only[Opd.v,h]
theorem Opd.aA {e e':Env}{x:Opd}{p:Bool}(h:x.raw e'=x.raw e):x.fine p e'↔x.fine p e:=by
 simp only[Opd.fine,h]
theorem GL {e e':Env}{x:Option Opd}{p:Bool}(h:∀y∈optL x,y.raw e'=y.raw e) :
  (x.map λy=>Ag (y.v e'))=(x.map λy=>Ag (y.v e))/\(optF p x e'↔optF p x e)/\(optI x e'↔optI x e):=by
 cases x with
 |none=>exact⟨rfl,Jbf,Jbf⟩
 |some y=>
  have:=h y (by simp[optL]);simp only[Jq,optF,optI,Opd.aQ this,Opd.aA this,and_self]
theorem FOp.congr {op:FOp}{e e':Env}{H:Heap}{p:Bool}(h:∀x∈op.opds,x.raw e'=x.raw e) :
  op.val e' H=op.val e H/\(op.obl p e' H↔op.obl p e H):=by
 cases op <;> simp only[FOp.opds,Jau,Jbk,or_false,forall_eq_or_imp,forall_eq,List.mem_append,Jbr,forall_exists_index,and_imp]at h
 case sli sz a lo hi=>
  have h1:=Opd.aQ h.1;have h2:=GL (x:=lo) (p:=p) λy hy=>h.2 y (.inl hy);have h3:=GL (x:=hi) (p:=p) λy hy=>h.2 y (.inr hy);simp only[FOp.val,FOp.obl,h1,h2.1,h3.1,h2.2.1,h3.2.1,h2.2.2,h3.2.2,Opd.aA h.1,and_self]
 case ldg n b l=>exact⟨rfl,Jbf⟩
 case ldo b l=>exact⟨rfl,Jbf⟩
 case aslg n b l=>exact⟨rfl,Jbf⟩
 case aslp n a hi=>
  have h1:=Opd.aQ h.1;have h3:=GL (x:=hi) (p:=p) λy hy=>h.2 y hy;simp only[FOp.val,FOp.obl,h1,h3.1,h3.2.1,h3.2.2,Opd.aA h.1,and_self]
 case slis a lo hi=>
  have h1:=Opd.aQ h.1;have h2:=GL (x:=lo) (p:=p) λy hy=>h.2 y (.inl hy);have h3:=GL (x:=hi) (p:=p) λy hy=>h.2 y (.inr hy);simp only[FOp.val,FOp.obl,h1,h2.1,h3.1,h2.2.1,h3.2.1,h2.2.2,h3.2.2,Opd.aA h.1,and_self]
 case bld zero parts=>
  have h1:∀x∈parts,x.2.2.raw e'=x.2.2.raw e:=λx hx=>h _ x hx rfl;refine⟨?_,?_⟩
  ·simp only[FOp.val];have:(parts.map λp=>(p.1,(p.2.2.v e').cells))=parts.map λp=>(p.1,(p.2.2.v e).cells):=
    J6 λx hx=>by rw[Opd.aQ (h1 x hx)]
   rw[this]
  ·simp only[FOp.obl];exact forall_congr' λx=>forall_congr' λhx=>by rw[Opd.aA (h1 x hx),Opd.aQ (h1 x hx)]
 case aH sz parts=>
  refine⟨?_,?_⟩
  ·simp only[FOp.val];have:(parts.map λx=>(x.v e').cells)=parts.map λx=>(x.v e).cells:=
    J6 λx hx=>ZaW
   rw[this]
  ·simp only[FOp.obl];exact forall_congr' λx=>forall_congr' λhx=>ZaO
 case mkf f caps=>
  refine⟨?_,?_⟩
  ·simp only[FOp.val];have:(caps.map λx=>(x.v e').c1)=caps.map λx=>(x.v e).c1:=
    J6 λx hx=>ZaW
   rw[this]
  ·simp only[FOp.obl];exact forall_congr' λx=>forall_congr' λhx=>ZaO
 case pick c a b=>
  simp only[FOp.val,FOp.obl,Opd.aQ h.1,Opd.aQ h.2.1,Opd.aQ h.2.2,Opd.aA h.1,true_and];constructor <;> rintro⟨k1,k2⟩ <;> refine⟨k1,?_⟩ <;> split at k2 <;> first|exact k2.elim|skip
  ·rw[Opd.aA h.2.1,Opd.aA h.2.2]at k2;exact k2
  ·rw[Opd.aA h.2.1,Opd.aA h.2.2];exact k2
 all_goals first
  |(have h1:=Opd.aQ h;simp only[FOp.val,FOp.obl,h1,Opd.aA h,and_self])
  |(have h1:=Opd.aQ h.1;have h2:=Opd.aQ h.2;simp only[FOp.val,FOp.obl,h1,h2,Opd.aA h.1,Opd.aA h.2,and_self])
theorem FOp.hcongr {op:FOp}{e:Env}{H H':Heap}{p:Bool}(h:op.hfree=true):op.val e H'=op.val e H/\(op.obl p e H'↔op.obl p e H):=by
 cases op <;> first|(simp[FOp.hfree]at h;done)|exact⟨rfl,Jbf⟩
theorem Q5w {e e':Env}{xs:List Opd}(h:∀x∈xs,x.raw e'=x.raw e):(xs.map λx=>x.v e')=(xs.map λx=>x.v e):=
 J6 λx hx=>Opd.aQ (h x hx)
theorem Rx {e e':Env}{xs:List Opd}{p:Bool}(h:∀x∈xs,x.raw e'=x.raw e):(∀x∈xs,x.fine p e')↔(∀x∈xs,x.fine p e):=
 forall_congr' λx=>forall_congr' λhx=>Opd.aA (h x hx)
theorem EOp.congr {op:EOp}{e e':Env}{H:Heap}{p:Bool}{K:V->Heap->Prop}(h:∀x∈op.opds,x.raw e'=x.raw e)(he:op.eff P p e H K):op.eff P p e' H K:=by
 cases op
 case call f xs=>
  simp only[EOp.opds]at h;simp only[EOp.eff]at he⊢;rw[Q5w h,Rx h];exact he
 case bB f xs=>
  simp only[EOp.opds,Jau,forall_eq_or_imp]at h;simp only[EOp.eff]at he⊢;rw[Q5w h.2,Rx h.2,Opd.aA h.1,Opd.aQ h.1];exact he
 case bslm sz parts=>
  simp only[EOp.opds]at h;simp only[EOp.eff]at he⊢;have:(parts.map λx=>(x.v e').cells)=parts.map λx=>(x.v e).cells:=
   J6 λx hx=>ZaW
  rw[this];exact⟨λx hx=>by rw[Opd.aA (h x hx),Opd.aQ (h x hx)];exact he.1 x hx,he.2⟩
 all_goals simp only[EOp.opds,Jau,Jbk,or_false,forall_eq_or_imp,forall_eq]at h
 all_goals first
  |exact he
  |(simp only[EOp.eff,Opd.aQ h,Opd.aA h]at he⊢;exact he)
  |(simp only[EOp.eff,Opd.aQ h.1,Opd.aA h.1,Opd.aQ h.2,Opd.aA h.2]at he⊢;exact he)
  |(simp only[EOp.eff,Opd.aQ h.1,Opd.aA h.1,Opd.aQ h.2.1,Opd.aA h.2.1,Opd.aQ h.2.2,Opd.aA h.2.2]at he⊢;exact he)
def Item.dst:Item->Option Nat
 |.f d _ _=>d
 |.p d _ _ _=>d
 |.e d _ _=>d
 |.chk _ _ _=>none
def Item.gd:Item->Option (Nat×Bool)
 |.f _ g _=>g
 |.p _ g _ _=>g
 |.e _ g _=>g
 |.chk _ g _=>g
def Item.opds:Item->List Opd
 |.f _ _ op=>op.opds
 |.p _ _ _ xs=>xs
 |.e _ _ op=>op.opds
 |.chk _ _ op=>op.opds
def Opd.tm:Opd->List Nat
 |.t n=>[n]
 |_=>[]
def Item.looks (x:Item):List Nat:=x.opds.flatMap Opd.tm++(match x.gd with
 |some (t,_)=>[t]
 |none=>[])
theorem Qboq {e e':Env}{x:Opd}(h:∀t∈x.tm,lk t e'=lk t e):x.raw e'=x.raw e:=by
 cases x with
 |t n=>simpa[Opd.raw,Opd.tm]using h
 |k v=>rfl
theorem Kk {e e':Env}{x:Item}(h:∀t∈x.looks,lk t e'=lk t e):∀y∈x.opds,y.raw e'=y.raw e:=λy hy=>
 Qboq λt ht=>h t (Ja6 _ (List.mem_flatMap.2 ⟨y,hy,ht⟩))
theorem Qbr4 {e e':Env}{gd:Option (Nat×Bool)}(h:∀t b,gd=some (t,b)->lk t e'=lk t e):gdB e' gd=gdB e gd/\(gdO e' gd↔gdO e gd):=by
 cases gd with
 |none=>exact⟨rfl,Jbf⟩
 |some x=>
  obtain⟨t,b⟩:=x;have:=h t b rfl;simp only[gdB,gdO,this,and_self]
theorem I5 {e e':Env}{x:Item}(h:∀t∈x.looks,lk t e'=lk t e):gdB e' x.gd=gdB e x.gd/\(gdO e' x.gd↔gdO e x.gd):=
 Qbr4 λt b hg=>h t (Ja2 _ (by rw[hg];simp))
theorem Dx (ks:List Nat)(e:Env)(t:Nat):lk t (trim ks e)=if t∈ks then lk t e else .unk:=by
 unfold trim
 induction ks with
 |nil=>simp[lk]
 |cons k ks ih=>
  simp only[Jbp,lk,ih,Jau];by_cases h:t=k
  ·subst h;simp
  ·simp[h]
end Go.AE
namespace Go.AE
variable {P:Program}{H:Heap}{g:G}{w:World}{e:Env}{a:Act}
def Item.isE:Item->Bool
 |.e _ _ _=>true
 |_=>false
def Item.aO:Item->Bool
 |.chk _ _ _=>true
 |_=>false
def Item.isFl:Item->Bool
 |.f _ _ _=>true
 |.p _ _ _ _=>true
 |_=>false
def Item.hf:Item->Bool
 |.f _ _ op=>op.hfree
 |_=>true
def Item.isFa:Item->Bool
 |.e (some _) none (.alloc _)=>true
 |_=>false
abbrev Row:=Nat×Item
def GE (ms:List Nat)(o:Oper):Nat->List Edge->Nat
 |s,[]=>s
 |s,ed::r=>GE ms o (if Region.binds .any ed then s ||| (2 ^ ed.on ||| ms.getD ed.on 0)else s) r
def dIn (d:Option Nat)(l:List Nat):Bool:=
 match d with
 |some t=>l.contains t
 |none=>false
def flo (fa i:Nat):Bool:=i == fa || (decide (100000<=fa)&&(fa-100000).testBit i)
def Dk (ms:List Nat)(fa:Nat)(x y:Row):Bool:=
 x.1 != y.1&&!((ms.getD x.1 0).testBit y.1)&&(match x.2.dst with
  |some t=>y.2.dst != some t
  |none=>true)
 &&(!(dIn y.2.dst x.2.looks) || (ms.getD y.1 0).testBit x.1)
 &&(!(dIn x.2.dst y.2.looks) || (ms.getD y.1 0).testBit x.1)
 &&(!x.2.isE || flo fa y.1 || (ms.getD y.1 0).testBit x.1)
def Bj (j:Nat):List Row->Bool
 |[]=>false
 |y::r=>y.2.aO&&(y.1 == j || Bj j r)
def BZ (P:Program)(n:Nat)(ops:Array Oper)(ms:List Nat)(fa:Nat)(pre:List Row)(y:Row)(rest:List Row):Bool:=
 match ops[y.1]? with
 |none=>false
 |some o=>match y.2 with
  |.chk d gd op=>AV P n ops o (.f (some d) gd op)&&pre.any (λz=>!z.2.aO&&z.1 == y.1&&z.2.looks == y.2.looks&&z.2.dst == some d&&!z.2.hf)
    &&pre.all (λz=>z.2.aO || !(dIn z.2.dst y.2.looks) || (ms.getD y.1 0).testBit z.1)
  |_=>AV P n ops o y.2&&o.after.toList.all (λed=>!Region.binds .any ed || pre.any λz=>!z.2.aO&&z.1 == ed.on)
    &&ms.getD y.1 0 == GE ms o 0 o.after.toList&&!(dIn y.2.dst y.2.looks)
    &&pre.all (λz=>z.2.aO || Dk ms fa z y)&&(!flo fa y.1 || y.2.isFa)
    &&(!y.2.isE || pre.all (λz=>z.2.aO || z.2.hf || (ms.getD y.1 0).testBit z.1 || Bj z.1 rest))
def CI (P:Program)(n:Nat)(ops:Array Oper)(ms:List Nat)(fa:Nat):List Row->List Row->Bool
 |_,[]=>true
 |pre,y::r=>BZ P n ops ms fa pre y r&&CI P n ops ms fa (pre++[y]) r
def Er:List Oper->List Nat->List Nat
 |[],ms=>ms
 |o::r,ms=>Er r (ms++[GE ms o 0 o.after.toList])
def Eu (P:Program)(n:Nat)(ops:Array Oper)(fa:Nat)(ord:List Nat)(its:List Item):Bool:=
 ord.length == its.length&&Region.noSelect ops&&CI P n ops (Er ops.toList []) fa [] (ord.zip its)
  &&(List.range ops.size).all λi=>(ord.zip its).any λy=>!y.2.aO&&y.1 == i
theorem Ri {n:Nat}{ops:Array Oper}{ms:List Nat}{fa:Nat}:∀(L pre:List Row),CI P n ops ms fa pre L=true->
  ∀A y B,L=A++y::B->BZ P n ops ms fa (pre++A) y B=true
 |[],_,_,A,y,B,h=>ZK
 |x::r,pre,hm,A,y,B,h=>by
  simp only[CI,Ja]at hm
  cases A with
  |nil=>
   simp at h;obtain⟨rfl,rfl⟩:=h;simpa using hm.1
  |cons a A=>
   simp at h;obtain⟨rfl,rfl⟩:=h;have:=Ri _ _ hm.2 A y B rfl;simpa[Jw]using this
theorem Q8o {ms:List Nat}{o:Oper}{j:Nat}:∀(l:List Edge) (s:Nat),(GE ms o s l).testBit j=true->
  s.testBit j=true\/∃ed∈l,Region.binds .any ed=true/\(ed.on=j\/(ms.getD ed.on 0).testBit j=true)
 |[],s,h=>.inl h
 |ed::r,s,h=>by
  simp only[GE]at h;rcases Q8o r _ h with h1|⟨x,hx,h1⟩
  ·by_cases hb:Region.binds .any ed=true
   ·rw[if_pos hb]at h1;simp only[Nat.testBit_or,Jad]at h1;rcases h1 with h1|h1|h1
    ·exact .inl h1
    ·rw[Nat.testBit_two_pow]at h1;exact .inr ⟨ed,ZF,hb,.inl Zaw⟩
    ·exact .inr ⟨ed,ZF,hb,.inr h1⟩
   ·rw[if_neg hb]at h1;exact .inl h1
  ·exact .inr ⟨x,Za0,h1⟩
theorem dIn_iff {d:Option Nat}{l:List Nat}:dIn d l=true↔∃t,d=some t/\t∈l:=by
 cases d <;> simp[dIn]
structure PairOk (ms:List Nat)(fa:Nat)(x y:Row):Prop where
 ne:x.1≠y.1
 top:(ms.getD x.1 0).testBit y.1=false
 dst:∀t,x.2.dst=some t->y.2.dst≠some t
 war:∀t,y.2.dst=some t->t∈x.2.looks->(ms.getD y.1 0).testBit x.1=true
 raw:∀t,x.2.dst=some t->t∈y.2.looks->(ms.getD y.1 0).testBit x.1=true
 ord:x.2.isE=true->¬flo fa y.1=true->(ms.getD y.1 0).testBit x.1=true
theorem Qa9r {ms:List Nat}{fa:Nat}{x y:Row}(h:Dk ms fa x y=true):PairOk ms fa x y:=by
 simp only[Dk,Ja,bne_iff_ne,Jad,Jap,beq_iff_eq]at h;obtain⟨⟨⟨⟨⟨h1,h2⟩,h3⟩,h4⟩,h5⟩,h6⟩:=h;refine⟨h1,h2,?_,?_,?_,?_⟩
 ·intro t ht;rw[ht]at h3;simpa using h3
 ·intro t ht hm;rcases h4 with h4|h4
  ·have:=dIn_iff.2 ⟨t,ht,hm⟩;rw[this]at h4;simp at h4
  ·exact h4
 ·intro t ht hm;rcases h5 with h5|h5
  ·have:=dIn_iff.2 ⟨t,ht,hm⟩;rw[this]at h5;simp at h5
  ·exact h5
 ·intro hx hy;rcases h6 with (h6|h6)|h6
  ·rw[hx]at h6;simp at h6
  ·exact absurd h6 hy
  ·exact h6
structure RowOk (P:Program)(n:Nat)(ops:Array Oper)(ms:List Nat)(fa:Nat)(pre:List Row)(y:Row)(rest:List Row)(o:Oper):Prop where
 op:ops[y.1]? = some o
 item:AV P n ops o y.2=true
 aft:∀ed∈o.after,Region.binds .any ed=true->∃z∈pre,z.2.aO=false/\z.1=ed.on
 anc:∀j,(ms.getD y.1 0).testBit j=true->∃ed∈o.after,Region.binds .any ed=true/\(ed.on=j\/(ms.getD ed.on 0).testBit j=true)
 self:∀t,y.2.dst=some t->t∉y.2.looks
 pair:∀z∈pre,z.2.aO=false->PairOk ms fa z y
 isFa:flo fa y.1=true->y.2.isFa=true
 cover:y.2.isE=true->∀z∈pre,z.2.aO=false->z.2.hf=false->(ms.getD y.1 0).testBit z.1=false->Bj z.1 rest=true
theorem Qbje {n:Nat}{ops:Array Oper}{ms:List Nat}{fa:Nat}{pre:List Row}{y:Row}{rest:List Row}(h:BZ P n ops ms fa pre y rest=true)(hc:y.2.aO=false) :
  ∃o,RowOk P n ops ms fa pre y rest o:=by
 obtain⟨i,x⟩:=y;unfold BZ at h
 cases ho:ops[i]? with
 |none=>simp[ho]at h
 |some o=>
  simp only[ho]at h;have key:(AV P n ops o x&&o.after.toList.all (λed=>!Region.binds .any ed || pre.any λz=>!z.2.aO&&z.1 == ed.on)
    &&ms.getD i 0 == GE ms o 0 o.after.toList&&!(dIn x.dst x.looks)
    &&pre.all (λz=>z.2.aO || Dk ms fa z (i,x))&&(!flo fa i || x.isFa)
    &&(!x.isE || pre.all (λz=>z.2.aO || z.2.hf || (ms.getD i 0).testBit z.1 || Bj z.1 rest)))=true:=by
   cases x with
   |chk=>simp[Item.aO]at hc
   |f=>exact h
   |p=>exact h
   |e=>exact h
  simp only[Ja,Jaa,Jad,Jap,beq_iff_eq,bne_iff_ne,Jbj]at key;obtain⟨⟨⟨⟨⟨⟨h1,h2⟩,h3⟩,h4⟩,h5⟩,h6⟩,h7⟩:=key;refine⟨o,ho,h1,?_,?_,?_,?_,?_,?_⟩
  ·intro ed sn hb;rcases h2 ed (by simpa using sn)with h|⟨z,hz,h⟩
   ·rw[hb]at h;simp at h
   ·exact⟨z,hz,h.1,h.2⟩
  ·intro j hj;simp only at hj;rw[h3]at hj;rcases Q8o _ _ hj with h|⟨ed,sn,h⟩
   ·simp at h
   ·exact⟨ed,by simpa using sn,h⟩
  ·intro t ht hm;have:=dIn_iff.2 ⟨t,ht,hm⟩;simp only at this;rw[this]at h4;simp at h4
  ·intro z hz cE;rcases h5 z hz with h|h
   ·rw[cE]at h;simp at h
   ·exact Qa9r h
  ·intro hf;rcases h6 with h|h
   ·exact absurd hf (by rw[h];decide)
   ·exact h
  ·intro hE z hz cE hzh xy;rcases h7 with h|h
   ·simp only at hE;rw[hE]at h;simp at h
   ·rcases h z hz with ((h|h)|h)|h
    ·rw[cE]at h;simp at h
    ·rw[hzh]at h;simp at h
    ·simp only at xy;rw[xy]at h;simp at h
    ·exact h
theorem Qbhu {n:Nat}{ops:Array Oper}{ms:List Nat}{fa:Nat}{pre:List Row}{i d:Nat}{gd:Option (Nat×Bool)}{op:FOp}{rest:List Row}(h:BZ P n ops ms fa pre (i,.chk d gd op) rest=true) :
  ∃o,ops[i]? = some o/\AV P n ops o (.f (some d) gd op)=true/\(∃z∈pre,z.2.aO=false/\z.1=i/\z.2.looks=(Item.f (some d) gd op).looks/\z.2.dst=some d/\z.2.hf=false)/\
   ∀z∈pre,z.2.aO=false->∀t,z.2.dst=some t->t∈(Item.f (some d) gd op).looks->(ms.getD i 0).testBit z.1=true:=by
 unfold BZ at h
 cases ho:ops[i]? with
 |none=>simp[ho]at h
 |some o=>
  simp only[ho,Ja,Jbj,Jaa,Jad,Jap,beq_iff_eq]at h;obtain⟨⟨h1,z,hz,⟨⟨⟨h2,h3⟩,h4⟩,h5⟩,h6⟩,h7⟩:=h;refine⟨o,rfl,h1,⟨z,hz,h2,h3,h4,h5,h6⟩,?_⟩;intro z hz cE t ht hm;rcases h7 z hz with (h|h)|h
  ·rw[cE]at h;simp at h
  ·have:=dIn_iff.2 ⟨t,ht,hm⟩;change dIn z.2.dst (Item.chk d gd op).looks=true at this;rw[this]at h;simp at h
  ·exact h
abbrev dn (listed:Array Bool)(i:Nat):Prop:=listed.getD i false=true
def Rdy (P:Program)(x:Item)(e:Env)(H:Heap)(v:V):Prop:=
 match x with
 |.f _ gd op=>gdO e gd/\(gdB e gd=true->op.obl (gdB e gd) e H)/\v=gdV gd (gdB e gd) (op.val e H)
 |.p _ gd f xs=>gdO e gd/\∃r,(gdB e gd=true->(∀y∈xs,y.fine (gdB e gd) e)/\Dg P f (xs.map λy=>y.v e) r)/\v=gdV gd (gdB e gd) r
 |_=>False
theorem Rdy.congr {x:Item}{e e':Env}{v:V}(h:∀t∈x.looks,lk t e'=lk t e)(hr:Rdy P x e H v):Rdy P x e' H v:=by
 have h1:=Kk h;have h2:=I5 h
 cases x with
 |f d gd op=>
  simp only[Item.gd]at h2;simp only[Item.opds]at h1;have h3:=FOp.congr (H:=H) (p:=gdB e gd) h1;simp only[Rdy]at hr⊢;rw[h2.1,h2.2,h3.1,h3.2];exact hr
 |p d gd f xs=>
  simp only[Item.gd]at h2;simp only[Item.opds]at h1;simp only[Rdy]at hr⊢;rw[h2.1,h2.2,Q5w h1,Rx h1];exact hr
 |e=>exact hr
 |chk=>exact hr
theorem Rdy.hcongr {x:Item}{e:Env}{H':Heap}{v:V}(h:x.hf=true)(hr:Rdy P x e H v):Rdy P x e H' v:=by
 cases x with
 |f d gd op=>
  have h3:=FOp.hcongr (e:=e) (H:=H) (H':=H') (p:=gdB e gd) (op:=op) h;simp only[Rdy]at hr⊢;rw[h3.1,h3.2];exact hr
 |p d gd f xs=>exact hr
 |e=>exact hr
 |chk=>exact hr
theorem XG {n:Nat}{ops:Array Oper}{i:Nat}{o:Oper}{x:Item}{v:V}{Q:Exit->Act->World->Prop}{next:Act->World->Prop}(qm:ops[i]? = some o)(hm:AV P n ops o x=true)
  (hr:Rdy P x e H v) (hs:Sat H g w) (he:EnvOk w g (trim x.looks e) a)
  (bU:∀u w' g',Stp H g w H g' w'->RepV w' g' v u->next (a.put x.dst u) w') :
  wpOp P ops Q i next a w:=by
 have bh:Rdy P x (trim x.looks e) H v:=hr.congr λt ht=>by rw[Dx,if_pos ht]
 unfold wpOp;rw[qm];simp only
 cases x with
 |f d gd op=>
  simp only[AV,Ja]at hm;obtain⟨⟨h1,h2⟩,h3⟩:=hm;obtain⟨bT,cD⟩:=CM h1;simp only[Rdy]at bh;obtain⟨r1,r2,r3⟩:=bh;rw[Gd (n:=n) h2 he r1];by_cases hg:gdB (trim (Item.f d gd op).looks e) gd=true
  ·rw[if_pos hg];obtain⟨u,w',g',k1,k2,k3,k4⟩:=Kd h3 hs he hg (r2 hg);left;unfold Oper.wp;rw[k1,Oper.upon_value,bT];refine bU u w' g' k2 ?_;rw[r3]
   cases gd with
   |none=>exact k3
   |some tb=>exact .gd _ _ _ (λ_=>k3) (λh=>by rw[hg]at h;simp at h)
  ·rw[if_neg hg];have kY:gdB (trim (Item.f d gd op).looks e) gd=false:=Zai
   rw[bT];refine bU _ _ g (.refl hs) ?_;rw[r3]
   cases gd with
   |none=>simp[gdB]at kY
   |some tb=>exact .gd _ _ _ (λh=>absurd h hg) (λ_=>rfl)
 |p d gd f xs=>
  simp only[AV,Ja]at hm;obtain⟨⟨h1,h2⟩,h3⟩:=hm;obtain⟨bT,cD⟩:=CM h1;simp only[Rdy]at bh;obtain⟨r1,v0,r2,r3⟩:=bh;rw[Gd (n:=n) h2 he r1];by_cases hg:gdB (trim (Item.p d gd f xs).looks e) gd=true
  ·rw[if_pos hg];obtain⟨s1,s2⟩:=r2 hg;left;refine I1 h3 hs he hg s1 s2 Q next (λy u w' H' g' hk aR dj=>?_) λv w' H' g' hk _=>absurd hk.1.symm (s2.1 v);obtain⟨rfl,rfl⟩:=hk;rw[bT];refine bU _ _ g' aR ?_;rw[r3]
   cases gd with
   |none=>exact dj
   |some tb=>exact .gd _ _ _ (λ_=>dj) (λh=>by rw[hg]at h;simp at h)
  ·rw[if_neg hg];have kY:gdB (trim (Item.p d gd f xs).looks e) gd=false:=Zai
   rw[bT];refine bU _ _ g (.refl hs) ?_;rw[r3]
   cases gd with
   |none=>simp[gdB]at kY
   |some tb=>exact .gd _ _ _ (λh=>absurd h hg) (λ_=>rfl)
 |e=>exact bh.elim
 |chk=>exact bh.elim
theorem Yk {n:Nat}{ops:Array Oper}{i:Nat}{o:Oper}{d:Option Nat}{gd:Option (Nat×Bool)}{op:EOp}{K:V->Heap->Prop}{Q:Exit->Act->World->Prop}{next:Act->World->Prop}(qm:ops[i]? = some o)
  (hm:AV P n ops o (.e d gd op)=true) (hs:Sat H g w) (he:EnvOk w g (trim (Item.e d gd op).looks e) a)
  (h1:gdO e gd) (h2:gdB e gd=true->op.eff P (gdB e gd) e H K) (h3:gdB e gd=false->K .unk H)
  (bU:∀x u w' H' g',K x H'->Stp H g w H' g' w'->RepV w' g' x u->next (a.put d u) w') (iF:∀v w' H' g',K (.pn v) H'->Stp H g w H' g' w'->Q (.panic [{ v:=v,recovered:=false }]) a w') :
  wpOp P ops Q i next a w:=by
 have ip:∀t∈(Item.e d gd op).looks,lk t (trim (Item.e d gd op).looks e)=lk t e:=λt ht=>by rw[Dx,if_pos ht]
 have c1:=Kk ip;have c2:=I5 ip;simp only[Item.gd]at c2;simp only[Item.opds]at c1;unfold wpOp;rw[qm];simp only;simp only[AV,Ja]at hm;obtain⟨⟨m1,m2⟩,m3⟩:=hm;obtain⟨bT,cD⟩:=CM m1;rw[Gd (n:=n) m2 he (c2.2.2 h1),c2.1];by_cases hg:gdB e gd=true
 ·rw[if_pos hg];left;refine F9 m3 hs he hg (EOp.congr c1 (h2 hg)) Q next (λx u w' H' g' hk aR dj=>?_) iF;rw[bT];exact bU x u w' H' g' hk aR dj
 ·rw[if_neg hg];rw[bT];exact bU .unk undef w H g (h3 Zai) (.refl hs) (.unk _)
structure Early (g0:G)(H:Heap)(g:G)(w:World)(a:Act)(x:Item):Prop where
 ok:∃(d:Nat) (cells:List C) (l b sz:Nat) (T:TypeId) (cs:Array Value),x=.e (some d) none (.alloc cells)/\g.io l=some (b,sz,0)/\g.own b=some (l,[])/\w.heap[b]? = some (.cells cs T (0,0))/\
  cs.size=cells.length/\(∀(k:Nat) (c:C) (v:Value),cells[k]? = some c->cs[k]? = some v->RepC w g c v)/\H l=.none/\g0.io l=none/\RepV w g (.c (.ptr l 0)) (a.tmps.getD d undef)
theorem Early.mono {g0:G}{x:Item}{H':Heap}{g':G}{w':World}{a':Act}(h:Early g0 H g w a x)(hs:Stp H g w H' g' w')(ha:∀d,x.dst=some d->a'.tmps.getD d undef=a.tmps.getD d undef):Early g0 H' g' w' a' x:=by
 obtain⟨d,cells,l,b,sz,T,cs,h1,h2,h3,h4,h5,h6,h7,h8,h9⟩:=h.ok;obtain⟨k1,k2⟩:=hs.fr l Zan h7;obtain⟨k3,k4⟩:=k2 b [] h3;refine⟨d,cells,l,b,sz,T,cs,h1,hs.le.io _ _ h2,k3,k4.trans h4,h5,λk c v p q=>(h6 k c v p q).mono hs.le,k1,h8,?_⟩;rw[ha d Zbf];exact h9.mono hs.le
theorem Early.ptr {g0:G}{x:Item}(h:Early g0 H g w a x):∃d l b sz,x.dst=some d/\g.io l=some (b,sz,0)/\b<w.heap.size/\H l=.none/\a.tmps.getD d undef=.pointer (some ⟨b,0,none⟩):=by
 obtain⟨d,cells,l,b,sz,T,cs,h1,h2,h3,h4,h5,h6,h7,h8,h9⟩:=h.ok;refine⟨d,l,b,sz,by rw[h1];rfl,h2,(Array.getElem?_eq_some_iff.1 h4).1,h7,?_⟩;have hr:=h9.aK;generalize a.tmps.getD d undef=vv at hr⊢
 cases hr with
 |ptr _ _ b' sz' q h=>
  rw[h2]at h;simp only[Jc,Jk]at h;obtain⟨rfl,rfl,rfl⟩:=h;rfl
theorem Early.other {g0:G}{x:Item}(h:Early g0 H g w a x){l:Nat}{o:Obj}{u:Value}(hr:RepV w g (.c (.ptr l 0)) u)(be:∀d,x.dst=some d->u≠a.tmps.getD d undef):Early g0 (H.set l o) g w a x:=by
 obtain⟨d,cells,l',b,sz,T,cs,h1,h2,h3,h4,h5,h6,h7,h8,h9⟩:=h.ok;have lI:l'≠l:=λe=>by
  subst e;have k:=h9.aK;have k2:=hr.aK;have hq:=be d Zbf;generalize a.tmps.getD d undef=vv at k hq
  cases k with
  |ptr _ _ b1 s1 q1 e1=>
   cases k2 with
   |ptr _ _ b2 s2 q2 e2=>
    rw[e1]at e2;simp only[Jc,Jk]at e2;obtain⟨rfl,rfl,rfl⟩:=e2;exact hq rfl
 exact⟨d,cells,l',b,sz,T,cs,h1,h2,h3,h4,h5,h6,by rw[Heap.af _ _ lI];exact h7,h8,h9⟩
theorem Qbhy {n:Nat}{ops:Array Oper}{i:Nat}{o:Oper}{x:Item}{g0:G}{Q:Exit->Act->World->Prop}{next:Act->World->Prop}(qm:ops[i]? = some o)(hm:AV P n ops o x=true)(hf:x.isFa=true)
  (hs:Sat H g w) (h0:∀l y,g0.io l=some y->g.io l=some y) (hn:a.tmps.size=n)
  (bU:∀u w' g',Stp H g w H g' w'->Early g0 H g' w' (a.put x.dst u) x->(∀x',Early g0 H g w a x'->∀d,x'.dst=some d->a.tmps.getD d undef≠u)->next (a.put x.dst u) w') :
  wpOp P ops Q i next a w:=by
 cases x with
 |e d gd op=>
  cases op with
  |alloc cells=>
   cases d with
   |none=>simp[Item.isFa]at hf
   |some d=>
    cases gd with
    |some=>simp[Item.isFa]at hf
    |none=>
     simp only[AV,Ja]at hm;obtain⟨⟨m1,m2⟩,m3⟩:=hm;obtain⟨bT,cD⟩:=CM m1;have wz:=cD d bT;simp only[mE]at m3;split at m3
     ·rename_i t bP
      obtain⟨i1,z,z1,z2,z3⟩:=GY m3;obtain⟨l,hl,hH⟩:=hs.newName;have hr:=GH (w:=w) (g:=g) z3;have aP:=Ef hs hl cells.length 0 (.cells z.cells t);have aR:=Da hs hl cells.length 0 (.cells z.cells t) .none (λg' hg=>trivial);rw[Heap.set_self _ _ _ hH]at aR;have wr:g0.io l=none:=by
       cases hx:g0.io l with
       |none=>rfl
       |some y=>rw[h0 l y hx]at hl;simp at hl
      have hw:Region.wanted o (yielded ops a.tmps)=true:=by
       unfold Region.wanted
       cases bQ:o.guard with
       |none=>rfl
       |some jb=>rw[bQ]at m2;simp[mG]at m2
      unfold wpOp;rw[qm];simp only;rw[if_pos hw];left;unfold Oper.wp;have cO:(execOp a.eval o).run P w=.ok (.value (.pointer (some ⟨w.heap.size,0,none⟩))) (w.alloc (.cells z.cells t)):=by
       simp[execOp,bP,Instr.alloc,Eb z1 z2,newVar,newRow]
      rw[cO,Oper.upon_value,bT];refine bU _ _ _ aR ⟨d,cells,l,w.heap.size,cells.length,t,z.cells,rfl,ZN,ZN,BX _ _,hr.1,λk c v p q=>(hr.2 k c v p q).mono aP,hH,wr,?_⟩ (λx' dv d' cY hh=>?_)
      ·have:(a.put (Item.e (some d) none (.alloc cells)).dst (.pointer (some ⟨w.heap.size,0,none⟩))).tmps.getD d undef=.pointer (some ⟨w.heap.size,0,none⟩):=by
        simp only[Item.dst,Act.put];rw[Je,Jx ZD];rfl
       rw[this];exact .c _ _ (.ptr l 0 w.heap.size cells.length 0 ZN)
      ·obtain⟨d1,l1,b1,sz1,p1,p2,p3,p4,p5⟩:=dv.ptr;rw[p1]at cY;obtain rfl:=Jbt cY;rw[p5]at hh;have:=congrArg (λv=>match v with
        |Value.pointer (some a)=>a.block
        |_=>0) hh
       simp only at this;omega
     ·simp at m3
  |_=>cases d <;> (try cases gd) <;> simp[Item.isFa]at hf
 |_=>simp[Item.isFa]at hf
theorem Qbmf {H0:Heap}{g0:G}{w0:World}{x:Item}(aR:Stp H0 g0 w0 H g w)(h:Early g0 H g w a x) :
  ∃d cells l,x=.e (some d) none (.alloc cells)/\H l=.none/\Stp H0 g0 w0 (H.set l (.st cells)) g w/\RepV w g (.c (.ptr l 0)) (a.tmps.getD d undef):=by
 obtain⟨d,cells,l,b,sz,T,cs,h1,h2,h3,h4,h5,h6,h7,h8,h9⟩:=h.ok;refine⟨d,cells,l,h1,h7,⟨aR.le,λm hm hn=>?_,⟨aR.sat.fresh,aR.sat.names,aR.sat.excl,aR.sat.named,λm=>?_⟩⟩,h9⟩
 ·have pf:m≠l:=λh=>by subst h;exact hm h8
  rw[Heap.af _ _ pf];exact aR.fr m hm hn
 ·by_cases pf:m=l
  ·subst pf;rw[Heap.aC];exact⟨b,sz,T,cs,h2,h3,h4,h5,λk c v p q=>.plain _ _ _ _ (h6 k c v p q)⟩
  ·have dt:=Heap.af H (.st cells) pf;rw[dt,<-dt];refine SatObj.keep aR.sat (.refl _ _) (λb q hb=>⟨hb,rfl⟩) dt λm' v left cur hc v' es hv=>?_;by_cases em:m'=l
   ·subst em;rw[Heap.aC]at hv;simp at hv
   ·rw[Heap.af _ _ em]at hv;exact .inl ⟨hv,λb q hb=>⟨hb,rfl⟩⟩
end Go.AE
