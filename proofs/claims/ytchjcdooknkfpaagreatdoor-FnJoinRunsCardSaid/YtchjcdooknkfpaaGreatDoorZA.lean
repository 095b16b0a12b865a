/- Part 1 of the proof: the engine, codes, walks and plain laws, each named where it stands. -/
import Derived.Laws.RangeAny
import Derived.MapKept
import Derived.WalkKit
open Nat (reduceEqDiff reduceAdd reduceLeDiff reduceLT)
set_option linter.unusedVariables false
set_option linter.unusedSimpArgs false
set_option maxRecDepth 4000
open Array renaming getElem?_eq_getElem->Jc,getD_eq_getD_getElem?->Je,getElem?_eq_none->Jj,getElem?_setIfInBounds_ne->Jt,getElem?_toList->Ju,getElem?_push->J6,getElem?_modify->J9,getElem?_setIfInBounds_self_of_lt->Jaa,ext'->Jae,getElem?_of_mem->Jaj,getElem?_range->Jak,getElem?_append_left->Jal,append_assoc->Jam,getElem?_map->Jan,size_eq_zero_iff->Jaw,mem_of_getElem?->Jax,toList_zipIdx->Ja7,foldl_toList->Ja9,getElem_mem->Jbc,mem_push->Jbn
open Bool renaming and_eq_true->Ja,false_eq_true->Jr,eq_iff_iff->Jbl
open ByteArray renaming ext->Jba
open ByteArray.mk renaming injEq->Jbr
open Function renaming comp_def->Jbd
open Iff renaming rfl->Jbe
open Int renaming toNat_natCast->Jap,natCast_nonneg->Jbb
open List renaming getElem?_eq_getElem->Jd,getElem?_eq_none->Jf,mem_of_getElem?->Jh,getElem?_append_left->Ji,getElem?_append_right->Jk,getElem?_map->Jn,getElem?_take->Jp,getElem?_drop->Js,length_eq_zero_iff->Jx,append_assoc->Jz,getD_eq_getElem?_getD->J1,getElem?_of_mem->J2,map_congr_left->J7,length_cons->J8,extract_eq_take_drop->Jab,getElem?_eq_some_iff->Jac,getElem?_range->Jad,length_append->Jaf,getElem?_zip_eq_some->Jao,getElem?_set->Jaq,eraseIdx_cons_succ->Jar,getElem?_replicate->Jas,mem_cons->Jat,all_eq_true->Jav,append_nil->Jay,getElem?_toArray->Jaz,length_nil->Ja0,mem_append_right->Ja1,nodup_cons->Ja2,length_eraseIdx->Ja4,mem_append_left->Ja5,drop_take->Ja6,ext_getElem?->Jbf,length_range->Jbg,mem_map->Jbi,not_mem_nil->Jbj,mem_range->Jbo,map_cons->Jbp,map_map->Jbq
open Nat renaming lt_or_ge->Jg,add_mul->Jl,mul_le_mul_right->Jm,le_refl->Jw,add_zero->J0,zero_add->J5,eq_zero_or_pos->Jag,one_mul->Jai,add_assoc->Jau,mul_comm->Ja3,mul_le_mul_left->Ja8,mod_lt->Jbh,mod_eq_of_lt->Jbk,mul_add_mod->Jbm
open Option renaming map_some->Jq,getD_some->Jv,getD_none->Jy,isSome_iff_exists->J3,map_none->J4,isSome_none->Jah
open Option.some renaming injEq->Jb
open Prod.mk renaming injEq->Jo
namespace Go.AE
variable{P g:Prop}{w':World}{t el:TypeId}{cs:Array Value}{u z:Value}{y x' y':Operand}{f tag:Nat}{agg:Bool}{ats:Array TypeId}{parts':Array (Nat×Operand)}{q:List Nat}{a2:Option Addr}{as:Array Operand}{ops:Array Oper}
theorem Rf0(h:P:=by repeat' first|exact rfl|constructor):P:=h
theorem Wa{G:Prop}(h:g)(e:g->G:=by intro h;refine Q1 (Qa ?_);simp only[go_sem];exact h):G:=e h
theorem Wb{G:Prop}(h:g)(e:g->G:=by intro h;refine Zb ?_;refine Za ?_;exact h):G:=e h
theorem Wc{G:Prop}(h:g)(e:g->G:=by intro h;refine Qh (Qe ?_);refine Qa ?_;exact h):G:=e h
theorem Wd{G:Prop}(h:g)(e:g->G:=by intro h;refine Za ?_;refine Za ?_;exact h):G:=e h
theorem We{G:Prop}(h:g)(e:g->G:=by intro h;refine Qh (Qe ?_);refine Za ?_;exact h):G:=e h
theorem Wf{G:Prop}(h:g)(e:g->G:=by intro h;refine Za ?_;refine Zk ?_;exact h):G:=e h
theorem Wg{G:Prop}(h:g)(e:g->G:=by intro h;refine Za ?_;refine Q1 (Qa ?_);exact h):G:=e h
theorem Wh{G:Prop}(h:g)(e:g->G:=by intro h;refine Wb ?_;refine Zf ?_;exact h):G:=e h
theorem Wi{G:Prop}(h:g)(e:g->G:=by intro h;refine Za ?_;refine Wa ?_;exact h):G:=e h
theorem Wj{G:Prop}(h:g)(e:g->G:=by intro h;refine Za ?_;refine Zd ?_;exact h):G:=e h
theorem Wk{G:Prop}(h:g)(e:g->G:=by intro h;refine Za ?_;refine Qa ?_;exact h):G:=e h
theorem Wl{G:Prop}(h:g)(e:g->G:=by intro h;refine Ze ?_;refine Zg ?_;exact h):G:=e h
theorem Wm{G:Prop}(h:g)(e:g->G:=by intro h;refine Ze ?_;refine Qh (Qe ?_);exact h):G:=e h
theorem Wn{G:Prop}(h:g)(e:g->G:=by intro h;refine Ze ?_;refine Qh (Qe (C7 ?_));exact h):G:=e h
theorem Wo{G:Prop}(h:g)(e:g->G:=by intro h;refine Ze ?_;refine Wc ?_;exact h):G:=e h
theorem Wp{G:Prop}(h:g)(e:g->G:=by intro h;refine Za ?_;refine Zn ?_;exact h):G:=e h
theorem Wq{G:Prop}(h:g)(e:g->G:=by intro h;refine Qh (Qe ?_);refine C7 ?_;exact h):G:=e h
theorem Wr{G:Prop}(h:g)(e:g->G:=by intro h;refine Qe (Qa ?_);simp only[go_sem];exact h):G:=e h
theorem Ws{G:Prop}(h:g)(e:g->G:=by intro h;refine Qh (Qe ?_);refine Qt ?_;exact h):G:=e h
theorem Wt{G a b:Prop}(h:a)(k:b)(e:a->b->G:=by intro h k;exact Qh (Qf rfl h k)):G:=e h k
theorem Wu{G a b:Prop}(h:a)(k:b)(e:a->b->G:=by intro h k;exact Qf rfl h k):G:=e h k
theorem Za{G:Prop}(h:g)(e:g->G:=by intro h;refine Qa ?_;simp only[go_sem];exact h):G:=e h
theorem Zb{G:Prop}(h:g)(e:g->G:=by intro h;refine Qw ?_;simp only[go_sem,X.next];exact h):G:=e h
theorem Zc{G:Prop}(h:g)(e:g->G:=by intro h;refine Qj ?_;(try simp only[go_sem]);exact h):G:=e h
theorem Zd{G:Prop}(h:g)(e:g->G:=by intro h;refine Ql ?_;simp only[go_sem,Q5,Cn,Ja,forall_eq,RS.op];exact h):G:=e h
theorem Ze{G:Prop}(h:g)(e:g->G:=by intro h;refine Qj ?_;simp only[go_sem];exact h):G:=e h
theorem Zf{G:Prop}(h:g)(e:g->G:=by intro h;refine Ql ?_;simp only[go_sem,Q5,Cn,Jb,forall_eq,RS.op];exact h):G:=e h
theorem Zg{G:Prop}(h:g)(e:g->G:=by intro h;refine Qt ?_;simp only[go_sem,X.next];exact h):G:=e h
theorem Zh{G:Prop}(h:g)(e:g->G:=by intro h;refine Qt ?_;simp only[go_sem];exact h):G:=e h
theorem Zi{G P0:Prop}(p0:P0)(h:g)(e:P0->g->G:=by intro p0 h;refine Ql ?_;simp only[go_sem,Q5,Cn,Ja,forall_eq,RS.op,p0];exact h):G:=e p0 h
theorem Zj{G P0:Prop}(p0:P0)(h:g)(e:P0->g->G:=by intro p0 h;refine Qa ?_;simp only[go_sem,p0];exact h):G:=e p0 h
theorem Zk{G:Prop}(h:g)(e:g->G:=by intro h;refine Ql ?_;simp only[go_sem];exact h):G:=e h
theorem Zl{G P0 P1:Prop}(p0:P0)(p1:P1)(h:g)(e:P0->P1->g->G:=by intro p0 p1 h;refine Qa ?_;simp only[go_sem,p0,p1];exact h):G:=e p0 p1 h
theorem Zm{G P0 P1:Prop}(p0:P0)(p1:P1)(h:g)(e:P0->P1->g->G:=by intro p0 p1 h;refine Ql ?_;simp only[go_sem,Q5,Cn,Ja,forall_eq,RS.op,p0,p1];exact h):G:=e p0 p1 h
theorem Zn{G:Prop}(h:g)(e:g->G:=by intro h;refine Ql ?_;simp only[go_sem,X.next];exact h):G:=e h
theorem Zo{G:Prop}(h:g)(e:g->G:=by intro h;refine Ql ?_;simp only[go_sem,X.next,Q5,Cn,Jb,forall_eq,RS.op];exact h):G:=e h
theorem Zp{G P0 P1 P2:Prop}(p0:P0)(p1:P1)(p2:P2)(h:g)(e:P0->P1->P2->g->G:=by intro p0 p1 p2 h;refine Qa ?_;simp only[go_sem,p0,p1,p2];exact h):G:=e p0 p1 p2 h
theorem Zq{G P0:Prop}(p0:P0)(h:g)(e:P0->g->G:=by intro p0 h;refine Ql ?_;simp only[go_sem,Q5,Cn,Jw,J7,RS.op,p0];exact h):G:=e p0 h
theorem Zr{G P0:Prop}(p0:P0)(h:g)(e:P0->g->G:=by intro p0 h;refine Ql ?_;simp only[go_sem,Q5,Cn,Jz,Jam,RS.op,p0];exact h):G:=e p0 h
theorem Zs{G P0:Prop}(p0:P0)(h:g)(e:P0->g->G:=by intro p0 h;refine Ql ?_;simp only[go_sem,Q5,Cn,Jb,forall_eq,RS.op,p0];exact h):G:=e p0 h
theorem Zt{G P0 P1:Prop}(p0:P0)(p1:P1)(h:g)(e:P0->P1->g->G:=by intro p0 p1 h;refine Qa ?_;simp only[go_sem,CR,Fd _ _ af,InsD.cells,p0,p1];exact h):G:=e p0 p1 h
theorem Zu{G:Prop}(h:g)(e:g->G:=by intro h;refine Cv ?_;simp only[go_sem];exact h):G:=e h
theorem Zv{G:Prop}(h:g)(e:g->G:=by intro h;refine Qa ?_;simp only[go_sem,x.aG];exact h):G:=e h
theorem Zw{G P0:Prop}(p0:P0)(h:g)(e:P0->g->G:=by intro p0 h;refine Qa ?_;simp only[go_sem,CodeD.cells,p0];exact h):G:=e p0 h
theorem Zx{G:Prop}(h:g)(e:g->G:=by intro h;refine Ql ?_;simp only[go_sem,X.next,Q5,Cn,Ja,forall_eq,RS.op];exact h):G:=e h
theorem Zy{G:Prop}(h:g)(e:g->G:=by intro h;refine Qa ?_;simp only[go_sem,InsD.cells];exact h):G:=e h
theorem Zz{G:Prop}(h:g)(e:g->G:=by intro h;refine Qw ?_;simp only[go_sem,Go.AE.X.next];exact h):G:=e h
theorem ZA(h:P:=by omega):P:=h
theorem ZB(h:P:=by simp[lk]):P:=h
theorem ZC(h:P:=by simp):P:=h
theorem ZD(h:P:=by simpa using hc):P:=h
theorem ZE(h:P:=by kernel_rfl):P:=h
theorem ZF(h:P:=by simp;omega):P:=h
theorem ZG(h:P:=by simpa using aC):P:=h
theorem ZH(h:P:=by simp at h):P:=h
theorem ZI(h:P:=by simpa using h):P:=h
theorem ZJ(h:P:=by simp[lk];rfl):P:=h
theorem ZK(h:P:=by simp[G.newObj]):P:=h
theorem ZL(h:P:=by simpa using kn):P:=h
theorem ZM(h:P:=by rw[hc a [b,c,d],hc b [c,d],hc c [d]];omega):P:=h
theorem ZN(h:P:=by decide):P:=h
theorem ZO(h:P:=by simp only[Jf,Jj,Jm,LIM];omega):P:=h
theorem ZP(h:P:=by rw[hc a [b,c],hc b [c]];omega):P:=h
theorem ZQ(h:P:=by rw[hc a [b,c],hc a [b],hc b [c]];omega):P:=h
theorem ZR(h:P:=by rw[hc a [b,c,d,e],hc b [c,d,e],hc c [d,e],hc d [e]];omega):P:=h
theorem ZS(h:P:=by simpa using hj):P:=h
theorem ZT(h:P:=by simpa using bv):P:=h
theorem ZU(h:P:=by rw[ak];omega):P:=h
theorem ZV(h:P:=by simpa using hi):P:=h
theorem ZW(h:P:=by simp only[LIM];omega):P:=h
theorem ZX(h:P:=by simpa using h1):P:=h
theorem ZY(h:P:=by simp only[FOp.val,hv];exact .c _ _ (.int _ _)):P:=h
theorem ZZ(h:P:=by rw[Qc];omega):P:=h
theorem Zaa(h:P:=by rw[hI.split];simp[hz]):P:=h
theorem Zab(h:P:=by simpa using h2):P:=h
theorem Zac(h:P:=by simpa using hb):P:=h
theorem Zad(h:P:=by rw[h2];simp):P:=h
theorem Zae(h:P:=by simp only[World.shape?];rw[show w.heap.size=w.drew.heap.size from rfl,EA]):P:=h
theorem Zaf(h:P:=by simpa using e2):P:=h
theorem Zag(h:P:=by simpa using hl):P:=h
theorem Zah(h:P:=by simp at hc;simp[CM,hc]):P:=h
theorem Zai(h:P:=by simpa using hr):P:=h
theorem Zaj(h:P:=by simp[Ja,af]):P:=h
theorem Zak(h:P:=by simpa using hg):P:=h
theorem Zal(h:P:=by rw[(DJ _ _ _).1,hn]):P:=h
theorem Zam(h:P:=by rw[(DJ _ _ _).2,hd]):P:=h
theorem Zan(h:P:=by rw[Q4];omega):P:=h
theorem Zao(h:P:=by simp[getObj,Sem.run,r3]):P:=h
theorem Zap(h:P:=by simp[Qb]):P:=h
theorem Zaq(h:P:=by simp only[EOp.eff,D4]):P:=h
theorem Zar(h:P:=by rw[<-hx];simp[Jd,cq,OIns.row,OInts.c]):P:=h
theorem Zas(h:P:=by simp[lk];exact of_decide_eq_true hc):P:=h
theorem Zat(h:P:=by simp[G.handOver]):P:=h
theorem Zau(h:P:=by rw[ho];rfl):P:=h
theorem Zav(h:P:=by rw[hH];simp):P:=h
theorem Zaw(h:P:=by rw[<-hd];rfl):P:=h
theorem Zax(h:P:=by rw[stI];simp[h]):P:=h
theorem Zay(h:P:=by simp[hp]):P:=h
theorem Zaz(h:P:=by rw[hI.lsz];exact (Jn.1 ho.op).1):P:=h
theorem ZaA(h:P:=by simp only[Qc,LIM,Jj,Jm];omega):P:=h
theorem ZaB(h:P:=by simp only[Jd,LIM,Jl,Ji];omega):P:=h
theorem ZaC(h:P:=by rw[Jg];simpa using cq):P:=h
theorem ZaD(h:P:=by rw[iC.1];exact FrzKL.st (.cons fU oV .nil)):P:=h
theorem ZaE(h:P:=by rw[<-hy,Jc]):P:=h
theorem ZaF(h:P:=by simpa using hz):P:=h
theorem ZaG(h:P:=by simp[k1]):P:=h
theorem ZaH(h:P:=by simpa using ha):P:=h
theorem ZaI(h:P:=by simpa using fw):P:=h
theorem ZaJ(h:P:=by rw[ho];exact OBlk.inM (Jj _ (o.aM af))):P:=h
theorem ZaK(h:P:=by rw[hF.injDst (fK _ dt) jD f0 ca dj h]):P:=h
theorem ZaL(h:P:=by simp only[Js,decide_eq_true_eq];omega):P:=h
theorem ZaM(h:P:=by subst h;exact oP (hs.none_of_io dq)):P:=h
theorem ZaN(h:P:=by rw[Opd.aE (h x hx),Opd.aU (h x hx)]):P:=h
theorem ZaO(h:P:=by rw[<-C3 hb,skT,Jd,Jh vS];exact Jb _):P:=h
theorem ZaP(h:P:=by simp[OIns.lg,OInts.lg]):P:=h
theorem ZaQ(h:P:=by rw[s.c];exact bH):P:=h
theorem ZaR(h:P:=by rw[kn.chg 0 be (by simp)];exact cW):P:=h
theorem ZaS(h:P:=by simp[hn]):P:=h
theorem ZaT(h:P:=by rw[hI.size];exact Pf ho.item t ht):P:=h
theorem ZaU(h:P:=by simp only[Q6,Qc,LIM,Jq,Jr];omega):P:=h
theorem ZaV(h:P:=by rw[Eg];exact jc):P:=h
theorem ZaW(h:P:=by simpa using e1):P:=h
theorem ZaX(h:P:=by simpa using hm):P:=h
theorem ZaY(h:P:=by simpa using hx):P:=h
theorem ZaZ(h:P:=by simpa using bN):P:=h
theorem Za0(h:P:=by rw[Opd.aU (h x hx)]):P:=h
theorem Za1(h:P:=by rw[<-hx];exact Jb cq):P:=h
theorem Za2(h:P:=by rw[<-hp];exact Jc af):P:=h
theorem Za3(h:P:=by simp[hl]):P:=h
theorem Za4(h:P:=by simp[hx]):P:=h
theorem Za5(h:P:=by simp[hz]):P:=h
theorem Za6(h:P:=by rw[hI.split];simp):P:=h
theorem Za7(h:P:=by rw[hk.n];exact af):P:=h
theorem Za8(h:P:=by rw[<-h.n];exact hr):P:=h
theorem Za9(h:P:=by rw[Jl];omega):P:=h
theorem Zba(h:P:=by rw[x.aG];rfl):P:=h
theorem Zbb(h:P:=by rw[<-hX];simp):P:=h
theorem Zbc(h:P:=by simp[C4,h.c]):P:=h
theorem Zbd(h:P:=by simp[h]):P:=h
theorem Zbe(h:P:=by simp only[DD,hM]):P:=h
theorem Zbf(h:P:=by simp only[CI,hM]):P:=h
theorem Zbg(h:P:=by rw[<-eH,Jc,cz,hN]):P:=h
theorem Zbh(h:P:=by rw[h.n];exact h2):P:=h
theorem Zbi(h:P:=by rw[<-e1];exact hx):P:=h
theorem Zbj(h:P:=by simp[Jd,bu]):P:=h
theorem Zbk(h:P:=by rw[hz];simp):P:=h
theorem Zbl(h:P:=by rw[<-gU];rfl):P:=h
theorem Zbm(h:P:=by rw[Jc];exact af):P:=h
theorem Zbn(h:P:=by simp[h1]):P:=h
theorem Zbo(h:P:=by simp[Qm]):P:=h
theorem Zbp(h:P:=by simp[DM]):P:=h
theorem Zbq(h:P:=by rw[h1];rfl):P:=h
theorem Zbr(h:P:=by simp at hc):P:=h
theorem Zbs(h:P:=by rw[hH];rfl):P:=h
theorem Zbt(h:P:=by simp[ih.1]):P:=h
variable{P:Program}
def LIM:Nat:=549755813888
inductive C where
 |int (k:IntKind) (n:Int)
 |bool (b:Bool)
 |str (s:List UInt8)
 |sl (full:Bool) (sz:Nat) (rows:List (List C))
 |pp (cells:List C)
 |ep (s:C) (sz i k:Nat)
 |pnil
 |ptr (l k:Nat)
 |ah (l sz st n:Nat)
 |mp (l:Nat)
 |mnil
 |slb (n:Nat)
 |stb (n:Nat)
 |cm (agg:Bool) (ks:List C) (rows:List (List C))
 |fn (f:Nat) (caps:List C)
 |fnil
 |itr (l:Nat)
 |ow (sz:Nat) (rows:List (List C))
 |unk
 deriving Inhabited
inductive V where
 |c (x:C)
 |ag (cs:List C)
 |tup (vs:List V)
 |gd (p:Bool) (v:V)
 |unk
 |pn (v:Value)
 |asl (l k n:Nat)
 deriving Inhabited
inductive Obj where
 |none
 |st (cells:List C)
 |vec (sz:Nat) (rows:List (List C))
 |map (ver:Nat) (es:List (C×V))
 |iter (m:Option (Nat×Nat)) (left:List (C×V)) (cur:Option (C×V))
 |gl (b:Nat) (cells:List C)
 |sit (s:List UInt8) (q:Nat)
abbrev Heap:=Nat->Obj
def Heap.set (H:Heap)(l:Nat)(o:Obj):Heap:=λx=>if x=l then o else H x
theorem Heap.aF (H:Heap)(l:Nat)(o:Obj):H.set l o l=o:=by simp[Heap.set]
theorem Heap.aj (H:Heap){l x:Nat}(o:Obj)(h:x≠l):H.set l o x=H x:=by simp[Heap.set,h]
theorem Heap.set_self (H:Heap)(l:Nat)(o:Obj)(h:H l=o):H.set l o=H:=by
 funext x;simp only[Heap.set];split
 ·subst_vars;rfl
 ·rfl
structure G where
 per:Nat->Bool
 own:Nat->Option (Nat×List Nat)
 io:Nat->Option (Nat×Nat×Nat)
def C.aQ:C->Nat
 |.sl _ sz _=>sz
 |.ah _ sz _ _=>sz
 |_=>0
inductive RepC (w:World)(g:G):C->Value->Prop
 |int (k n):RepC w g (.int k n) (.int k n)
 |bool (b):RepC w g (.bool b) (.bool b)
 |str (s:List UInt8) (h:s.length<=LIM):RepC w g (.str s) (.string ⟨s.toArray⟩)
 |ce (fl sz a):RepC w g (.sl fl sz []) (.slice a 0 0)
 |sl (fl:Bool) (sz:Nat) (rows:List (List C)) (b off cap:Nat) (val:Nat->Nat->Value) (hl:rows.length<=LIM) (hf:fl=true->cap=rows.length) (fE:rows.length<=cap)
   (hp:g.per b=true) (hr:∀(i:Nat) (row:List C),rows[i]? = some row->row.length=sz)
   (hc:∀(i:Nat) (row:List C) (j:Nat) (c:C),rows[i]? = some row->row[j]? = some c->w.cell? ⟨b,off+i * sz+j,none⟩=some (val i j))
   (hv:∀(i:Nat) (row:List C) (j:Nat) (c:C),rows[i]? = some row->row[j]? = some c->RepC w g c (val i j)) :
   RepC w g (.sl fl sz rows) (.slice (some ⟨b,off,none⟩) rows.length cap)
 |pp (cells:List C) (b off:Nat) (val:Nat->Value) (hp:g.per b=true)
   (hc:∀(j:Nat) (c:C),cells[j]? = some c->w.cell? ⟨b,off+j,none⟩=some (val j))
   (hv:∀(j:Nat) (c:C),cells[j]? = some c->RepC w g c (val j)) :
   RepC w g (.pp cells) (.pointer (some ⟨b,off,none⟩))
 |ep (s sz i k b off n cap) (hs:RepC w g s (.slice (some ⟨b,off,none⟩) n cap)) (hz:s.aQ=sz) (hi:i<n) :
   RepC w g (.ep s sz i k) (.pointer (some ⟨b,off+i * sz+k,none⟩))
 |pnil:RepC w g .pnil (.pointer none)
 |ptr (l k b sz base) (h:g.io l=some (b,sz,base)):RepC w g (.ptr l k) (.pointer (some ⟨b,base+k,none⟩))
 |bO (l sz st a):RepC w g (.ah l sz st 0) (.slice a 0 0)
 |ah (l sz st n cap b base T m) (h:g.io l=some (b,sz,base)) (hn:n<=cap) (hs:w.shape? b=some (T,m))
   (hm:base+(st+cap) * sz<=m) :
   RepC w g (.ah l sz st n) (.slice (some ⟨b,base+st * sz,none⟩) n cap)
 |mp (l b) (h:g.io l=some (b,0,0)):RepC w g (.mp l) (.map (some b))
 |mnil:RepC w g .mnil (.map none)
 |slb (n a cap) (h:n<2 ^ 63):RepC w g (.slb n) (.slice a n cap)
 |stb (s:ByteArray) (h:s.size<2 ^ 63):RepC w g (.stb s.size) (.string s)
 |cm (agg:Bool) (ks:List C) (rows:List (List C)) (b:Nat) (ms:Array MapEntry) (clock:Nat) (val:Nat->Nat->Value) (hp:g.per b=true) (hb:w.heap[b]? = some (.map ms clock))
   (br:ms.size=ks.length) (cF:rows.length=ks.length) (hl:ks.length<=LIM)
   (hd:∀(i j:Nat) (m m':MapEntry),ms[i]? = some m->ms[j]? = some m'->(m.born=m'.born\/m.key=m'.key)->i=j)
   (hm:∀(i:Nat) (row:List C) (m:MapEntry),rows[i]? = some row->ms[i]? = some m->m.val=(if agg then .agg ((List.range row.length).map (val i)).toArray else val i 0)/\(agg=false->row.length=1))
   (hk:∀(i:Nat) (k:C) (m:MapEntry),ks[i]? = some k->ms[i]? = some m->RepC w g k m.key)
   (hv:∀(i:Nat) (row:List C) (j:Nat) (c:C),rows[i]? = some row->row[j]? = some c->RepC w g c (val i j)) :
   RepC w g (.cm agg ks rows) (.map (some b))
 |fn (f:Nat) (caps:List C) (vs:List Value) (hl:vs.length=caps.length)
   (hv:∀(j:Nat) (c:C) (u:Value),caps[j]? = some c->vs[j]? = some u->RepC w g c u) :
   RepC w g (.fn f caps) (.func (.func f) #[] vs.toArray)
 |fnil:RepC w g .fnil .nilFunc
 |itr (l b) (h:g.io l=some (b,0,0)):RepC w g (.itr l) (.pointer (some ⟨b,0,none⟩))
 |unk (v) (h:v.oneCell'=true):RepC w g .unk v
inductive RepV (w:World)(g:G):V->Value->Prop
 |c (x v) (h:RepC w g x v):RepV w g (.c x) v
 |ag (cs:List C) (vs:List Value) (hl:vs.length=cs.length) (h:∀(j:Nat) (c:C) (u:Value),cs[j]? = some c->vs[j]? = some u->RepC w g c u) :
   RepV w g (.ag cs) (.agg vs.toArray)
 |tup (xs:List V) (vs:List Value) (hl:vs.length=xs.length) (h:∀(j:Nat) (x:V) (u:Value),xs[j]? = some x->vs[j]? = some u->RepV w g x u) :
   RepV w g (.tup xs) (.tuple vs.toArray)
 |gd (p:Bool) (x v) (h:p=true->RepV w g x v) (h':p=false->v=undef):RepV w g (.gd p x) v
 |unk (v):RepV w g .unk v
 |asl (l k n b sz) (h:g.io l=some (b,sz,0)):RepV w g (.asl l k n) (.slice (some ⟨b,k,none⟩) n n)
inductive RepO (w:World)(g:G):Nat->List Nat->C->Value->Prop
 |plain (l p c v) (h:RepC w g c v):RepO w g l p c v
 |ownil (l p sz a):RepO w g l p (.ow sz []) (.slice a 0 0)
 |ow (l:Nat) (p:List Nat) (sz:Nat) (rows:List (List C)) (b off cap:Nat) (T:TypeId) (cs:Array Value) (val:Nat->Nat->Value) (hl:rows.length<=LIM) (fE:rows.length<=cap)
   (jZ:g.own b=some (l,p)) (hb:w.heap[b]? = some (.cells cs T (0,0))) (br:off+cap * sz<=cs.size)
   (hr:∀(i:Nat) (row:List C),rows[i]? = some row->row.length=sz)
   (hc:∀(i:Nat) (row:List C) (j:Nat) (c:C),rows[i]? = some row->row[j]? = some c->cs[off+i * sz+j]? = some (val i j))
   (hv:∀(i:Nat) (row:List C) (j:Nat) (c:C),rows[i]? = some row->row[j]? = some c->RepO w g l (p++[i,j]) c (val i j)) :
   RepO w g l p (.ow sz rows) (.slice (some ⟨b,off,none⟩) rows.length cap)
structure Le (g:G)(w:World)(g':G)(w':World):Prop where
 per:∀b,g.per b=true->g'.per b=true/\w'.heap[b]? = w.heap[b]?
 io:∀l x,g.io l=some x->g'.io l=some x
 size:w.heap.size<=w'.heap.size
 shp:∀b T n,w.shape? b=some (T,n)->w'.shape? b=some (T,n)
 tape:w'.tape=w.tape
 os:w'.os=w.os
 output:w'.output=w.output
theorem Le.refl (g:G)(w:World):Le g w g w:=⟨λ_ h=>⟨h,rfl⟩,λ_ _ h=>h,Jw _,λ_ _ _ h=>h,rfl,rfl,rfl⟩
theorem Le.trans {g g' g'':G}{w w' w'':World}(h:Le g w g' w')(k:Le g' w' g'' w''):Le g w g'' w'':=
 ⟨λb hb=>⟨(k.per b (h.per b hb).1).1,((k.per b (h.per b hb).1).2).trans (h.per b hb).2⟩,λl x hx=>k.io l x (h.io l x hx),
  Nat.le_trans h.size k.size,λb T n hn=>k.shp b T n (h.shp b T n hn),k.tape.trans h.tape,k.os.trans h.os,k.output.trans h.output⟩
theorem SB {w:World}{a:Addr}(h:w'.heap[a.block]? = w.heap[a.block]?):w'.cell? a=w.cell? a:=by
 simp only[World.cell?,h]
theorem RepC.mono {g g':G}{w:World}(aS:Le g w g' w'){c:C}{v:Value}(h:RepC w g c v):RepC w' g' c v:=by
 induction h with
 |int k n=>exact .int k n
 |bool b=>exact .bool b
 |str s h=>exact .str s h
 |ce fl sz a=>exact .ce fl sz a
 |sl fl sz rows b off cap val hl hf fE hp hr hc hv ih=>
  refine .sl fl sz rows b off cap val hl hf fE (aS.per b hp).1 hr (λi row j c h1 h2=>?_) ih;rw[SB (w:=w) (aS.per b hp).2];exact hc i row j c h1 h2
 |pp cells b off val hp hc hv ih=>
  refine .pp cells b off val (aS.per b hp).1 (λj c h1=>?_) ih;rw[SB (w:=w) (aS.per b hp).2];exact hc j c h1
 |ep s sz i k b off n cap hs hz hi ih=>exact .ep s sz i k b off n cap ih hz hi
 |pnil=>exact .pnil
 |ptr l k b sz base h=>exact .ptr l k b sz base (aS.io _ _ h)
 |bO l sz st a=>exact .bO l sz st a
 |ah l sz st n cap b base T m h hn hs hm=>exact .ah l sz st n cap b base T m (aS.io _ _ h) hn (aS.shp _ _ _ hs) hm
 |mp l b h=>exact .mp l b (aS.io _ _ h)
 |mnil=>exact .mnil
 |slb n a cap h=>exact .slb n a cap h
 |stb s h=>exact .stb s h
 |cm agg ks rows b ms clock val hp hb br cF hl hd hm hk hv ihk ihv=>exact .cm agg ks rows b ms clock val (aS.per b hp).1 ((aS.per b hp).2.trans hb) br cF hl hd hm ihk ihv
 |fn f caps vs hl hv ih=>exact .fn f caps vs hl ih
 |fnil=>exact .fnil
 |itr l b h=>exact .itr l b (aS.io _ _ h)
 |unk v h=>exact .unk v h
theorem RepV.mono {g g':G}{w w':World}(aS:Le g w g' w'){x:V}{v:Value}(h:RepV w g x v):RepV w' g' x v:=by
 induction h with
 |c x v h=>exact .c x v (h.mono aS)
 |ag cs vs hl h=>exact .ag cs vs hl λj c u h1 h2=>(h j c u h1 h2).mono aS
 |tup xs vs hl h ih=>exact .tup xs vs hl ih
 |gd p x v h h' ih=>exact .gd p x v ih h'
 |asl l k n b sz h=>exact .asl l k n b sz (aS.io _ _ h)
 |unk v=>exact .unk v
theorem RepC.one {w:World}{g:G}{c:C}{v:Value}(h:RepC w g c v):v.oneCell'=true:=by
 cases h <;> first|rfl|assumption
theorem RepO.move {g g':G}{w:World}(aS:Le g w g' w'){l:Nat}{p:List Nat}{c:C}{v:Value}(h:RepO w g l p c v) :
  ∀{l':Nat} {p':List Nat},(∀q b,g.own b=some (l,p++q)->g'.own b=some (l',p'++q)/\w'.heap[b]? = w.heap[b]?)->
  RepO w' g' l' p' c v:=by
 induction h with
 |plain p c v h=>exact λ_=>.plain _ _ c v (h.mono aS)
 |ownil p sz a=>exact λ_=>.ownil _ _ sz a
 |ow p sz rows b off cap T cs val hl fE jZ hb br hr hc hv ih=>
  intro l' p' hk;have h0:=hk [] b (by simpa using jZ);refine .ow l' p' sz rows b off cap T cs val hl fE (by simpa using h0.1) (h0.2.trans hb) br hr hc λi row j c h1 h2=>?_;refine ih i row j c h1 h2 λq b hq=>?_;have:=hk ([i,j]++q) b (by rw[<-Jz];exact hq);rw[Jz];exact this
theorem RepO.plain_of {w:World}{g:G}{l:Nat}{p:List Nat}{c:C}{v:Value}(h:RepO w g l p c v)(hn:∀sz rows,c≠.ow sz rows):RepC w g c v:=by
 cases h with
 |plain _ _ _ h=>exact h
 |ownil=>exact absurd rfl (hn _ _)
 |ow=>exact absurd rfl (hn _ _)
def RepE (w:World)(g:G)(e:C×V)(m:MapEntry):Prop:=RepC w g e.1 m.key/\RepV w g e.2 m.val
def SatVec (g:G)(w:World)(l sz:Nat)(rows:List (List C)):Prop:=
 ∃(b base:Nat) (T:TypeId) (cs:Array Value) (val:Nat->Nat->Value),g.io l=some (b,sz,base)/\g.own b=some (l,[])/\
   w.heap[b]? = some (.cells cs T (0,0))/\base+rows.length * sz<=cs.size/\rows.length<=LIM/\
   (∀(i:Nat) (row:List C),rows[i]? = some row->row.length=sz)/\
   (∀(i:Nat) (row:List C) (j:Nat) (c:C),rows[i]? = some row->row[j]? = some c->cs[base+i * sz+j]? = some (val i j))/\
   ∀(i:Nat) (row:List C) (j:Nat) (c:C),rows[i]? = some row->row[j]? = some c->RepO w g l [i,j] c (val i j)
theorem SatVec.of {g:G}{w:World}{l sz:Nat}{rows:List (List C)}{b base:Nat}(h:(rows=[]/\∃x,g.io l=some x/\x.2.1≠sz)\/SatVec g w l sz rows)(bK:g.io l=some (b,sz,base)):SatVec g w l sz rows:=by
 rcases h with ⟨_,x,h1,h2⟩|h
 ·rw[bK]at h1;simp at h1;subst h1;exact absurd rfl h2
 ·exact h
def SatObj (H:Heap)(g:G)(w:World)(l:Nat):Obj->Prop
 |.none=>True
 |.st cells=>∃(b sz:Nat) (T:TypeId) (cs:Array Value),g.io l=some (b,sz,0)/\g.own b=some (l,[])/\w.heap[b]? = some (.cells cs T (0,0))/\
   cs.size=cells.length/\∀(k:Nat) (c:C) (v:Value),cells[k]? = some c->cs[k]? = some v->RepO w g l [k] c v
 |.vec sz rows=>(rows=[]/\∃x,g.io l=some x/\x.2.1≠sz)\/SatVec g w l sz rows
 |.map _ es=>∃(b:Nat) (ms:Array MapEntry) (clock:Nat),g.io l=some (b,0,0)/\g.own b=some (l,[])/\w.heap[b]? = some (.map ms clock)/\
   ms.size=es.length/\es.length<=LIM/\(∀(i:Nat) (e:C×V) (m:MapEntry),es[i]? = some e->ms[i]? = some m->RepE w g e m)/\
   (∀(i:Nat) (m:MapEntry),ms[i]? = some m->m.born<clock)/\(∀(i j:Nat) (m m':MapEntry),ms[i]? = some m->ms[j]? = some m'->(m.born=m'.born\/m.key=m'.key)->i=j)
 |.iter none left cur=>∃(b since:Nat) (seen:Array Nat) (last:Nat),g.io l=some (b,0,0)/\g.own b=some (l,[])/\
   w.heap[b]? = some (.mapIter none since seen last)/\left=[]
 |.iter (some (m,ver)) left cur=>∃(b mb since:Nat) (seen:Array Nat),g.io l=some (b,0,0)/\g.own b=some (l,[])/\
   w.heap[b]? = some (.mapIter (some mb) since seen since)/\g.io m=some (mb,0,0)/\
   ∀v es,H m=.map v es->ver<=v/\(v=ver->∃(ms:Array MapEntry),w.heap[mb]? = some (.map ms since)/\ms.size=es.length/\
    es.Nodup/\left.Nodup/\(∀e,e∈left↔∃i:Nat,∃m:MapEntry,es[i]? = some e/\ms[i]? = some m/\m.born∉seen)/\
    (∀e,cur=some e->∃i:Nat,∃m:MapEntry,es[i]? = some e/\ms[i]? = some m/\seen.back? = some m.born))
 |.sit s q=>∃b:Nat,g.io l=some (b,0,0)/\g.own b=some (l,[])/\w.heap[b]? = some (.stringIter ⟨s.toArray⟩ q)/\s.length<=LIM
 |.gl b cells=>∃(sz:Nat) (val:Nat->Value),g.io l=some (b,sz,0)/\g.per b=true/\(∀(j:Nat) (c:C),cells[j]? = some c->w.cell? ⟨b,j,none⟩=some (val j))/\
   ∀(j:Nat) (c:C),cells[j]? = some c->RepC w g c (val j)
structure Sat (H:Heap)(g:G)(w:World):Prop where
 fresh:∀b,w.heap.size<=b->g.per b=false/\g.own b=none
 names:∃N,∀l,N<=l->g.io l=none
 excl:∀b x,g.own b=some x->g.per b=false
 named:∀b l p,g.own b=some (l,p)->g.io l≠none
 objs:∀l,SatObj H g w l (H l)
def Fr (H:Heap)(g:G)(w:World)(H':Heap)(g':G)(w':World):Prop:=
 ∀l,g.io l≠none->H l=.none->H' l=.none/\∀b p,g.own b=some (l,p)->g'.own b=some (l,p)/\w'.heap[b]? = w.heap[b]?
theorem Fr.refl (H:Heap)(g:G)(w:World):Fr H g w H g w:=λ_ _ h=>⟨h,λ_ _ h=>⟨h,rfl⟩⟩
theorem Fr.trans {H H' H'':Heap}{g g' g'':G}{w w' w'':World}(aS:Le g w g' w')(h:Fr H g w H' g' w')(k:Fr H' g' w' H'' g'' w''):Fr H g w H'' g'' w'':=by
 intro l hl hn;obtain⟨h1,h2⟩:=h l hl hn;have dq:g'.io l≠none:=by
  cases hx:g.io l with
  |none=>exact absurd hx hl
  |some x=>rw[aS.io l x hx];simp
 obtain⟨k1,k2⟩:=k l dq h1;refine⟨k1,λb p hb=>?_⟩;obtain⟨a1,a2⟩:=h2 b p hb;obtain⟨b1,b2⟩:=k2 b p a1;exact⟨b1,b2.trans a2⟩
structure Stp (H:Heap)(g:G)(w:World)(H':Heap)(g':G)(w':World):Prop where
 le:Le g w g' w'
 fr:Fr H g w H' g' w'
 sat:Sat H' g' w'
theorem Stp.refl {H:Heap}{g:G}{w:World}(h:Sat H g w):Stp H g w H g w:=⟨.refl _ _,.refl _ _ _,h⟩
theorem Stp.trans {H H' H'':Heap}{g g' g'':G}{w w' w'':World}(h:Stp H g w H' g' w')(k:Stp H' g' w' H'' g'' w''):Stp H g w H'' g'' w'':=
 ⟨h.le.trans k.le,h.fr.trans h.le k.fr,k.sat⟩
theorem Sat.io_some {H:Heap}{g:G}{w:World}(h:Sat H g w){l:Nat}(hl:H l≠.none):g.io l≠none:=by
 have:=h.objs l
 cases ho:H l with
 |none=>exact absurd ho hl
 |st cells=>rw[ho]at this;obtain⟨b,sz,T,cs,h1,_⟩:=this;rw[h1];simp
 |vec sz rows=>
  rw[ho]at this;rcases this with ⟨_,x,h1,_⟩|⟨b,sz,T,cs,v,h1,_⟩
  ·rw[h1];simp
  ·rw[h1];simp
 |map v es=>rw[ho]at this;obtain⟨b,ms,clock,h1,_⟩:=this;rw[h1];simp
 |gl b cells=>rw[ho]at this;obtain⟨sz,val,h1,_⟩:=this;rw[h1];simp
 |sit s q=>rw[ho]at this;obtain⟨b,h1,_⟩:=this;rw[h1];simp
 |iter m left cur=>
  rw[ho]at this
  cases m with
  |none=>obtain⟨b,s,se,la,h1,_⟩:=this;rw[h1];simp
  |some m=>obtain⟨m,v⟩:=m;obtain⟨b,mb,s,se,h1,_⟩:=this;rw[h1];simp
theorem Sat.none_of_io {H:Heap}{g:G}{w:World}(h:Sat H g w){l:Nat}(hl:g.io l=none):H l=.none:=by
 cases ho:H l with
 |none=>rfl
 |_=>exact absurd hl (h.io_some (by rw[ho];simp))
abbrev Env:=List (Nat×V)
def lk (t:Nat):Env->V
 |[]=>.unk
 |(s,v)::e=>if t=s then v else lk t e
inductive Opd where
 |t (n:Nat)
 |k (v:V)
 deriving Inhabited
def V.bare:V->V
 |.gd _ v=>v
 |v=>v
def V.fine (p:Bool):V->Prop
 |.gd q _=>p=true->q=true
 |_=>True
def Opd.raw (e:Env):Opd->V
 |.t n=>lk n e
 |.k v=>v
def Opd.v (e:Env)(o:Opd):V:=(o.raw e).bare
def Opd.fine (p:Bool)(e:Env)(o:Opd):Prop:=(o.raw e).fine p
def C.ai:C->Bool
 |.ow _ _=>true
 |_=>false
def rowsOf (H:Heap):C->List (List C)
 |.sl _ _ rows=>rows
 |.ah l _ st n=>match H l with
  |.vec _ rows=>(rows.drop st).take n
  |_=>[]
 |_=>[]
def aZ (H:Heap):C->Prop
 |.sl _ _ _=>True
 |.ah l sz st n=>match H l with
  |.vec z rows=>z=sz/\st+n<=rows.length
  |_=>False
 |_=>False
def ay:C->Nat
 |.sl _ _ rows=>rows.length
 |.ah _ _ _ n=>n
 |_=>0
def lenX:C->Nat
 |.slb n=>n
 |c=>ay c
def Oz:C->Prop
 |.slb _=>True
 |_=>False
def inR (k:IntKind)(n:Int):Prop:=k.min<=n/\n<=k.max
def EJ (op:BinOp)(k:IntKind)(a b:Int):Int:=
 match op with
 |.and=>k.wrap (BitVec.ofInt k.bits a&&& BitVec.ofInt k.bits b).toNat
 |.or=>k.wrap (BitVec.ofInt k.bits a ||| BitVec.ofInt k.bits b).toNat
 |_=>k.wrap (BitVec.ofInt k.bits a ^^^ BitVec.ofInt k.bits b).toNat
def C.isPtr:C->Bool
 |.pp _|.ep _ _ _ _|.ptr _ _=>true
 |_=>false
def binC:BinOp->C->C->C
 |.add,.int k a,.int _ b=>.int k (a+b)
 |.sub,.int k a,.int _ b=>.int k (a-b)
 |.mul,.int k a,.int _ b=>.int k (a * b)
 |.quo,.int k a,.int _ b=>.int k (a.tdiv b)
 |.rem,.int k a,.int _ b=>.int k (a.tmod b)
 |.and,.int k a,.int _ b=>.int k (EJ .and k a b)
 |.or,.int k a,.int _ b=>.int k (EJ .or k a b)
 |.xor,.int k a,.int _ b=>.int k (EJ .xor k a b)
 |.eql,.int _ a,.int _ b=>.bool (decide (a=b))
 |.neq,.int _ a,.int _ b=>.bool (!decide (a=b))
 |.lss,.int _ a,.int _ b=>.bool (decide (a<b))
 |.leq,.int _ a,.int _ b=>.bool (decide (a<=b))
 |.gtr,.int _ a,.int _ b=>.bool (decide (b<a))
 |.geq,.int _ a,.int _ b=>.bool (decide (b<=a))
 |.eql,.bool a,.bool b=>.bool (a == b)
 |.neq,.bool a,.bool b=>.bool (!(a == b))
 |.add,.str a,.str b=>.str (a++b)
 |.eql,.str a,.str b=>.bool (decide (a=b))
 |.neq,.str a,.str b=>.bool (!decide (a=b))
 |.eql,x,.pnil=>.bool (!x.isPtr)
 |.neq,x,.pnil=>.bool x.isPtr
 |_,_,_=>.unk
def binO (tag:Nat):BinOp->C->C->Prop
 |.add,.int k a,.int k' b=>k=k'/\inR k (a+b)
 |.sub,.int k a,.int k' b=>k=k'/\inR k (a-b)
 |.mul,.int k a,.int k' b=>k=k'/\inR k (a * b)
 |.quo,.int k a,.int k' b=>k=k'/\b≠0/\inR k (a.tdiv b)
 |.rem,.int k a,.int k' b=>k=k'/\b≠0
 |.and,.int k _,.int k' _=>k=k'
 |.or,.int k _,.int k' _=>k=k'
 |.xor,.int k _,.int k' _=>k=k'
 |.eql,.int k _,.int k' _=>k=k'
 |.neq,.int k _,.int k' _=>k=k'
 |.lss,.int k _,.int k' _=>k=k'
 |.leq,.int k _,.int k' _=>k=k'
 |.gtr,.int k _,.int k' _=>k=k'
 |.geq,.int k _,.int k' _=>k=k'
 |.eql,.bool _,.bool _=>tag=1
 |.neq,.bool _,.bool _=>tag=1
 |.add,.str a,.str b=>a.length+b.length<=LIM
 |.eql,.str _,.str _=>True
 |.neq,.str _,.str _=>True
 |.eql,x,.pnil=>tag=2/\(x.isPtr=true\/x=.pnil)
 |.neq,x,.pnil=>tag=2/\(x.isPtr=true\/x=.pnil)
 |_,_,_=>False
def Et (H:Heap):C->List C
 |.pp cells=>cells
 |.ptr l k=>match H l with
  |.st cells=>cells.drop k
  |_=>[]
 |.ep s _ i k=>((rowsOf H s).getD i []).drop k
 |_=>[]
def EF (H:Heap):C->Prop
 |.pp _=>True
 |.ptr l _=>match H l with
  |.st _=>True
  |_=>False
 |.ep s sz i _=>aZ H s/\i<ay s/\s.aQ=sz
 |_=>False
def am (cs:List C):Bool:=cs.all λc=>!c.ai
def Gx (c:Bool):V->V->V
 |.c (.bool a),.c (.bool b)=>.c (.bool (bif c then a else b))
 |x,y=>if c then x else y
def V.cells:V->List C
 |.c x=>[x]
 |.ag cs=>cs
 |_=>[]
def CZ:C->C->Bool
 |.int _ a,.int _ b=>decide (a=b)
 |.str a,.str b=>decide (a=b)
 |.bool a,.bool b=>a == b
 |_,_=>false
def DN (tag:Nat)(k:C)(es:List (C×V)):Prop:=
 match tag,k with
 |0,.int .i64 _=>∀e∈es,∃n,e.1=.int .i64 n
 |1,.str _=>∀e∈es,∃s,e.1=.str s
 |2,.bool _=>∀e∈es,∃b,e.1=.bool b
 |_,_=>False
def DG (k:C):List (C×V)->Option V
 |[]=>none
 |e::es=>if CZ k e.1 then some e.2 else DG k es
def Em (agg:Bool)(cs:List C):V:=if agg then .ag cs else .c (cs.headD .unk)
def CI (H:Heap):C->List (C×V)
 |.mp l=>match H l with
  |.map _ es=>es
  |_=>[]
 |.cm agg ks rows=>(ks.zip rows).map λe=>(e.1,Em agg e.2)
 |_=>[]
def DD (H:Heap):C->Prop
 |.mp l=>match H l with
  |.map _ _=>True
  |_=>False
 |.mnil=>True
 |.cm _ _ _=>True
 |_=>False
def IN (cells:List C):List (Nat×List C)->List C
 |[]=>cells
 |(o,p)::r=>IN (cells.take o++p++cells.drop (o+p.length)) r
inductive FOp where
 |mv (x:Opd)
 |pick (c a b:Opd)
 |bin (tag:Nat) (op:BinOp) (a b:Opd)
 |not (a:Opd)
 |fad (off:Nat) (a:Opd)
 |iad (sz:Nat) (a i:Opd)
 |ld (n:Nat) (agg:Bool) (a:Opd)
 |nck (a:Opd)
 |len (a:Opd)
 |lenx (a:Opd)
 |lens (a:Opd)
 |lensx (a:Opd)
 |lenm (a:Opd)
 |sli (sz:Nat) (a:Opd) (lo hi:Option Opd)
 |slis (a:Opd) (lo hi:Option Opd)
 |ext (a:Opd) (i:Nat)
 |fld (off n:Nat) (agg:Bool) (a:Opd)
 |idx (a i:Opd)
 |bld (zero:List C) (parts:List (Nat×Nat×Opd))
 |lz (sz:Nat) (parts:List Opd)
 |box (a:Opd)
 |cvt (k:IntKind) (a:Opd)
 |mkf (f:Nat) (caps:List Opd)
 |lup (tag:Nat) (zero:V) (m k:Opd)
 |lup2 (tag:Nat) (zero:V) (m k:Opd)
 |iaa (sz n:Nat) (a i:Opd)
 |asl (n:Nat) (a:Opd)
 |aslp (n:Nat) (a:Opd) (hi:Option Opd)
 |slm (sz:Nat) (a hi:Opd)
 |ldg (n b l:Nat)
 |ldo (b l:Nat)
 |aslg (n b l:Nat)
 |iax (sz n:Nat) (a i:Opd)
 |mx (a b:Opd)
 |mn (a b:Opd)
def Ct:V->Int
 |.c (.int _ n)=>n
 |_=>0
def DX:V->Prop
 |.c (.int k _)=>k=.i64
 |_=>False
def fadC (off:Nat):C->C
 |.pp cells=>.pp (cells.drop off)
 |.ptr l k=>.ptr l (k+off)
 |.ep s sz i k=>.ep s sz i (k+off)
 |_=>.unk
def V.c1:V->C
 |.c x=>x
 |_=>.unk
def V.isC:V->Prop
 |.c _=>True
 |_=>False
def V.isAg:V->Prop
 |.ag _=>True
 |_=>False
def sliC (lo hi:Option Int):C->C
 |.sl fl sz rows=>.sl (fl&&(hi.isNone || rows.isEmpty)) sz ((rows.take (hi.getD rows.length).toNat).drop (lo.getD 0).toNat)
 |.ah l sz st n=>.ah l sz (st+(lo.getD 0).toNat) ((hi.getD n).toNat-(lo.getD 0).toNat)
 |_=>.unk
def FOp.val (e:Env)(H:Heap):FOp->V
 |.mv x=>x.v e
 |.pick c a b=>match c.v e with
  |.c (.bool t)=>Gx t (a.v e) (b.v e)
  |_=>.unk
 |.bin _ op a b=>.c (binC op (a.v e).c1 (b.v e).c1)
 |.not a=>match a.v e with
  |.c (.bool t)=>.c (.bool (!t))
  |_=>.unk
 |.fad off a=>.c (fadC off (a.v e).c1)
 |.iad sz a i=>.c (.ep (a.v e).c1 sz (Ct (i.v e)).toNat 0)
 |.ld n agg a=>Em agg ((Et H (a.v e).c1).take n)
 |.nck a=>a.v e
 |.len a=>.c (.int .i64 (ay (a.v e).c1))
 |.lenx a=>.c (.int .i64 (lenX (a.v e).c1))
 |.lens a=>match a.v e with
  |.c (.str s)=>.c (.int .i64 s.length)
  |_=>.unk
 |.lensx a=>match a.v e with
  |.c (.str s)=>.c (.int .i64 s.length)
  |.c (.stb n)=>.c (.int .i64 n)
  |_=>.unk
 |.lenm a=>.c (.int .i64 (CI H (a.v e).c1).length)
 |.sli _ a lo hi=>.c (sliC (lo.map λx=>Ct (x.v e)) (hi.map λx=>Ct (x.v e)) (a.v e).c1)
 |.slis a lo hi=>match a.v e with
  |.c (.str s)=>.c (.str ((s.take ((hi.map λx=>Ct (x.v e)).getD s.length).toNat).drop ((lo.map λx=>Ct (x.v e)).getD 0).toNat))
  |_=>.unk
 |.ext a i=>match a.v e with
  |.tup vs=>vs.getD i .unk
  |_=>.unk
 |.fld off n agg a=>Em agg (((a.v e).cells.drop off).take n)
 |.idx a i=>match a.v e with
  |.c (.str s)=>.c (.int .u8 ((s.getD (Ct (i.v e)).toNat 0).toNat))
  |_=>.unk
 |.bld zero parts=>.ag (IN zero (parts.map λp=>(p.1,(p.2.2.v e).cells)))
 |.lz sz parts=>.c (.sl true sz (parts.map λx=>(x.v e).cells))
 |.box a=>.c (.pp (a.v e).cells)
 |.cvt k a=>.c (.int k (Ct (a.v e)))
 |.mkf f caps=>.c (.fn f (caps.map λx=>(x.v e).c1))
 |.lup _ zero m k=>(DG (k.v e).c1 (CI H (m.v e).c1)).getD zero
 |.lup2 _ zero m k=>.tup [(DG (k.v e).c1 (CI H (m.v e).c1)).getD zero,.c (.bool (DG (k.v e).c1 (CI H (m.v e).c1)).isSome)]
 |.iaa sz _ a i=>match a.v e with
  |.c (.ptr l k)=>.c (.ptr l (k+(Ct (i.v e)).toNat * sz))
  |_=>.unk
 |.asl n a=>match a.v e with
  |.c (.ptr l k)=>.asl l k n
  |_=>.unk
 |.aslp n a hi=>match a.v e with
  |.c (.pp cells)=>.c (.sl hi.isNone 1 ((cells.take ((hi.map λx=>Ct (x.v e)).getD n).toNat).map λc=>[c]))
  |_=>.unk
 |.slm _ a hi=>match a.v e with
  |.c (.sl _ sz rows)=>.c (.sl true sz (rows.take (Ct (hi.v e)).toNat))
  |_=>.unk
 |.ldg n _ l=>match H l with
  |.gl _ cells=>.ag (cells.take n)
  |_=>.unk
 |.ldo _ l=>match H l with
  |.gl _ cells=>.c (cells.headD .unk)
  |_=>.unk
 |.aslg n _ l=>match H l with
  |.gl _ cells=>.c (.sl true 1 ((cells.take n).map λc=>[c]))
  |_=>.unk
 |.iax sz _ a i=>.ag (((a.v e).cells.drop ((Ct (i.v e)).toNat * sz)).take sz)
 |.mx a b=>.c (.int .i64 (if Ct (b.v e) > Ct (a.v e)then Ct (b.v e)else Ct (a.v e)))
 |.mn a b=>.c (.int .i64 (if Ct (b.v e)<Ct (a.v e)then Ct (b.v e)else Ct (a.v e)))
def FL:V->Prop
 |.c (.int _ _)=>True
 |_=>False
def optI (x:Option Opd)(e:Env):Prop:=
 match x with
 |none=>True
 |some o=>DX (o.v e)
def optF (p:Bool)(x:Option Opd)(e:Env):Prop:=
 match x with
 |none=>True
 |some o=>o.fine p e
def bnds (lo hi:Option Int)(n:Nat):Prop:=
 0<=lo.getD 0/\lo.getD 0<=hi.getD n/\hi.getD n<=n
def FOp.obl (p:Bool)(e:Env)(H:Heap):FOp->Prop
 |.mv x=>x.fine p e
 |.pick c a b=>c.fine p e/\match c.v e with
  |.c (.bool t)=>a.fine (p&&t) e/\b.fine (p&&!t) e
  |_=>False
 |.bin tag op a b=>a.fine p e/\b.fine p e/\(a.v e).isC/\(b.v e).isC/\binO tag op (a.v e).c1 (b.v e).c1
 |.not a=>a.fine p e/\match a.v e with
  |.c (.bool _)=>True
  |_=>False
 |.fad _ a=>a.fine p e/\match a.v e with
  |.c (.pp _)=>True
  |.c (.ptr _ _)=>True
  |.c (.ep _ _ _ _)=>True
  |_=>False
 |.iad sz a i=>a.fine p e/\i.fine p e/\(a.v e).isC/\aZ H (a.v e).c1/\(a.v e).c1.aQ=sz/\DX (i.v e)/\
   0<=Ct (i.v e)/\(Ct (i.v e)).toNat<ay (a.v e).c1
 |.ld n _ a=>a.fine p e/\(a.v e).isC/\EF H (a.v e).c1/\n<=(Et H (a.v e).c1).length/\am ((Et H (a.v e).c1).take n)=true
 |.nck a=>a.fine p e/\match a.v e with
  |.c (.pp _)=>True
  |.c (.ptr _ _)=>True
  |.c (.ep _ _ _ _)=>True
  |.c (.fn _ _)=>True
  |_=>False
 |.len a=>a.fine p e/\(a.v e).isC/\aZ H (a.v e).c1
 |.lenx a=>a.fine p e/\(a.v e).isC/\(aZ H (a.v e).c1\/Oz (a.v e).c1)
 |.lens a=>a.fine p e/\match a.v e with
  |.c (.str _)=>True
  |_=>False
 |.lensx a=>a.fine p e/\match a.v e with
  |.c (.str _)=>True
  |.c (.stb _)=>True
  |_=>False
 |.lenm a=>a.fine p e/\(a.v e).isC/\DD H (a.v e).c1
 |.sli sz a lo hi=>a.fine p e/\optF p lo e/\optF p hi e/\optI lo e/\optI hi e/\(a.v e).isC/\aZ H (a.v e).c1/\(a.v e).c1.aQ=sz/\
   bnds (lo.map λx=>Ct (x.v e)) (hi.map λx=>Ct (x.v e)) (ay (a.v e).c1)
 |.slis a lo hi=>a.fine p e/\optF p lo e/\optF p hi e/\optI lo e/\optI hi e/\match a.v e with
  |.c (.str s)=>bnds (lo.map λx=>Ct (x.v e)) (hi.map λx=>Ct (x.v e)) s.length
  |_=>False
 |.ext a i=>a.fine p e/\match a.v e with
  |.tup vs=>i<vs.length
  |_=>False
 |.fld off n agg a=>a.fine p e/\(a.v e).isAg/\off+n<=(a.v e).cells.length
 |.idx a i=>a.fine p e/\i.fine p e/\DX (i.v e)/\match a.v e with
  |.c (.str s)=>0<=Ct (i.v e)/\(Ct (i.v e)).toNat<s.length
  |_=>False
 |.bld zero parts=>∀x∈parts,x.2.2.fine p e/\(x.2.2.v e).cells.length=x.2.1
 |.lz sz parts=>∀x∈parts,x.fine p e/\(x.v e).cells.length=sz
 |.box a=>a.fine p e/\(a.v e).cells≠[]
 |.cvt k a=>a.fine p e/\FL (a.v e)/\inR k (Ct (a.v e))
 |.mkf f caps=>∀x∈caps,x.fine p e/\(x.v e).isC
 |.lup tag zero m k=>m.fine p e/\k.fine p e/\(m.v e).isC/\(k.v e).isC/\DD H (m.v e).c1/\DN tag (k.v e).c1 (CI H (m.v e).c1)
 |.lup2 tag zero m k=>m.fine p e/\k.fine p e/\(m.v e).isC/\(k.v e).isC/\DD H (m.v e).c1/\DN tag (k.v e).c1 (CI H (m.v e).c1)
 |.iaa _ n a i=>a.fine p e/\i.fine p e/\DX (i.v e)/\0<=Ct (i.v e)/\Ct (i.v e)<n/\match a.v e with
  |.c (.ptr _ _)=>True
  |_=>False
 |.asl _ a=>a.fine p e/\match a.v e with
  |.c (.ptr l _)=>(match H l with
   |.st _=>True
   |_=>False)
  |_=>False
 |.aslp n a hi=>a.fine p e/\optF p hi e/\optI hi e/\bnds none (hi.map λx=>Ct (x.v e)) n/\n<=LIM/\match a.v e with
  |.c (.pp cells)=>n<=cells.length
  |_=>False
 |.slm sz a hi=>a.fine p e/\hi.fine p e/\DX (hi.v e)/\0<=Ct (hi.v e)/\match a.v e with
  |.c (.sl _ z rows)=>z=sz/\Ct (hi.v e)<=rows.length
  |_=>False
 |.ldg n b l=>match H l with
  |.gl b' cells=>b'=b/\n<=cells.length
  |_=>False
 |.ldo b l=>match H l with
  |.gl b' cells=>b'=b/\0<cells.length
  |_=>False
 |.aslg n b l=>match H l with
  |.gl b' cells=>b'=b/\n<=cells.length/\n<=LIM
  |_=>False
 |.iax sz n a i=>a.fine p e/\i.fine p e/\DX (i.v e)/\0<=Ct (i.v e)/\Ct (i.v e)<n/\(a.v e).isAg/\n * sz<=(a.v e).cells.length
 |.mx a b=>a.fine p e/\b.fine p e/\DX (a.v e)/\DX (b.v e)
 |.mn a b=>a.fine p e/\b.fine p e/\DX (a.v e)/\DX (b.v e)
def FOp.fct (e:Env)(H:Heap):FOp->Prop
 |.len a=>ay (a.v e).c1<=LIM
 |.lenx a=>lenX (a.v e).c1<2 ^ 63
 |.lens a=>match a.v e with
  |.c (.str s)=>s.length<=LIM
  |_=>True
 |.lensx a=>match a.v e with
  |.c (.str s)=>s.length<=LIM
  |.c (.stb n)=>n<2 ^ 63
  |_=>True
 |.lenm a=>(CI H (a.v e).c1).length<=LIM
 |_=>True
def fnOk (P:Program)(f:FuncId):Bool:=
 match P.funcs[f]? with
 | some fn => fn.body.isSome && fn.name != "runtime.NumGoroutine"
 |none=>false
def Qu (P:Program)(f:FuncId)(args:List V)(H:Heap)(K:V->Heap->Prop):Prop:=
 fnOk P f=true/\∀(g:G) (w:World) (vs:List Value),Sat H g w->vs.length=args.length->
  (∀(j:Nat) (x:V) (u:Value),args[j]? = some x->vs[j]? = some u->RepV w g x u)->
  Calls P f vs.toArray w λe w'=>(∃v x H' g',e=.returned v/\K x H'/\Stp H g w H' g' w'/\RepV w' g' x v)\/
   (∃v H' g',e=.panicked [{ v:=v,recovered:=false }]/\K (.pn v) H'/\Stp H g w H' g' w')
def FM (P:Program)(f:FuncId)(args:List V)(r:V):Prop:=(∀v,r≠.pn v)/\∀H K,K r H->Qu P f args H K
inductive EOp where
 |alloc (cells:List C)
 |boxm (a:Opd)
 |sto (n:Nat) (a v:Opd)
 |app (sz:Nat) (a b:Opd)
 |mks (sz:Nat) (zero:List C) (n:Opd)
 |mkm
 |upd (tag:Nat) (m k v:Opd)
 |del (tag:Nat) (m k:Opd)
 |clrm (m:Opd)
 |clrs (sz:Nat) (zero:List C) (m:Opd)
 |call (f:Nat) (args:List Opd)
 |fN (f:Opd) (args:List Opd)
 |rng (m:Opd)
 |nxt (it:Opd)
 |ent (it:Opd)
 |nilq (a:Opd)
 |rngs (a:Opd)
 |nxts (it:Opd)
 |bslm (sz:Nat) (parts:List Opd)
 |cpy (sz:Nat) (a b:Opd)
def Fx (row:List C)(k:Nat)(vs:List C):List C:=row.take k++vs++row.drop (k+vs.length)
def En (H:Heap)(p:C)(vs:List C)(K:V->Heap->Prop):Prop:=
 match p with
 |.ptr l k=>match H l with
  |.st cells=>k+vs.length<=cells.length/\K .unk (H.set l (.st (Fx cells k vs)))
  |_=>False
 |.ep (.ah l sz st n) z i k=>match H l with
  |.vec y rows=>y=sz/\z=sz/\i<n/\st+n<=rows.length/\k+vs.length<=sz/\
    K .unk (H.set l (.vec sz (rows.set (st+i) (Fx (rows.getD (st+i) []) k vs))))
  |_=>False
 |_=>False
def appT (H:Heap)(sz:Nat)(a b:C)(K:V->Heap->Prop):Prop:=
 aZ H b/\b.aQ=sz/\match a with
 |.sl true z rows=>z=sz/\(rows=[]\/rowsOf H b≠[])/\(∀r∈rows++rowsOf H b,am r=true)/\rows.length+ay b<=LIM/\
   ∀l,H l=.none->K (.c (.ah l sz 0 (rows.length+ay b))) (H.set l (.vec sz (rows++rowsOf H b)))
 |.ah l z st n=>match H l with
  |.vec y rows=>z=sz/\y=sz/\st+n<=rows.length/\(∀r∈rowsOf H b,am r=true)/\n+ay b<=LIM/\
    ∀l',(H.set l .none) l'=.none->
     K (.c (.ah l' sz 0 (n+ay b))) ((H.set l .none).set l' (.vec sz ((rows.drop st).take n++rowsOf H b)))
  |_=>False
 |_=>False
def updE (k:C)(v:V):List (C×V)->List (C×V)
 |[]=>[(k,v)]
 |e::es=>if CZ k e.1 then (k,v)::es else e::updE k v es
def delE (k:C):List (C×V)->List (C×V)
 |[]=>[]
 |e::es=>if CZ k e.1 then es else e::delE k es
def updT (H:Heap)(tag:Nat)(m k:C)(v:V)(K:V->Heap->Prop):Prop:=
 match m with
 |.mp l=>match H l with
  |.map n es=>DN tag k es/\es.length+1<=LIM/\K .unk (H.set l (.map (n+1) (updE k v es)))
  |_=>False
 |_=>False
def delT (H:Heap)(tag:Nat)(m k:C)(K:V->Heap->Prop):Prop:=
 match m with
 |.mp l=>match H l with
  |.map n es=>DN tag k es/\K .unk (H.set l (.map (n+1) (delE k es)))
  |_=>False
 |.mnil=>DN tag k []/\K .unk H
 |_=>False
def cpyT (H:Heap)(sz:Nat)(a b:C)(K:V->Heap->Prop):Prop:=
 aZ H b/\b.aQ=sz/\match a with
 |.ah l z st n=>match H l with
  |.vec y rows=>z=sz/\y=sz/\st+n<=rows.length/\ay b<=n/\(∀r∈rowsOf H b,am r=true)/\
    K (.c (.int .i64 (ay b))) (H.set l (.vec sz (rows.take st++rowsOf H b++rows.drop (st+ay b))))
  |_=>False
 |_=>False
def EOp.eff (P:Program)(p:Bool)(e:Env)(H:Heap)(K:V->Heap->Prop):EOp->Prop
 |.alloc cells=>∀l,H l=.none->K (.c (.ptr l 0)) (H.set l (.st cells))
 |.boxm a=>a.fine p e/\(a.v e).cells≠[]/\∀l,H l=.none->K (.c (.ptr l 0)) (H.set l (.st (a.v e).cells))
 |.sto n a v=>a.fine p e/\v.fine p e/\(a.v e).isC/\(v.v e).cells.length=n/\0<n/\En H (a.v e).c1 (v.v e).cells K
 |.app sz a b=>a.fine p e/\b.fine p e/\(a.v e).isC/\(b.v e).isC/\appT H sz (a.v e).c1 (b.v e).c1 K
 |.mks sz zero n=>n.fine p e/\DX (n.v e)/\0<=Ct (n.v e)/\Ct (n.v e)<=LIM/\
   ∀l,H l=.none->K (.c (.ah l sz 0 (Ct (n.v e)).toNat)) (H.set l (.vec sz (List.replicate (Ct (n.v e)).toNat zero)))
 |.mkm=>∀l,H l=.none->K (.c (.mp l)) (H.set l (.map 0 []))
 |.upd tag m k v=>m.fine p e/\k.fine p e/\v.fine p e/\(m.v e).isC/\(k.v e).isC/\(v.v e).cells≠[]/\updT H tag (m.v e).c1 (k.v e).c1 (v.v e) K
 |.del tag m k=>m.fine p e/\k.fine p e/\(m.v e).isC/\(k.v e).isC/\delT H tag (m.v e).c1 (k.v e).c1 K
 |.clrm m=>m.fine p e/\match m.v e with
  |.c (.mp l)=>match H l with
   |.map n _=>K .unk (H.set l (.map (n+1) []))
   |_=>False
  |_=>False
 |.clrs sz zero m=>m.fine p e/\match m.v e with
  |.c (.ah l z st n)=>z=sz/\match H l with
   |.vec y rows=>y=sz/\st+n<=rows.length/\K .unk (H.set l (.vec sz (rows.take st++List.replicate n zero++rows.drop (st+n))))
   |_=>False
  |_=>False
 |.call f args=>(∀x∈args,x.fine p e)/\Qu P f (args.map λx=>x.v e) H K
 |.fN f args=>f.fine p e/\(∀x∈args,x.fine p e)/\match f.v e with
  |.c (.fn n caps)=>Qu P n ((args.map λx=>x.v e)++caps.map .c) H K
  |_=>False
 |.rng m=>m.fine p e/\match m.v e with
  |.c (.mp l)=>match H l with
   |.map n es=>es.Nodup/\∀i,H i=.none->K (.c (.itr i)) (H.set i (.iter (some (l,n)) es none))
   |_=>False
  |.c .mnil=>∀i,H i=.none->K (.c (.itr i)) (H.set i (.iter none [] none))
  |_=>False
 |.nxt it=>it.fine p e/\match it.v e with
  |.c (.itr i)=>match H i with
   |.iter none left _=>K (.tup [.c (.bool false)]) H
   |.iter (some (l,n)) left cur=>(∃es,H l=.map n es)/\(left=[]->K (.tup [.c (.bool false)]) H)/\
     ∀x left',x∈left->(∀y,y∈left'↔y∈left/\y≠x)->left'.Nodup->left'.length+1=left.length->
      K (.tup [.c (.bool true),.c x.1,x.2]) (H.set i (.iter (some (l,n)) left' (some x)))
   |_=>False
  |_=>False
 |.ent it=>it.fine p e/\match it.v e with
  |.c (.itr i)=>match H i with
   |.iter (some (l,n)) left (some x)=>(∃es,H l=.map n es)/\K (.tup [.c x.1,x.2]) H
   |_=>False
  |_=>False
 |.rngs a=>a.fine p e/\match a.v e with
  |.c (.str s)=>∀i,H i=.none->K (.c (.itr i)) (H.set i (.sit s 0))
  |_=>False
 |.nxts it=>it.fine p e/\match it.v e with
  |.c (.itr i)=>match H i with
   |.sit s q=>(s.length<=q->K (.tup [.c (.bool false)]) H)/\
     ∀(c:Int) (wd:Nat),q<s.length->1<=wd->((s.getD q 0).toNat<128->c=((s.getD q 0).toNat:Int)/\wd=1)->(128<=(s.getD q 0).toNat->128<=c)->
      K (.tup [.c (.bool true),.c (.int .i64 q),.c (.int .i32 c)]) (H.set i (.sit s (q+wd)))
   |_=>False
  |_=>False
 |.nilq a=>a.fine p e/\match a.v e with
  |.c (.sl _ _ rows)=>∀b:Bool,(b=true->rows=[])->K (.c (.bool b)) H
  |_=>False
 |.cpy sz a b=>a.fine p e/\b.fine p e/\(a.v e).isC/\(b.v e).isC/\cpyT H sz (a.v e).c1 (b.v e).c1 K
 |.bslm sz parts=>(∀x∈parts,x.fine p e/\(x.v e).cells.length=sz)/\∀l,H l=.none->K (.c (.ah l sz 0 parts.length)) (H.set l (.vec sz (parts.map λx=>(x.v e).cells)))
inductive Item where
 |f (dst:Option Nat) (g:Option (Nat×Bool)) (op:FOp)
 |p (dst:Option Nat) (g:Option (Nat×Bool)) (f:Nat) (args:List Opd)
 |e (dst:Option Nat) (g:Option (Nat×Bool)) (op:EOp)
 |chk (dst:Nat) (g:Option (Nat×Bool)) (op:FOp)
def Df (d:Option Nat)(v:V)(e:Env):Env:=
 match d with
 |some t=>(t,v)::e
 |none=>e
def gdB (e:Env):Option (Nat×Bool)->Bool
 |none=>true
 |some (t,w)=>match lk t e with
  |.c (.bool b)=>b == w
  |.gd q (.c (.bool b))=>q&&(b == w)
  |_=>false
def gdO (e:Env):Option (Nat×Bool)->Prop
 |none=>True
 |some (t,_)=>match lk t e with
  |.c (.bool _)=>True
  |.gd _ (.c (.bool _))=>True
  |.gd q _=>q=false
  |_=>False
def gdV (g:Option (Nat×Bool))(p:Bool)(v:V):V:=
 match g with
 |none=>v
 |some _=>.gd p v
def DQ (KP:Value->Heap->Prop)(K:V->Heap->Prop):V->Heap->Prop
 |.pn v,H=>KP v H
 |v,H=>K v H
def regT (P:Program):List Item->Env->Heap->(Value->Heap->Prop)->(Env->Heap->Prop)->Prop
 |[],e,H,KP,K=>K e H
 |.f d g op::r,e,H,KP,K=>gdO e g/\(gdB e g=true->op.obl (gdB e g) e H)/\
   ((gdB e g=true->op.fct e H)->regT P r (Df d (gdV g (gdB e g) (op.val e H)) e) H KP K)
 |.p d g f args::r,e,H,KP,K=>gdO e g/\∃v,(gdB e g=true->(∀x∈args,x.fine (gdB e g) e)/\FM P f (args.map λx=>x.v e) v)/\
   regT P r (Df d (gdV g (gdB e g) v) e) H KP K
 |.e d g op::r,e,H,KP,K=>gdO e g/\
   (gdB e g=true->op.eff P (gdB e g) e H (DQ KP λv H'=>regT P r (Df d v e) H' KP K))/\
   (gdB e g=false->regT P r (Df d .unk e) H KP K)
 |.chk _ _ _::_,_,_,_,_=>False
def DH (P:Program):List Item->Env->Heap->(Value->Heap->Prop)->(Env->Heap->Prop)->Prop
 |[],e,H,KP,K=>K e H
 |.f d g op::r,e,H,KP,K=>gdO e g/\(gdB e g=true->op.obl (gdB e g) e H)/\DH P r (Df d (gdV g (gdB e g) (op.val e H)) e) H KP K
 |.p d g f args::r,e,H,KP,K=>gdO e g/\∃v,(gdB e g=true->(∀x∈args,x.fine (gdB e g) e)/\FM P f (args.map λx=>x.v e) v)/\
   DH P r (Df d (gdV g (gdB e g) v) e) H KP K
 |.e d g op::r,e,H,KP,K=>gdO e g/\
   (gdB e g=true->op.eff P (gdB e g) e H (DQ KP λv H'=>DH P r (Df d v e) H' KP K))/\
   (gdB e g=false->DH P r (Df d .unk e) H KP K)
 |.chk d g op::r,e,H,KP,K=>(gdO e g/\(gdB e g=true->op.obl (gdB e g) e H)/\lk d e=gdV g (gdB e g) (op.val e H))/\DH P r e H KP K
def trim (ks:List Nat)(e:Env):Env:=ks.map λt=>(t,lk t e)
def FO (e:Env)(H:Heap)(e':Env)(H':Heap):Prop:=
 ∀(g:G) (w:World) (tmps:Nat->Value),Sat H g w->(∀t,RepV w g (lk t e) (tmps t))->
  ∃g',Stp H g w H' g' w/\∀t,RepV w g' (lk t e') (tmps t)
inductive SC where
 |skip
 |reg (its:List Item) (keep:List Nat)
 |kr (fa:Nat) (ord:List Nat) (its:List Item) (keep:List Nat)
 |seq (a b:SC)
 |cond (t:Opd) (a b:SC)
 |block (id:Nat) (a:SC)
 |loop (a:SC)
 |exit (id:Nat)
 |ret
 |gh
 |scope (a:SC)
inductive X where
 |nrm
 |exit (id:Nat)
 |ret
 |pan (v:Value)
def X.panK (Q:X->Env->Heap->Prop)(v:Value)(H:Heap):Prop:=Q (.pan v) [] H
def X.next (K:Env->Heap->Prop)(Q:X->Env->Heap->Prop):X->Env->Heap->Prop
 |.nrm,e,H=>K e H
 |x,e,H=>Q x e H
def X.inBlock (id:Nat)(Q:X->Env->Heap->Prop):X->Env->Heap->Prop
 |.exit i,e,H=>if i=id then Q .nrm e H else Q (.exit i) e H
 |x,e,H=>Q x e H
def Cr (P:Program):SC->(X->Env->Heap->Prop)->Env->Heap->Prop
 |.skip,Q,e,H=>Q .nrm e H
 |.reg its keep,Q,e,H=>regT P its e H (X.panK Q) λe' H'=>Q .nrm (trim keep e') H'
 |.kr _ _ its keep,Q,e,H=>DH P its e H (X.panK Q) λe' H'=>Q .nrm (trim keep e') H'
 |.seq a b,Q,e,H=>Cr P a (X.next (Cr P b Q) Q) e H
 |.cond t a b,Q,e,H=>∃c,t.raw e=.c (.bool c)/\(c=true->Cr P a Q e H)/\(c=false->Cr P b Q e H)
 |.block id a,Q,e,H=>Cr P a (X.inBlock id Q) e H
 |.loop a,Q,e,H=>∃(I:Nat->Env->Heap->Prop),(∃n,I n e H)/\
   ∀n e1 H1,I n e1 H1->Cr P a (X.next (λe2 H2=>∃m,m<n/\I m e2 H2) Q) e1 H1
 |.exit id,Q,e,H=>Q (.exit id) e H
 |.ret,Q,e,H=>Q .ret e H
 |.gh,Q,e,H=>∃e' H',FO e H e' H'/\Q .nrm e' H'
 |.scope a,Q,e,H=>Cr P a Q e H
inductive RS where
 |tmp (t:Nat)
 |cell (t n:Nat) (agg:Bool)
def RS.op:RS->FOp
 |.tmp t=>.mv (.t t)
 |.cell t n agg=>.ld n agg (.t t)
def Cn (rs:List RS)(e:Env)(H:Heap)(K:V->Heap->Prop):Prop:=
 (∀r∈rs,r.op.obl true e H)/\K (match rs with
  |[r]=>r.op.val e H
  |_=>.tup (rs.map λr=>r.op.val e H)) H
def zipE (i:Nat):List V->Env
 |[]=>[]
 |v::r=>(i,v)::zipE (i+1) r
theorem Ka{i:TypeInfo}(h:P.info? t=some i)(w:World):(typeInfo t).run P w=.ok i w:=by
 simp[typeInfo,h]
theorem Dm{i:TypeInfo}(h:P.info? t=some i)(w:World):(sizeOf t).run P w=.ok i.size w:=by
 simp[sizeOf,Ka h]
theorem C1{d:TypeDesc}(h:P.underlying t=some d)(w:World):(underlying t).run P w=.ok d w:=by
 simp[underlying,h]
theorem Qagy{i:TypeInfo}(h:P.info? t=some i):P.cellsOf t=i.size:=by simp[Program.cellsOf,h]
def Ed:TypeDesc->Bool
 |.struct _|.array _ _=>true
 |_=>false
theorem Gg{d:TypeDesc}(h:P.underlying t=some d)(w:World):(isAgg t).run P w=.ok (Ed d) w:=by
 cases d <;> simp[isAgg,C1 h,Ed]
theorem Ez (b o j:Nat):(⟨b,o,none⟩:Addr).add j=⟨b,o+j,none⟩:=by
 unfold Addr.add;split
 ·subst_vars;rfl
 ·rfl
theorem Q7i{d:TypeDesc}{i:TypeInfo}(hd:P.underlying t=some d)(hi:P.info? t=some i)(w:World)(b o n:Nat)(f:Nat->Value)
  (hn:Ed d=true->i.size=n) (h1:Ed d=false->n=1) (hc:∀j,j<n->w.cell? ⟨b,o+j,none⟩=some (f j)) :
  (loadVar t ⟨b,o,none⟩).run P w=.ok (if Ed d then .agg ((List.range n).map f).toArray else f 0) w:=by
 unfold loadVar;simp only[Sem.run_bind,Gg hd,Result.andThen_ok]
 cases ha:Ed d with
 |true=>
  simp only[Sem.run_bind,Dm hi,Result.andThen_ok,if_true,hn ha];rw[run_loadCells w _ n f (λj hj=>by rw[Ez];exact hc j hj)];simp
 |false=>
  have h0:=hc 0 (by have:=h1 ha;omega);simp only[J0]at h0;simp[h0]
def getV (w:World)(b o:Nat)(j:Nat):Value:=(w.cell? ⟨b,o+j,none⟩).getD undef
theorem RepC.am {w:World}{g:G}{c:C}{v:Value}(h:RepC w g c v):c.ai=false:=by cases h <;> rfl
theorem FJ {w:World}{b o:Nat}{T:TypeId}(h:w.heap[b]? = some (.cells cs T (0,0))):w.cell? ⟨b,o,none⟩=cs[o]?:=by
 simp[World.cell?,h]
theorem RepO.toC {w:World}{g:G}{l:Nat}{p:List Nat}{c:C}{v:Value}(h:RepO w g l p c v)(hn:c.ai=false):RepC w g c v:=
 h.plain_of (λsz rows e=>by subst e;simp[C.ai]at hn)
theorem GP {H:Heap}{g:G}{w:World}(hs:Sat H g w){s:C}{v:Value}(h:RepC w g s v)(ho:aZ H s) :
  ∃a cap,v=.slice a (ay s) cap/\ay s<=LIM/\(rowsOf H s).length=ay s/\
   (∀(i:Nat) (row:List C),(rowsOf H s)[i]? = some row->row.length=s.aQ)/\
   (ay s≠0->∃b off,a=some ⟨b,off,none⟩/\∀(i:Nat) (row:List C) (j:Nat) (c:C),(rowsOf H s)[i]? = some row->row[j]? = some c->c.ai=false->
    ∃u,w.cell? ⟨b,off+i * s.aQ+j,none⟩=some u/\RepC w g c u):=by
 cases h with
 |ce fl sz a=>exact⟨a,0,rfl,by simp[ay,LIM],rfl,by simp[rowsOf],by simp[ay]⟩
 |sl fl sz rows b off cap val hl hf fE hp hr hc hv=>
  refine⟨some ⟨b,off,none⟩,cap,rfl,hl,rfl,hr,λ_=>⟨b,off,rfl,λi row j c h1 h2 _=>⟨_,hc i row j c h1 h2,hv i row j c h1 h2⟩⟩⟩
 |bO l sz st a=>
  simp only[aZ]at ho;refine⟨a,0,rfl,by simp[ay,LIM],?_,?_,by simp[ay]⟩
  ·simp only[rowsOf,ay];split <;> simp
  ·intro i row h1;simp only[rowsOf]at h1;split at h1 <;> simp at h1
 |ah l sz st n cap b base T m bK hn iU hm=>
  simp only[aZ]at ho;split at ho
  ·rename_i z rows hH
   obtain⟨rfl,aI⟩:=ho;have bf:=hs.objs l;rw[hH]at bf;obtain⟨b',base',T',cs,val,h1,h2,h3,h4,h5,h6,h7,h8⟩:=SatVec.of bf bK;rw[bK]at h1;simp only[Jb,Jo,true_and]at h1;obtain⟨rfl,rfl⟩:=h1;have aD:∀i row,(rowsOf H (.ah l z st n))[i]? = some row->i<n/\rows[st+i]? = some row:=by
    intro i row hi;simp only[rowsOf,hH,Jp,Js]at hi;split at hi
    ·rename_i af;exact⟨af,hi⟩
    ·simp at hi
   refine⟨_,cap,rfl,by simp only[ay];omega,?_,?_,λ_=>⟨b,base+st * z,rfl,?_⟩⟩
   ·simp only[rowsOf,hH,ay,List.length_take,List.length_drop];omega
   ·intro i row hi;exact h6 _ _ (aD i row hi).2
   ·intro i row j c hi hj ho;obtain⟨rW,jc⟩:=aD i row hi;have e1:=h7 _ _ _ _ jc hj;refine⟨val (st+i) j,?_,(h8 _ _ _ _ jc hj).toC ho⟩;rw[FJ h3,<-e1];simp only[C.aQ];congr 1;rw[Jl];omega
  ·exact ho.elim
 |_=>simp[aZ]at ho
theorem Ob {H:Heap}{g:G}{w:World}(hs:Sat H g w){x:C}{v:Value}(h:RepC w g x v)(ho:EF H x) :
  ∃b o,v=.pointer (some ⟨b,o,none⟩)/\∀(j:Nat) (c:C),(Et H x)[j]? = some c->c.ai=false->∃u,w.cell? ⟨b,o+j,none⟩=some u/\RepC w g c u:=by
 cases h with
 |pp cells b off val hp hc hv=>exact⟨b,off,rfl,λj c h1 _=>⟨_,hc j c h1,hv j c h1⟩⟩
 |ptr l k b sz base bK=>
  simp only[EF]at ho;split at ho
  ·rename_i cells hH
   have bf:=hs.objs l;rw[hH]at bf;obtain⟨b',sz',T,cs,h1,h2,h3,h4,h5⟩:=bf;rw[bK]at h1;simp only[Jb,Jo]at h1;obtain⟨rfl,rfl,rfl⟩:=h1;refine⟨b,0+k,rfl,λj c hj hw=>?_⟩;simp only[Et,hH,Js]at hj;have af:k+j<cs.size:=by
    rw[h4];rcases Jg (k+j) cells.length with h|h
    ·exact h
    ·rw[Jf h]at hj;simp at hj
   have hv:cs[k+j]? = some cs[k+j]:=Jc af;exact⟨cs[k+j],by rw[FJ h3,show 0+k+j=k+j by omega];exact hv,(h5 _ _ _ hj hv).toC hw⟩
  ·exact ho.elim
 |ep s sz i k b off n cap dd hz hi=>
  simp only[EF]at ho;obtain⟨wo,lK,ho3⟩:=ho;obtain⟨a,cap',hv,h1,h2,h3,h4⟩:=GP hs dd wo;simp only[Value.slice.injEq]at hv;obtain⟨rfl,rfl,rfl⟩:=hv;obtain⟨b',off',hb,h5⟩:=h4 ZA;simp only[Jb,Addr.mk.injEq,and_true]at hb;obtain⟨rfl,rfl⟩:=hb;refine⟨b,off+i * sz+k,rfl,λj c hj hw=>?_⟩;simp only[Et,Js]at hj;have aD:(rowsOf H s)[i]? = some ((rowsOf H s).getD i []):=by
   rw[J1,Jd ZA];rfl
  obtain⟨u,e1,e2⟩:=h5 i _ (k+j) c aD hj hw;refine⟨u,?_,e2⟩;rw[hz]at e1;rw[<-e1];congr 2;omega
 |_=>simp[EF]at ho
def mK:V->Value->Bool
 |.c (.int k n),.int k' n'=>k == k'&&n == n'
 |.c (.bool b),.bool b'=>b == b'
 |.c (.str s),.string b=>decide (s=b.data.toList)&&decide (s.length<=1000000)
 |.c (.sl _ _ []),.slice none 0 0=>true
 |.c .pnil,.pointer none=>true
 |.c .mnil,.map none=>true
 |.c .fnil,.nilFunc=>true
 |_,_=>false
def mO:Opd->Operand->Bool
 |.t n,.tmp m=>n == m
 |.k v,.const c=>mK v c
 |.k (.c (.fn f [])),.func f'=>f == f'
 |_,_=>false
theorem Qa7c {w:World}{g:G}{v:V}(h:mK v u=true):RepV w g v u:=by
 unfold mK at h;split at h
 ·simp at h;obtain⟨rfl,rfl⟩:=h;exact .c _ _ (.int _ _)
 ·simp at h;subst h;exact .c _ _ (.bool _)
 ·rename_i s b
  simp only[Ja,decide_eq_true_eq]at h;obtain⟨rfl,h2⟩:=h;have hb:b=⟨b.data.toList.toArray⟩:=by cases b;rfl
  have:=RepC.str (w:=w) (g:=g) b.data.toList (by unfold LIM;omega);rw[<-hb]at this;exact .c _ _ this
 ·exact .c _ _ (.ce _ _ _)
 ·exact .c _ _ .pnil
 ·exact .c _ _ .mnil
 ·exact .c _ _ .fnil
 ·simp at h
theorem OD {w:World}{g:G}{e:Env}{a:Act}(he:∀t,RepV w g (lk t e) (a.tmps.getD t undef)){x:Opd}(h:mO x y=true) :
  RepV w g (x.raw e) (a.eval y):=by
 unfold mO at h;split at h
 ·simp at h;subst h;exact he _
 ·exact Qa7c h
 ·simp at h;subst h;exact .c _ _ (.fn _ [] [] rfl (by intro j c u h1;simp at h1))
 ·simp at h
theorem Cz {w:World}{g:G}{e:Env}{a:Act}(he:∀t,RepV w g (lk t e) (a.tmps.getD t undef)){x:Opd}(h:mO x y=true)
  {p:Bool} (hp:p=true) (hf:x.fine p e):RepV w g (x.v e) (a.eval y):=by
 have hr:=OD he h;unfold Opd.v Opd.fine at *
 cases hx:x.raw e with
 |gd q v=>
  rw[hx]at hr hf;simp only[V.fine]at hf
  cases hr with
  |gd _ _ _ hv _=>exact hv (hf hp)
 |_=>rw[hx]at hr;exact hr
theorem RepV.aN {w:World}{g:G}{x:C}{v:Value}(h:RepV w g (.c x) v):RepC w g x v:=by cases h;assumption
theorem RepC.aH {w:World}{g:G}{k:IntKind}{n:Int}{v:Value}(h:RepC w g (.int k n) v):v=.int k n:=by cases h;rfl
theorem RepC.bA {w:World}{g:G}{b:Bool}{v:Value}(h:RepC w g (.bool b) v):v=.bool b:=by cases h;rfl
theorem RepC.str_inv {w:World}{g:G}{s:List UInt8}{v:Value}(h:RepC w g (.str s) v):v=.string ⟨s.toArray⟩/\s.length<=LIM:=by cases h;exact⟨rfl,by assumption⟩
theorem RepC.pnil_inv {w:World}{g:G}{v:Value}(h:RepC w g .pnil v):v=.pointer none:=by cases h;rfl
theorem RepC.ptr_inv {w:World}{g:G}{x:C}{v:Value}(h:RepC w g x v)(hx:x.isPtr=true):∃b o,v=.pointer (some ⟨b,o,none⟩):=by
 cases h <;> simp[C.isPtr]at hx <;> exact⟨_,_,rfl⟩
theorem RepC.fn_inv {w:World}{g:G}{caps:List C}{v:Value}(h:RepC w g (.fn f caps) v) :
  ∃vs:List Value,v=.func (.func f) #[] vs.toArray/\vs.length=caps.length/\∀(j:Nat) (c:C) (u:Value),caps[j]? = some c->vs[j]? = some u->RepC w g c u:=by
 cases h with
 |fn f caps vs hl hv=>exact⟨vs,rfl,hl,hv⟩
theorem RepV.tup_inv {w:World}{g:G}{xs:List V}{v:Value}(h:RepV w g (.tup xs) v) :
  ∃vs:List Value,v=.tuple vs.toArray/\vs.length=xs.length/\∀(j:Nat) (x:V) (u:Value),xs[j]? = some x->vs[j]? = some u->RepV w g x u:=by
 cases h with
 |tup xs vs hl hv=>exact⟨vs,rfl,hl,hv⟩
theorem RepV.ag_inv {w:World}{g:G}{cs:List C}{v:Value}(h:RepV w g (.ag cs) v) :
  ∃vs:List Value,v=.agg vs.toArray/\vs.length=cs.length/\∀(j:Nat) (x:C) (u:Value),cs[j]? = some x->vs[j]? = some u->RepC w g x u:=by
 cases h with
 |ag cs vs hl hv=>exact⟨vs,rfl,hl,hv⟩
theorem Dh {v:V}(h:v.isC):v=.c v.c1:=by cases v <;> simp_all[V.isC,V.c1]
variable{g g':G}{H':Heap}{zero:List C}{parts xs:List Opd}{es:List (C×V)}{K:V->Heap->Prop}{KP:Value->Heap->Prop}{e':Env}
section
variable{H:Heap}{w:World}{e:Env}{a:Act}{o:Oper}{p:Bool}
def FOk (P:Program)(H:Heap)(g:G)(w:World)(e:Env)(a:Act)(o:Oper)(op:FOp):Prop:=
 ∃v w' g',(execOp a.eval o).run P w=.ok (.value v) w'/\Stp H g w H g' w'/\RepV w' g' (op.val e H) v/\op.fct e H
abbrev EnvOk (w:World)(g:G)(e:Env)(a:Act):Prop:=∀t,RepV w g (lk t e) (a.tmps.getD t undef)
theorem FOk.mk' {op:FOp}(hs:Sat H g w){v:Value}(h1:(execOp a.eval o).run P w=.ok (.value v) w)(h2:RepV w g (op.val e H) v)(h3:op.fct e H) :
  FOk P H g w e a o op:=⟨v,w,g,h1,.refl hs,h2,h3⟩
def mTag (P:Program)(tag:Nat)(t:TypeId):Bool:=
 match tag with
 |1=>(match P.underlying t with|some .bool=>true|_=>false)
 |2=>(match P.underlying t with|some (.pointer _)=>true|_=>false)
 |_=>true
theorem s_mv {x:Opd}(hm:o.op=.move y\/o.op=.assign y)(hx:mO x y=true)(hs:Sat H g w)(he:EnvOk w g e a)(hp:p=true)
  (ho:(FOp.mv x).obl p e H):FOk P H g w e a o (.mv x):=by
 refine .mk' hs (v:=a.eval y) ?_ (Cz he hx hp ho) trivial;rcases hm with hm|hm <;> simp[execOp,hm]
theorem Qa7z {c x y:Opd}{c':Operand}(hm:o.op=.pick c' x' y')(hc:mO c c'=true)(hx:mO x x'=true)(hy:mO y y'=true)
  (hs:Sat H g w) (he:EnvOk w g e a) (hp:p=true) (ho:(FOp.pick c x y).obl p e H):FOk P H g w e a o (.pick c x y):=by
 simp only[FOp.obl]at ho;obtain⟨h1,h2⟩:=ho;have hr:=Cz he hc hp h1
 cases hv:c.v e with
 |c z=>
  cases z with
  |bool t=>
   rw[hv]at hr h2;simp only at h2;have hb:a.eval c'=.bool t:=hr.aN.bA;refine .mk' hs (v:=if t then a.eval x' else a.eval y') (by simp[execOp,hm,hb,asBool]) ?_ trivial;simp only[FOp.val,hv];have gen:∀(u v:V) (s r:Value),(t=true->RepV w g u s)->(t=false->RepV w g v r)->RepV w g (Gx t u v) (if t then s else r):=by
    intro u v s r hu hv;unfold Gx;split
    ·cases t
     ·simpa using hv rfl
     ·simpa using hu rfl
    ·cases t
     ·simpa using hv rfl
     ·simpa using hu rfl
   refine gen _ _ _ _ (λht=>?_) (λht=>?_)
   ·exact Cz he hx (p:=p&&t) (by simp[hp,ht]) h2.1
   ·exact Cz he hy (p:=p&&!t) (by simp[hp,ht]) h2.2
  |_=>rw[hv]at h2;exact h2.elim
 |_=>rw[hv]at h2;exact h2.elim
theorem II {k:IntKind}{n:Int}(h:inR k n):k.wrap n=n:=by
 unfold inR at h;cases k <;> simp[IntKind.min,IntKind.max,IntKind.signed,IntKind.bits]at h <;> simp[IntKind.wrap,IntKind.signed,IntKind.bits] <;> omega
theorem Mu (s:List UInt8):(⟨s.toArray⟩:ByteArray).toList=s:=by
 rw[ByteArray.toList_eq]
theorem Ge (s:List UInt8):(⟨s.toArray⟩:ByteArray).size=s.length:=by simp[ByteArray.size]
theorem EY:LIM=549755813888:=rfl
theorem De (op:BinOp)(t:TypeId)(x y:Operand)(u v:Value)(h:∀cs ds,¬(u=.agg cs/\v=.agg ds))(h':¬(u=.nilIface/\v=.nilIface))(w:World) :
  (eqGuard op t x y u v).run P w=.ok () w:=by
 unfold eqGuard;cases op <;> simp <;> (cases u <;> cases v <;> simp_all)
theorem Qag4(h:P.underlying t=some .bool)(d:Nat)(x y:Bool)(w:World):(Op.equalIn (d+1) t (.bool x) (.bool y)).run P w=.ok (x == y) w:=by
 simp[Op.equalIn,C1 h]
theorem Qall {pe:TypeId}(h:P.underlying t=some (.pointer pe))(d:Nat)(x:Addr)(w:World):(Op.equalIn (d+1) t (.pointer (some x)) (.pointer none)).run P w=.ok false w:=by
 simp[Op.equalIn,C1 h]
theorem Qalk {pe:TypeId}(h:P.underlying t=some (.pointer pe))(d:Nat)(w:World):(Op.equalIn (d+1) t (.pointer none) (.pointer none)).run P w=.ok true w:=by
 simp[Op.equalIn,C1 h]
theorem Q1a(h:P.underlying t=some .bool)(x y:Bool)(w:World):(Op.equal t (.bool x) (.bool y)).run P w=.ok (x == y) w:=Qag4 h 9999 x y w
theorem Q6q {pe:TypeId}(h:P.underlying t=some (.pointer pe))(x:Addr)(w:World):(Op.equal t (.pointer (some x)) (.pointer none)).run P w=.ok false w:=Qall h 9999 x w
theorem Q6p {pe:TypeId}(h:P.underlying t=some (.pointer pe))(w:World):(Op.equal t (.pointer none) (.pointer none)).run P w=.ok true w:=Qalk h 9999 w
theorem Qa80{bo:BinOp}{x y:Opd}{t':TypeId}(hm:o.op=.binOp bo t x' y' t')(ht:mTag P tag t=true)(hx:mO x x'=true)(hy:mO y y'=true)
  (hs:Sat H g w) (he:EnvOk w g e a) (hp:p=true) (ho:(FOp.bin tag bo x y).obl p e H):FOk P H g w e a o (.bin tag bo x y):=by
 simp only[FOp.obl]at ho;obtain⟨h1,h2,h3,h4,h5⟩:=ho;have ge:=Cz he hx hp h1;have jV:=Cz he hy hp h2;rw[Dh h3]at ge;rw[Dh h4]at jV;have i6:=ge.aN;have ie:=jV.aN;have key:∀(u v:Value) (c d:C),RepC w g c u->RepC w g d v->binO tag bo c d->
   ∃r,(do eqGuard bo t x' y' u v;binOp bo t u v:Sem Value).run P w=.ok r w/\RepC w g (binC bo c d) r:=by
  intro u v c d hu hv hO;unfold binO at hO;split at hO
  case h_1=>
   obtain⟨rfl,hr⟩:=hO;rw[hu.aH,hv.aH];exact⟨_,by simp[De,binOp,Op.intArith];try rfl,by rw[II hr];exact .int _ _⟩
  case h_2=>
   obtain⟨rfl,hr⟩:=hO;rw[hu.aH,hv.aH];exact⟨_,by simp[De,binOp,Op.intArith];try rfl,by rw[II hr];exact .int _ _⟩
  case h_3=>
   obtain⟨rfl,hr⟩:=hO;rw[hu.aH,hv.aH];exact⟨_,by simp[De,binOp,Op.intArith];try rfl,by rw[II hr];exact .int _ _⟩
  case h_4=>
   obtain⟨rfl,h0,hr⟩:=hO;rw[hu.aH,hv.aH];exact⟨_,by simp[De,binOp,Op.intDiv,h0];try rfl,by rw[II hr];exact .int _ _⟩
  case h_5=>
   obtain⟨rfl,h0⟩:=hO;rw[hu.aH,hv.aH];exact⟨_,by simp[De,binOp,Op.intDiv,h0];try rfl,.int _ _⟩
  case h_6=>
   subst hO;rw[hu.aH,hv.aH];exact⟨_,by simp[De,binOp,Op.intBits];try rfl,.int _ _⟩
  case h_7=>
   subst hO;rw[hu.aH,hv.aH];exact⟨_,by simp[De,binOp,Op.intBits];try rfl,.int _ _⟩
  case h_8=>
   subst hO;rw[hu.aH,hv.aH];exact⟨_,by simp[De,binOp,Op.intBits];try rfl,.int _ _⟩
  case h_9=>
   subst hO;rw[hu.aH,hv.aH];exact⟨_,by simp[De,binOp,Op.intCmp];try rfl,.bool _⟩
  case h_10=>
   subst hO;rw[hu.aH,hv.aH];refine⟨.bool (!decide (_=_)),?_,.bool _⟩;simp[De,binOp,Op.intCmp,bne];rfl
  case h_11=>
   subst hO;rw[hu.aH,hv.aH];exact⟨_,by simp[De,binOp,Op.intCmp];try rfl,.bool _⟩
  case h_12=>
   subst hO;rw[hu.aH,hv.aH];exact⟨_,by simp[De,binOp,Op.intCmp];try rfl,.bool _⟩
  case h_13=>
   subst hO;rw[hu.aH,hv.aH];exact⟨_,by simp[De,binOp,Op.intCmp];try rfl,.bool _⟩
  case h_14=>
   subst hO;rw[hu.aH,hv.aH];exact⟨_,by simp[De,binOp,Op.intCmp];try rfl,.bool _⟩
  case h_15=>
   subst hO;rw[hu.bA,hv.bA];have hb:P.underlying t=some .bool:=by
    simp only[mTag]at ht;split at ht <;> simp_all
   exact⟨_,by simp only[Sem.run_bind,De _ _ _ _ (.bool _) (.bool _) ZC ZC,Result.andThen_ok,binOp,Q1a hb];rfl,.bool _⟩
  case h_16=>
   subst hO;rw[hu.bA,hv.bA];have hb:P.underlying t=some .bool:=by
    simp only[mTag]at ht;split at ht <;> simp_all
   exact⟨_,by simp only[Sem.run_bind,De _ _ _ _ (.bool _) (.bool _) ZC ZC,Result.andThen_ok,binOp,Q1a hb];rfl,.bool _⟩
  case h_17=>
   rename_i s s'
   rw[hu.str_inv.1,hv.str_inv.1];rw[EY]at hO;refine⟨.string (⟨s.toArray⟩++⟨s'.toArray⟩),?_,?_⟩
   ·simp only[Sem.run_bind,De _ _ _ _ (.string _) (.string _) ZC ZC,Result.andThen_ok,binOp,Op.stringOp,Ge];rw[if_neg (by simp[IntKind.max,IntKind.signed,IntKind.bits];omega)];rfl
   ·have:(⟨s.toArray⟩++⟨s'.toArray⟩:ByteArray)=⟨(s++s').toArray⟩:=by
     apply Jba;simp
    rw[this];exact .str _ (by simp[EY];omega)
  case h_18=>
   rw[hu.str_inv.1,hv.str_inv.1];refine⟨_,by simp only[Sem.run_bind,De _ _ _ _ (.string _) (.string _) ZC ZC,Result.andThen_ok,binOp,Op.stringOp,Mu];rfl,?_⟩
   rename_i s s'
   rw[show (s == s')=decide (s=s') from by rw[Jbl];simp];exact .bool _
  case h_19=>
   rw[hu.str_inv.1,hv.str_inv.1];refine⟨_,by simp only[Sem.run_bind,De _ _ _ _ (.string _) (.string _) ZC ZC,Result.andThen_ok,binOp,Op.stringOp,Mu];rfl,?_⟩
   rename_i s s'
   rw[show (s == s')=decide (s=s') from by rw[Jbl];simp];exact .bool _
  case h_20=>
   obtain⟨rfl,hO⟩:=hO;rw[hv.pnil_inv];obtain⟨pe,hb⟩:∃pe,P.underlying t=some (.pointer pe):=by
    simp only[mTag]at ht;split at ht <;> simp_all
   rcases hO with hO|rfl
   ·obtain⟨b,of,rfl⟩:=hu.ptr_inv hO;refine⟨_,by simp only[Sem.run_bind,De _ _ _ _ (.pointer _) (.pointer _) ZC ZC,Result.andThen_ok,binOp,Q6q hb];rfl,?_⟩;cases c <;> simp[C.isPtr]at hO <;> exact .bool _
   ·rw[hu.pnil_inv];exact⟨_,by simp only[Sem.run_bind,De _ _ _ _ (.pointer _) (.pointer _) ZC ZC,Result.andThen_ok,binOp,Q6p hb];rfl,.bool _⟩
  case h_21=>
   obtain⟨rfl,hO⟩:=hO;rw[hv.pnil_inv];obtain⟨pe,hb⟩:∃pe,P.underlying t=some (.pointer pe):=by
    simp only[mTag]at ht;split at ht <;> simp_all
   rcases hO with hO|rfl
   ·obtain⟨b,of,rfl⟩:=hu.ptr_inv hO;refine⟨_,by simp only[Sem.run_bind,De _ _ _ _ (.pointer _) (.pointer _) ZC ZC,Result.andThen_ok,binOp,Q6q hb];rfl,?_⟩;cases c <;> simp[C.isPtr]at hO <;> exact .bool _
   ·rw[hu.pnil_inv];exact⟨_,by simp only[Sem.run_bind,De _ _ _ _ (.pointer _) (.pointer _) ZC ZC,Result.andThen_ok,binOp,Q6p hb];rfl,.bool _⟩
  case h_22=>exact hO.elim
 obtain⟨r,cN,eE⟩:=key _ _ _ _ i6 ie h5;refine .mk' hs (v:=r) ?_ ?_ trivial
 ·simp only[execOp,hm,Sem.run_bind]at cN⊢;simp only[cN];rfl
 ·exact .c _ _ eE
theorem Qa9i {x:Opd}(hm:o.op=.unOp .not t x')(hx:mO x x'=true)(hs:Sat H g w)(he:EnvOk w g e a)(hp:p=true)
  (ho:(FOp.not x).obl p e H):FOk P H g w e a o (.not x):=by
 simp only[FOp.obl]at ho;obtain⟨h1,h2⟩:=ho;have hr:=Cz he hx hp h1;split at h2
 ·rename_i b hv
  rw[hv]at hr;have hb:=hr.aN.bA;refine .mk' hs (v:=.bool (!b)) (by simp[execOp,hm,hb,Op.unary]) ?_ trivial;simp only[FOp.val,hv];exact .c _ _ (.bool _)
 ·exact h2.elim
theorem LT {α:Type}(l:List α)(i j:Nat):(l.drop i)[j]? = l[i+j]?:=by simp[Js]
theorem Qa86 {off:Nat}{x:Opd}{s:TypeId}{k:Nat}{fs:Array Field}{f:Field}{i:TypeInfo}(hm:o.op=.fieldAddr s x' k)(hu:P.underlying s=some (.struct fs))
  (hf:fs[k]? = some f) (oF:f.offset=off) (hi:P.info? f.type=some i) (hz:i.size≠0) (hx:mO x x'=true)
  (hs:Sat H g w) (he:EnvOk w g e a) (hp:p=true) (ho:(FOp.fad off x).obl p e H):FOk P H g w e a o (.fad off x):=by
 simp only[FOp.obl]at ho;obtain⟨h1,h2⟩:=ho;have hr:=Cz he hx hp h1;have run:∀b q,a.eval x'=.pointer (some ⟨b,q,none⟩)->(execOp a.eval o).run P w=.ok (.value (.pointer (some ⟨b,q+off,none⟩))) w:=by
  intro b q hq;simp[execOp,hm,hq,Instr.fieldAt,C1 hu,hf,Instr.sureAddr,fieldPlace,Dm hi,hz,Ez,oF]
 generalize hq:a.eval x'=vv at hr;split at h2
 ·rename_i cells hv
  rw[hv]at hr
  cases hr.aN with
  |pp _ b q val du hc jE=>
   refine .mk' hs (run b q hq) ?_ trivial;simp only[FOp.val,hv,V.c1,fadC];refine .c _ _ (.pp _ b (q+off) (λj=>val (off+j)) du (λj c hj=>?_) (λj c hj=>?_))
   ·rw[LT]at hj;rw[Jau];exact hc _ _ hj
   ·rw[LT]at hj;exact jE _ _ hj
 ·rename_i l kk hv
  rw[hv]at hr
  cases hr.aN with
  |ptr _ _ b sz base bK=>
   refine .mk' hs (run b _ hq) ?_ trivial;simp only[FOp.val,hv,V.c1,fadC];rw[Jau];exact .c _ _ (.ptr _ _ b sz base bK)
 ·rename_i sl sz ii kk hv
  rw[hv]at hr
  cases hr.aN with
  |ep _ _ _ _ b q n cap dd dt bT=>
   refine .mk' hs (run b _ hq) ?_ trivial;simp only[FOp.val,hv,V.c1,fadC];rw[Jau];exact .c _ _ (.ep _ _ _ _ b q n cap dd dt bT)
 ·exact h2.elim
theorem Ve {v:V}(h:DX v):v=.c (.int .i64 (Ct v)):=by
 unfold DX at h;split at h
 ·subst h;rfl
 ·exact h.elim
theorem Vd {v:V}(h:FL v):∃k,v=.c (.int k (Ct v)):=by
 unfold FL at h;split at h
 ·exact⟨_,rfl⟩
 ·exact h.elim
theorem E8 {x:Opd}(he:EnvOk w g e a)(h:mO x y=true)(hp:p=true)(hf:x.fine p e)(hi:DX (x.v e)) :
  a.eval y=.int .i64 (Ct (x.v e)):=by
 have hr:=Cz he h hp hf;rw[Ve hi]at hr;exact hr.aN.aH
theorem Qa89 {sz:Nat}{x y:Opd}{i:TypeInfo}(hm:o.op=.indexAddr t x' y')(hu:P.underlying t=some (.slice el))
  (hi:P.info? el=some i) (hz:i.size=sz) (hx:mO x x'=true) (hy:mO y y'=true)
  (hs:Sat H g w) (he:EnvOk w g e a) (hp:p=true) (ho:(FOp.iad sz x y).obl p e H):FOk P H g w e a o (.iad sz x y):=by
 simp only[FOp.obl]at ho;obtain⟨h1,h2,h3,h4,h5,h6,h7,h8⟩:=ho;have hr:=Cz he hx hp h1;have hn:=E8 he hy hp h2 h6;rw[Dh h3]at hr;obtain⟨b0,cap,hv,r1,r2,r3,r4⟩:=GP hs hr.aN h4;obtain⟨b,off,rfl,r5⟩:=r4 ZA;refine .mk' hs (v:=.pointer (some ⟨b,off+(Ct (y.v e)).toNat * sz+0,none⟩)) ?_ ?_ trivial
 ·simp only[execOp,hm,hv,hn,Instr.indexAt,Sem.run_bind,asIntOf,Sem.run_pure,Result.andThen_ok,C1 hu];rw[if_pos ⟨h7,ZA⟩];simp[Dm hi,hz,Ez]
 ·simp only[FOp.val];refine .c _ _ (.ep _ _ _ _ b off (ay (x.v e).c1) cap ?_ h5 h8);rw[<-hv];exact hr.aN
theorem MJ (f:Nat->Value)(n j:Nat)(u:Value)(h:(((List.range n).map f))[j]? = some u):j<n/\u=f j:=by
 simp only[Jn]at h
 cases hj:(List.range n)[j]? with
 |none=>rw[hj]at h;simp at h
 |some m=>
  rw[hj]at h;rw[Jac]at hj;obtain⟨h1,h2⟩:=hj;simp only[List.getElem_range]at h2;subst h2;simp only[Jbg]at h1;simp at h;exact⟨h1,h.symm⟩
theorem K7 {cs:List C}(h:am cs=true){j:Nat}{c:C}(hj:cs[j]? = some c):c.ai=false:=by
 unfold am at h;rw[Jav]at h;have:=h c (Jh hj);simpa using this
theorem Mf {n:Nat}{x:Opd}{d:TypeDesc}{i:TypeInfo}(hm:o.op=.load t x')(hu:P.underlying t=some d)(hi:P.info? t=some i)
  (ha:Ed d=agg) (hn:agg=true->i.size=n) (dg:agg=false->n=1) (hx:mO x x'=true)
  (hs:Sat H g w) (he:EnvOk w g e a) (hp:p=true) (ho:(FOp.ld n agg x).obl p e H):∃v,(execOp a.eval o).run P w=.ok (.value v) w/\RepV w g ((FOp.ld n agg x).val e H) v:=by
 simp only[FOp.obl]at ho;obtain⟨h1,h2,h3,h4,h5⟩:=ho;have hr:=Cz he hx hp h1;rw[Dh h2]at hr;obtain⟨b,q,hv,hc⟩:=Ob hs hr.aN h3;have cj:∀j,j<n->∃c,(Et H (x.v e).c1)[j]? = some c/\w.cell? ⟨b,q+j,none⟩=some (getV w b q j)/\RepC w g c (getV w b q j):=by
  intro j hj;have bE:j<(Et H (x.v e).c1).length:=ZA
  have hg:(Et H (x.v e).c1)[j]? = some (Et H (x.v e).c1)[j]:=Jd bE;have hw:((Et H (x.v e).c1)[j]).ai=false:=K7 h5 (j:=j) (by rw[Jp,if_pos hj];exact hg);obtain⟨u,e1,e2⟩:=hc j _ hg hw;refine⟨_,hg,?_,?_⟩
  ·rw[getV,e1];rfl
  ·rw[getV,e1];exact e2
 have cH:=Q7i (t:=t) hu hi w b q n (getV w b q) (λh=>hn (ha▸h)) (λh=>dg (ha▸h)) (λj hj=>(cj j hj).choose_spec.2.1);refine⟨if Ed d then .agg ((List.range n).map (getV w b q)).toArray else getV w b q 0,?_,?_⟩
 ·simp only[execOp,hm,hv,Instr.loadAt,Instr.sureAddr,Sem.run_bind,Sem.run_pure,Result.andThen_ok,cH]
 ·simp only[FOp.val,Em];rw[ha]
  cases agg with
  |true=>
   simp only[if_true];refine .ag _ _ ZF λj c u hj jk=>?_;obtain⟨lL,rfl⟩:=MJ _ _ _ _ jk;obtain⟨c',e1,e2,e3⟩:=cj j lL;rw[Jp,if_pos lL,e1]at hj;simp at hj;subst hj;exact e3
  |false=>
   have yO:=dg rfl;subst yO;obtain⟨c',e1,e2,e3⟩:=cj 0 ZA;simp only[Jr,if_false];have:((Et H (x.v e).c1).take 1).headD .unk=c':=by
    cases hb:Et H (x.v e).c1 with
    |nil=>rw[hb]at e1;simp at e1
    |cons c r=>rw[hb]at e1;simp at e1;simp[e1]
   rw[this];exact .c _ _ e3
theorem s_ld {n:Nat}{x:Opd}{d:TypeDesc}{i:TypeInfo}(hm:o.op=.load t x')(hu:P.underlying t=some d)(hi:P.info? t=some i)
  (ha:Ed d=agg) (hn:agg=true->i.size=n) (dg:agg=false->n=1) (hx:mO x x'=true)
  (hs:Sat H g w) (he:EnvOk w g e a) (hp:p=true) (ho:(FOp.ld n agg x).obl p e H):FOk P H g w e a o (.ld n agg x):=by
 obtain⟨v,h1,h2⟩:=Mf hm hu hi ha hn dg hx hs he hp ho;exact .mk' hs h1 h2 trivial
theorem Qa9h {x:Opd}(hm:o.op=.nilCheck x')(hx:mO x x'=true)
  (hs:Sat H g w) (he:EnvOk w g e a) (hp:p=true) (ho:(FOp.nck x).obl p e H):FOk P H g w e a o (.nck x):=by
 simp only[FOp.obl]at ho;obtain⟨h1,h2⟩:=ho;have hr:=Cz he hx hp h1;have rt:(x.v e).isC->(x.v e).c1.isPtr=true->FOk P H g w e a o (.nck x):=by
  intro hc hq;have bd:=hr;rw[Dh hc]at bd;obtain⟨b,q,hv⟩:=bd.aN.ptr_inv hq;exact .mk' hs (v:=a.eval x') (by simp[execOp,hm,hv]) hr trivial
 split at h2
 ·rename_i hv;exact rt (by rw[hv];trivial) (by rw[hv];rfl)
 ·rename_i hv;exact rt (by rw[hv];trivial) (by rw[hv];rfl)
 ·rename_i hv;exact rt (by rw[hv];trivial) (by rw[hv];rfl)
 ·rename_i hv
  have bd:=hr;rw[hv]at bd;obtain⟨vs,hq,_⟩:=bd.aN.fn_inv;exact .mk' hs (v:=a.eval x') (by simp[execOp,hm,hq]) hr trivial
 ·exact h2.elim
theorem Qa9e {x:Opd}(hm:o.op=.call { callee:=.builtin .len,args:=#[x'],argTypes:=ats })(bu:ats[0]? = some t)
  (hu:P.underlying t=some (.slice el)) (hx:mO x x'=true)
  (hs:Sat H g w) (he:EnvOk w g e a) (hp:p=true) (ho:(FOp.len x).obl p e H):FOk P H g w e a o (.len x):=by
 simp only[FOp.obl]at ho;obtain⟨h1,h2,h3⟩:=ho;have hr:=Cz he hx hp h1;rw[Dh h2]at hr;obtain⟨b0,cap,hv,r1,r2,r3,r4⟩:=GP hs hr.aN h3;refine .mk' hs (v:=.int .i64 (ay (x.v e).c1)) ?_ (.c _ _ (.int _ _)) r1;simp[execOp,hm,resolve,invoke,builtin,Builtin.len_,bu,hv,C1 hu,goInt]
theorem s_lenx {x:Opd}(hm:o.op=.call { callee:=.builtin .len,args:=#[x'],argTypes:=ats })(bu:ats[0]? = some t)
  (hu:P.underlying t=some (.slice el)) (hx:mO x x'=true)
  (hs:Sat H g w) (he:EnvOk w g e a) (hp:p=true) (ho:(FOp.lenx x).obl p e H):FOk P H g w e a o (.lenx x):=by
 simp only[FOp.obl]at ho;obtain⟨h1,h2,h3⟩:=ho;have hr:=Cz he hx hp h1;rw[Dh h2]at hr;have key:∃(b0:Option Addr) (cap:Nat),a.eval x'=.slice b0 (lenX (x.v e).c1) cap/\lenX (x.v e).c1<2 ^ 63:=by
  rcases h3 with h3|h3
  ·obtain⟨b0,cap,hv,r1,r2,r3,r4⟩:=GP hs hr.aN h3;have:lenX (x.v e).c1=ay (x.v e).c1:=by
    generalize (x.v e).c1=c at h3;cases c <;> first|rfl|simp[aZ]at h3
   rw[this];exact⟨b0,cap,hv,by rw[EY]at r1;omega⟩
  ·have dB:=hr.aN;generalize (x.v e).c1=c at h3 dB⊢;generalize a.eval x'=xv at dB⊢
   cases dB with
   |slb n a0 cap h=>exact⟨_,_,rfl,h⟩
   |_=>simp[Oz]at h3
 obtain⟨b0,cap,hv,hl⟩:=key;refine .mk' hs (v:=.int .i64 (lenX (x.v e).c1)) ?_ (.c _ _ (.int _ _)) hl;simp[execOp,hm,resolve,invoke,builtin,Builtin.len_,bu,hv,C1 hu,goInt]
theorem Qa7x {x:Opd}(hm:o.op=.call { callee:=.builtin .len,args:=#[x'],argTypes:=ats })(bu:ats[0]? = some t)
  (hu:P.underlying t=some .string) (hx:mO x x'=true)
  (hs:Sat H g w) (he:EnvOk w g e a) (hp:p=true) (ho:(FOp.lens x).obl p e H):FOk P H g w e a o (.lens x):=by
 simp only[FOp.obl]at ho;obtain⟨h1,h2⟩:=ho;have hr:=Cz he hx hp h1;split at h2
 ·rename_i s hv
  rw[hv]at hr;obtain⟨hq,hl⟩:=hr.aN.str_inv;refine .mk' hs (v:=.int .i64 s.length) ?_ ZY (by simp only[FOp.fct,hv];exact hl);simp[execOp,hm,resolve,invoke,builtin,Builtin.len_,bu,hq,C1 hu,goInt,Ge]
 ·exact h2.elim
theorem s_lensx {x:Opd}(hm:o.op=.call { callee:=.builtin .len,args:=#[x'],argTypes:=ats })(bu:ats[0]? = some t)
  (hu:P.underlying t=some .string) (hx:mO x x'=true)
  (hs:Sat H g w) (he:EnvOk w g e a) (hp:p=true) (ho:(FOp.lensx x).obl p e H):FOk P H g w e a o (.lensx x):=by
 simp only[FOp.obl]at ho;obtain⟨h1,h2⟩:=ho;have hr:=Cz he hx hp h1;split at h2
 ·rename_i s hv
  rw[hv]at hr;obtain⟨hq,hl⟩:=hr.aN.str_inv;refine .mk' hs (v:=.int .i64 s.length) ?_ ZY (by simp only[FOp.fct,hv];exact hl);simp[execOp,hm,resolve,invoke,builtin,Builtin.len_,bu,hq,C1 hu,goInt,Ge]
 ·rename_i n hv
  rw[hv]at hr;have dB:=hr.aN;generalize hq:a.eval x'=xv at dB
  cases dB with
  |stb s h=>
   refine .mk' hs (v:=.int .i64 s.size) ?_ ZY (by simp only[FOp.fct,hv];exact h);simp[execOp,hm,resolve,invoke,builtin,Builtin.len_,bu,hq,C1 hu,goInt]
 ·exact h2.elim
theorem Hi{ks:List C}{rows:List (List C)}{v:Value}(h:RepC w g (.cm agg ks rows) v):∃b ms clock,v=.map (some b)/\w.heap[b]? = some (.map ms clock)/\ms.size=(CI H (.cm agg ks rows)).length/\(CI H (.cm agg ks rows)).length<=LIM/\
   (∀(i:Nat) (x:C×V) (m:MapEntry),(CI H (.cm agg ks rows))[i]? = some x->ms[i]? = some m->RepE w g x m)/\
   (∀(i j:Nat) (m m':MapEntry),ms[i]? = some m->ms[j]? = some m'->(m.born=m'.born\/m.key=m'.key)->i=j):=by
 cases h with
 |cm _ _ _ b ms clock val hp hb br cF hl hd hm hk hv=>
  have ak:(CI H (.cm agg ks rows)).length=ks.length:=by simp[CI];omega
  refine⟨b,ms,clock,rfl,hb,by rw[ak];exact br,by rw[ak];exact hl,λi x m h1 h2=>?_,hd⟩;simp only[CI,Jn]at h1;obtain⟨e,he,rfl⟩:=Option.map_eq_some_iff.1 h1;obtain⟨e1,e2⟩:=Jao.1 he;refine⟨hk i _ m e1 h2,?_⟩;obtain⟨k1,k2⟩:=hm i _ m e2 h2;obtain⟨ec,er⟩:=e;simp only at e1 e2 k1 k2⊢
  cases agg with
  |true=>
   simp only[if_true]at k1;rw[k1];refine .ag _ _ ZC λj c u h3 h4=>?_;obtain⟨_,rfl⟩:=MJ _ _ _ _ h4;exact hv i _ j c e2 h3
  |false=>
   have p9:=k2 rfl
   match er,p9 with
   |[c],_=>
    simp only[Jr,if_false]at k1;rw[k1];exact .c _ _ (hv i _ 0 c e2 rfl)
theorem map_rep (hs:Sat H g w){c:C}{v:Value}(h:RepC w g c v)(ho:DD H c) :
  (v=.map none/\CI H c=[])\/∃b ms clock,v=.map (some b)/\w.heap[b]? = some (.map ms clock)/\ms.size=(CI H c).length/\(CI H c).length<=LIM/\
   ∀(i:Nat) (x:C×V) (m:MapEntry),(CI H c)[i]? = some x->ms[i]? = some m->RepE w g x m:=by
 have h0:=h
 cases h with
 |mp l b bK=>
  simp only[DD]at ho;split at ho
  ·rename_i n es hH
   have bf:=hs.objs l;rw[hH]at bf;obtain⟨b',ms,clock,k1,k2,k3,k4,k5,k6,_⟩:=bf;rw[bK]at k1;simp only[Jb,Jo,and_true]at k1;subst k1;simp only[CI,hH];exact .inr ⟨b,ms,clock,rfl,k3,k4,k5,k6⟩
  ·exact ho.elim
 |mnil=>exact .inl ⟨rfl,rfl⟩
 |cm=>
  obtain⟨b,ms,clock,q1,q2,q3,q4,q5,_⟩:=Hi (H:=H) h0;exact .inr ⟨b,ms,clock,q1,q2,q3,q4,q5⟩
 |_=>simp[DD]at ho
theorem Qa85 {x:Opd}{i:Nat}(hm:o.op=.extract x' i)(hx:mO x x'=true)
  (hs:Sat H g w) (he:EnvOk w g e a) (hp:p=true) (ho:(FOp.ext x i).obl p e H):FOk P H g w e a o (.ext x i):=by
 simp only[FOp.obl]at ho;obtain⟨h1,h2⟩:=ho;have hr:=Cz he hx hp h1;split at h2
 ·rename_i xs hv
  rw[hv]at hr;obtain⟨vs,hq,hl,hh⟩:=hr.tup_inv;have hi:i<vs.length:=ZA
  refine .mk' hs (v:=vs[i]) ?_ ?_ trivial
  ·simp[execOp,hm,Instr.extract,hq,hi]
  ·simp only[FOp.val,hv];refine hh i _ _ ?_ (Jd hi);rw[J1,Jd h2];rfl
 ·exact h2.elim
theorem Qa84 {x:Opd}{k:IntKind}{src dst:TypeId}{d:TypeDesc}(hm:o.op=.convert src dst x')(hu:P.underlying dst=some (.int k))(jk:P.underlying src=some d)(hx:mO x x'=true)
  (hs:Sat H g w) (he:EnvOk w g e a) (hp:p=true) (ho:(FOp.cvt k x).obl p e H):FOk P H g w e a o (.cvt k x):=by
 simp only[FOp.obl]at ho;obtain⟨h1,h2,h3⟩:=ho;have hr:=Cz he hx hp h1;obtain⟨k',hk⟩:=Vd h2;rw[hk]at hr;have hq:=hr.aN.aH;refine .mk' hs (v:=.int k (Ct (x.v e))) ?_ (.c _ _ (.int _ _)) trivial;simp[execOp,hm,hq,convert,C1 hu,C1 jk,Conv.intToInt,II h3]
theorem s_mx {x y:Opd}(hm:o.op=.call { callee:=.builtin .max,args:=#[x',y'],argTypes:=ats })(hx:mO x x'=true)(hy:mO y y'=true)
  (hs:Sat H g w) (he:EnvOk w g e a) (hp:p=true) (ho:(FOp.mx x y).obl p e H):FOk P H g w e a o (.mx x y):=by
 simp only[FOp.obl]at ho;obtain⟨h1,h2,h3,h4⟩:=ho;have q1:=E8 he hx hp h1 h3;have q2:=E8 he hy hp h2 h4;refine .mk' hs (v:=.int .i64 (if Ct (y.v e) > Ct (x.v e)then Ct (y.v e)else Ct (x.v e))) ?_ (.c _ _ (.int _ _)) trivial;simp[execOp,hm,resolve,invoke,builtin,Builtin.max_,q1,q2,Builtin.max2]
theorem s_mn {x y:Opd}(hm:o.op=.call { callee:=.builtin .min,args:=#[x',y'],argTypes:=ats })(hx:mO x x'=true)(hy:mO y y'=true)
  (hs:Sat H g w) (he:EnvOk w g e a) (hp:p=true) (ho:(FOp.mn x y).obl p e H):FOk P H g w e a o (.mn x y):=by
 simp only[FOp.obl]at ho;obtain⟨h1,h2,h3,h4⟩:=ho;have q1:=E8 he hx hp h1 h3;have q2:=E8 he hy hp h2 h4;refine .mk' hs (v:=.int .i64 (if Ct (y.v e)<Ct (x.v e)then Ct (y.v e)else Ct (x.v e))) ?_ (.c _ _ (.int _ _)) trivial;simp[execOp,hm,resolve,invoke,builtin,Builtin.min_,q1,q2,Builtin.min2]
theorem Qa9b {x y:Opd}(hm:o.op=.index t x' y')(hu:P.underlying t=some .string)(hx:mO x x'=true)(hy:mO y y'=true)
  (hs:Sat H g w) (he:EnvOk w g e a) (hp:p=true) (ho:(FOp.idx x y).obl p e H):FOk P H g w e a o (.idx x y):=by
 simp only[FOp.obl]at ho;obtain⟨h1,h2,h3,h4⟩:=ho;have hr:=Cz he hx hp h1;have q2:=E8 he hy hp h2 h3;split at h4
 ·rename_i s hv
  rw[hv]at hr;obtain⟨hq,hl⟩:=hr.aN.str_inv;refine .mk' hs (v:=.int .u8 ((s.getD (Ct (y.v e)).toNat 0).toNat)) ?_ ZY trivial;have hb:(⟨s.toArray⟩:ByteArray)[(Ct (y.v e)).toNat]? = some (s.getD (Ct (y.v e)).toNat 0):=by
   rw[getElem?_pos _ _ (by simpa[ByteArray.size]using h4.2)];rw[J1,Jd h4.2];rfl
  simp only[execOp,hm,hq,q2,Instr.index,Sem.run_bind,asIntOf,Sem.run_pure,Result.andThen_ok,C1 hu,if_pos h4.1,hb]
 ·exact h4.elim
def E5 (g:G)(w:World)(g':G)(w':World)(l:Nat):Prop:=
 ∀b q,g.own b=some (l,q)->g'.own b=some (l,q)/\w'.heap[b]? = w.heap[b]?
theorem RepE.mono {g':G}{w':World}(aS:Le g w g' w'){x:C×V}{m:MapEntry}(h:RepE w g x m):RepE w' g' x m:=⟨h.1.mono aS,h.2.mono aS⟩
theorem SatObj.keep(hs:Sat H g w)(aS:Le g w g' w'){l:Nat}(hk:E5 g w g' w' l)(hH:H' l=H l)
  (oU:∀m v left cur,H l=.iter (some (m,v)) left cur->∀v' es,H' m=.map v' es->(H m=.map v' es/\E5 g w g' w' m)\/∃v0 es0,H m=.map v0 es0/\v0<v') :
  SatObj H' g' w' l (H' l):=by
 have ho:=hs.objs l;rw[hH]
 cases hc:H l with
 |none=>exact trivial
 |st cells=>
  rw[hc]at ho;obtain⟨b,sz,T,cs,h1,h2,h3,h4,h5⟩:=ho;have k0:=hk b [] h2;refine⟨b,sz,T,cs,aS.io _ _ h1,k0.1,k0.2.trans h3,h4,λk c v e1 e2=>?_⟩;exact (h5 k c v e1 e2).move aS λq b' hb=>hk b' _ hb
 |vec sz rows=>
  rw[hc]at ho;rcases ho with ⟨q1,x,q2,q3⟩|⟨b,base,T,cs,val,h1,h2,h3,h4,h5,h6,h7,h8⟩
  ·exact .inl ⟨q1,x,aS.io _ _ q2,q3⟩
  have k0:=hk b [] h2;refine .inr ⟨b,base,T,cs,val,aS.io _ _ h1,k0.1,k0.2.trans h3,h4,h5,h6,h7,λi row j c e1 e2=>?_⟩;exact (h8 i row j c e1 e2).move aS λq b' hb=>hk b' _ hb
 |map v es=>
  rw[hc]at ho;obtain⟨b,ms,clock,h1,h2,h3,h4,h5,h6,h7,h8⟩:=ho;have k0:=hk b [] h2;exact⟨b,ms,clock,aS.io _ _ h1,k0.1,k0.2.trans h3,h4,h5,λi x m e1 e2=>(h6 i x m e1 e2).mono aS,h7,h8⟩
 |gl b cells=>
  rw[hc]at ho;obtain⟨sz,val,h1,h2,h3,h4⟩:=ho;refine⟨sz,val,aS.io _ _ h1,(aS.per b h2).1,λj c e=>?_,λj c e=>(h4 j c e).mono aS⟩;rw[SB (w:=w) (aS.per b h2).2];exact h3 j c e
 |sit s q=>
  rw[hc]at ho;obtain⟨b,h1,h2,h3,h4⟩:=ho;have k0:=hk b [] h2;exact⟨b,aS.io _ _ h1,k0.1,k0.2.trans h3,h4⟩
 |iter m left cur=>
  rw[hc]at ho
  cases m with
  |none=>
   obtain⟨b,si,se,la,h1,h2,h3,h4⟩:=ho;have k0:=hk b [] h2;exact⟨b,si,se,la,aS.io _ _ h1,k0.1,k0.2.trans h3,h4⟩
  |some mv=>
   obtain⟨m,ver⟩:=mv;obtain⟨b,mb,si,se,h1,h2,h3,h4,h5⟩:=ho;have k0:=hk b [] h2;refine⟨b,mb,si,se,aS.io _ _ h1,k0.1,k0.2.trans h3,aS.io _ _ h4,λv es hv=>?_⟩;rcases oU m ver left cur hc v es hv with ⟨a1,a2⟩|⟨v0,es0,a1,a2⟩
   ·obtain⟨b1,b2⟩:=h5 v es a1;refine⟨b1,λjE=>?_⟩;obtain⟨ms,c1,c2⟩:=b2 jE;refine⟨ms,?_,c2⟩;have hm:=hs.objs m;rw[a1]at hm;obtain⟨mb',ms',clock,d1,d2,d3,_⟩:=hm;rw[h4]at d1;simp only[Jb,Jo,and_true]at d1;subst d1;rw[(a2 mb [] d2).2];exact c1
   ·obtain⟨b1,b2⟩:=h5 v0 es0 a1;exact⟨ZA,λjE=>ZA⟩
theorem SatObj.keep_all(hs:Sat H g w)(aS:Le g w g' w')(hk:∀l,E5 g w g' w' l)(l:Nat):SatObj H g' w' l (H l):=
 SatObj.keep (H':=H) hs aS (hk l) rfl λm v left cur _ v' es hv=>.inl ⟨hv,hk m⟩
theorem EN (hs:Sat H g w){b:Nat}{x:Nat×List Nat}(h:g.own b=some x):b<w.heap.size:=by
 rcases Jg b w.heap.size with h'|h'
 ·exact h'
 ·rw[(hs.fresh b h').2]at h;simp at h
theorem Hc (hs:Sat H g w){b:Nat}(h:g.per b=true):b<w.heap.size:=by
 rcases Jg b w.heap.size with h'|h'
 ·exact h'
 ·rw[(hs.fresh b h').1]at h;simp at h
theorem FH (w:World)(x:Go.Obj){b:Nat}(h:b<w.heap.size):(w.alloc x).heap[b]? = w.heap[b]?:=by
 simp only[World.alloc,J6];rw[if_neg ZA]
theorem EA (w:World)(x:Go.Obj):(w.alloc x).heap[w.heap.size]? = some x:=by
 simp only[World.alloc,J6,if_true]
theorem HE{b:Nat}{T:TypeId}{n:Nat}(h:w.shape? b=some (T,n)):b<w.heap.size:=by
 unfold World.shape? at h;rcases Jg b w.heap.size with h'|h'
 ·exact h'
 ·simp[Jj h']at h
theorem PJ{b:Nat}(h:w'.heap[b]? = w.heap[b]?):w'.shape? b=w.shape? b:=by simp only[World.shape?,h]
def G.newPer (g:G)(nb:Nat):G:={ g with per:=λb=>if b=nb then true else g.per b }
theorem Q0l (hs:Sat H g w)(x:Go.Obj):Stp H g w H (g.newPer w.heap.size) (w.alloc x):=by
 have aS:Le g w (g.newPer w.heap.size) (w.alloc x):=by
  refine⟨λb hb=>⟨?_,FH _ _ (Hc hs hb)⟩,λ_ _ h=>h,ZC,λb T n hn=>?_,rfl,rfl,rfl⟩
  ·simp only[G.newPer];split
   ·rfl
   ·exact hb
  ·rw[PJ (FH _ _ (HE hn))];exact hn
 have hk:∀l,E5 g w (g.newPer w.heap.size) (w.alloc x) l:=λl b q hb=>⟨hb,FH _ _ (EN hs hb)⟩;refine⟨aS,λl _ hn=>⟨hn,λb q hb=>hk l b q hb⟩,⟨λb hb=>?_,hs.names,λb y hb=>?_,hs.named,λl=>SatObj.keep_all hs aS hk l⟩⟩
 ·simp only[World.size_alloc]at hb;refine⟨?_,(hs.fresh b ZA).2⟩;simp only[G.newPer];rw[if_neg ZA];exact (hs.fresh b ZA).1
 ·have aW:g.own b=some y:=hb;simp only[G.newPer];have:=EN hs aW;rw[if_neg ZA];exact hs.excl b y aW
theorem La (hs:Sat H g w):Stp H g w H g w.drew:=by
 have aS:Le g w g w.drew:=⟨λ_ h=>⟨h,rfl⟩,λ_ _ h=>h,Jw _,λ_ _ _ h=>h,rfl,rfl,rfl⟩;have hk:∀l,E5 g w g w.drew l:=λl b q hb=>⟨hb,rfl⟩;exact⟨aS,λl _ hn=>⟨hn,λb q hb=>hk l b q hb⟩,⟨hs.fresh,hs.names,hs.excl,hs.named,λl=>SatObj.keep_all hs aS hk l⟩⟩
theorem Q6k (w:World)(cs:Array Value)(T:TypeId)(j:Nat):(w.alloc (.cells cs T)).cell? ⟨w.heap.size,j,none⟩=cs[j]?:=
 World.cell?_alloc_new w cs T j
theorem Q49 {v:V}(h:RepV w g v u)(hn:v.cells≠[]) :
  u.cells.size=v.cells.length/\∀(j:Nat) (c:C) (x:Value),v.cells[j]? = some c->u.cells[j]? = some x->RepC w g c x:=by
 cases h with
 |c x v h=>
  have h1:=h.one;have hu:u.cells=#[u]:=by cases u <;> simp_all[Value.cells,Value.oneCell']
  rw[hu];refine⟨rfl,λj c y e1 e2=>?_⟩
  cases j with
  |zero=>simp[V.cells]at e1 e2;subst e1;subst e2;exact h
  |succ j=>simp[V.cells]at e1
 |ag cs vs hl hh=>
  refine⟨by simpa[Value.cells,V.cells]using hl,λj c y e1 e2=>hh j c y e1 (by simpa[Value.cells]using e2)⟩
 |_=>simp[V.cells]at hn
theorem Qa82 {x:Opd}(hm:o.op=.box t x')(hx:mO x x'=true)
  (hs:Sat H g w) (he:EnvOk w g e a) (hp:p=true) (ho:(FOp.box x).obl p e H):FOk P H g w e a o (.box x):=by
 simp only[FOp.obl]at ho;obtain⟨h1,h2⟩:=ho;have hr:=Cz he hx hp h1;obtain⟨hz,hc⟩:=Q49 hr h2;have aI:=Q0l hs (.cells (a.eval x').cells t);refine⟨.pointer (some ⟨w.heap.size,0,none⟩),w.alloc (.cells (a.eval x').cells t),g.newPer w.heap.size,?_,aI,?_,trivial⟩
 ·simp[execOp,hm,Instr.box,newVar,newRow]
 ·simp only[FOp.val];have bC:∀(j:Nat) (c:C),(x.v e).cells[j]? = some c->∃y,(a.eval x').cells[j]? = some y/\RepC w g c y:=by
   intro j c hj;have af:j<(a.eval x').cells.size:=by
    rw[hz];rcases Jg j (x.v e).cells.length with h|h
    ·exact h
    ·rw[Jf h]at hj;simp at hj
   exact⟨_,Jc af,hc j c _ hj (Jc af)⟩
  refine .c _ _ (.pp _ _ 0 (λj=>(a.eval x').cells.getD j undef) (by simp[G.newPer]) (λj c hj=>?_) (λj c hj=>?_))
  ·obtain⟨y,e1,e2⟩:=bC j c hj;rw[J5,Q6k];simp[e1]
  ·obtain⟨y,e1,e2⟩:=bC j c hj;simp only[Je,e1,Jv];exact e2.mono aI.le
theorem Qa9g{caps:List Opd}{caps':Array Operand}(hm:o.op=.makeFunc (.func f) #[] caps')(hl:caps.length=caps'.size)
  (hx:∀(j:Nat) (x:Opd) (y:Operand),caps[j]? = some x->caps'[j]? = some y->mO x y=true)
  (hs:Sat H g w) (he:EnvOk w g e a) (hp:p=true) (ho:(FOp.mkf f caps).obl p e H):FOk P H g w e a o (.mkf f caps):=by
 simp only[FOp.obl]at ho;refine .mk' hs (v:=.func (.func f) #[] (caps'.toList.map a.eval).toArray) ?_ ?_ trivial
 ·simp only[execOp,hm,Instr.makeFunc,Sem.run_bind,Sem.run_pure,Result.andThen_ok];congr 4 <;> (apply Jae;simp)
 ·simp only[FOp.val];refine .c _ _ (.fn f _ _ Za3 λj c u h1 h2=>?_);simp only[Jn]at h1 h2
  cases hj:caps[j]? with
  |none=>rw[hj]at h1;simp at h1
  |some x=>
   rw[hj]at h1;simp at h1;subst h1
   cases bE:caps'[j]? with
   |none=>simp[bE]at h2
   |some y=>
    simp[bE]at h2;subst h2;obtain⟨f1,f2⟩:=ho x (Jh hj);have:=Cz he (hx j x y hj bE) hp f1;rw[Dh f2]at this;exact this.aN
def mOpt:Option Opd->Option Operand->Bool
 |none,none=>true
 |some x,some y=>mO x y
 |_,_=>false
theorem ON (he:EnvOk w g e a)(hp:p=true){x:Option Opd}{y:Option Operand}(h:mOpt x y=true)(hf:optF p x e)(hi:optI x e) :
  y.map a.eval=(x.map λz=>Ct (z.v e)).map λn=>Value.int .i64 n:=by
 cases x with
 |none=>cases y with
  |none=>rfl
  |some _=>simp[mOpt]at h
 |some x=>cases y with
  |none=>simp[mOpt]at h
  |some y=>
   simp only[mOpt]at h;simp only[optF]at hf;simp only[optI]at hi;simp only[Jq,E8 he h hp hf hi]
theorem Sv (isS:Bool)(len cap:Nat)(lo hi:Option Int)(wu:len<=cap)(hb:bnds lo hi len)(w:World) :
  (Instr.sliceBounds isS len cap (lo.map λn=>Value.int .i64 n) (hi.map λn=>Value.int .i64 n) none).run P w=.ok ((lo.getD 0).toNat,(hi.getD len).toNat,cap) w:=by
 obtain⟨b1,b2,b3⟩:=hb;unfold Instr.sliceBounds
 cases hi with
 |none=>
  cases lo with
  |none=>simp
  |some l=>
   simp only[Jv,Jy]at b1 b2 b3;simp only[Jq,J4,Sem.run_bind,Instr.sliceBound,asIntOf,Sem.run_pure,Result.andThen_ok];rw[if_pos ZA];simp
 |some h=>
  cases lo with
  |none=>
   simp only[Jv,Jy]at b1 b2 b3;simp only[Jq,J4,Sem.run_bind,Instr.sliceBound,asIntOf,Sem.run_pure,Result.andThen_ok];rw[if_pos ZA];simp
  |some l=>
   simp only[Jv]at b1 b2 b3;simp only[Jq,Sem.run_bind,Instr.sliceBound,asIntOf,Sem.run_pure,Result.andThen_ok];rw[if_pos ZA];simp only[Sem.run_pure,Result.andThen_ok];rw[if_pos ZA];simp
theorem Qa9j {x:Opd}{lo hi:Option Opd}{lo' bZ:Option Operand}{i:TypeInfo}{sz:Nat}(hm:o.op=.slice t x' lo' bZ none)(hu:P.underlying t=some (.slice el))
  (lN:P.info? el=some i) (hz:i.size=sz) (hx:mO x x'=true) (rL:mOpt lo lo'=true) (uZ:mOpt hi bZ=true)
  (hs:Sat H g w) (he:EnvOk w g e a) (hp:p=true) (ho:(FOp.sli sz x lo hi).obl p e H):FOk P H g w e a o (.sli sz x lo hi):=by
 simp only[FOp.obl]at ho;obtain⟨h1,h2,h3,h4,h5,h6,h7,h8,hb⟩:=ho;have hr:=Cz he hx hp h1;have el:=ON he hp rL h2 h4;have eh:=ON he hp uZ h3 h5;generalize hL:(lo.map λz=>Ct (z.v e))=L at *;generalize hU:(hi.map λz=>Ct (z.v e))=U at *;rw[Dh h6]at hr;generalize hq:a.eval x'=vv at hr;have run:∀(ad:Option Addr) (len cap:Nat),vv=.slice ad len cap->len<=cap->bnds L U len->
   (execOp a.eval o).run P w=.ok (.value (.slice (if cap=(L.getD 0).toNat then ad else ad.map (·.add ((L.getD 0).toNat * sz))) ((U.getD len).toNat-(L.getD 0).toNat) (cap-(L.getD 0).toNat))) w:=by
  intro ad len cap hv wu hbb;simp only[execOp,hm,hq,hv,Instr.sliceAt,Sem.run_bind,C1 hu,Result.andThen_ok,el,eh,J4,Instr.slice,Sv (P:=P) true len cap L U wu hbb w,Dm lN,hz,Sem.run_pure]
 have fin:∀r v,(execOp a.eval o).run P w=.ok (.value v) w->RepC w g r v->sliC L U (x.v e).c1=r->FOk P H g w e a o (.sli sz x lo hi):=by
  intro r v h1 h2 h3;refine .mk' hs h1 ?_ trivial;simp only[FOp.val,hL,hU,h3];exact .c _ _ h2
 generalize hc:(x.v e).c1=cc at *;have fR:=hr.aN
 cases fR with
 |ce fl sz' ad=>
  have aW:bnds L U 0:=hb;have cC:=aW;obtain⟨b1,b2,b3⟩:=cC;refine fin (sliC L U (.sl fl sz' [])) _ (run ad 0 0 rfl (Jw _) aW) ?_ rfl;have e1:(L.getD 0).toNat=0:=ZA
  have e2:(U.getD ((0:Nat):Int)).toNat=0:=ZA
  simp only[e1,e2,sliC];simp;exact .ce _ _ _
 |sl fl sz' rows b off cap val hl hf fE du de tg nO=>
  simp only[ay]at hb;simp only[C.aQ]at h8;subst h8;obtain⟨b1,b2,b3⟩:=hb;refine fin (sliC L U (.sl fl sz' rows)) _ (run _ _ cap rfl fE ⟨b1,b2,b3⟩) ?_ rfl;simp only[sliC];generalize nS:(L.getD 0).toNat=ln;generalize qS:(U.getD (rows.length:Int)).toNat=un;have q1:ln<=un:=ZA
  have q2:un<=rows.length:=ZA
  have ak:((rows.take un).drop ln).length=un-ln:=ZF
  have aD:∀(i:Nat) (row:List C),((rows.take un).drop ln)[i]? = some row->rows[ln+i]? = some row:=by
   intro i row hi;simp only[Js,Jp]at hi;split at hi
   ·exact hi
   ·simp at hi
  by_cases cL:cap=ln
  ·rw[if_pos cL];have mV:(rows.take un).drop ln=[]:=Jx.1 ZA;have q3:un-ln=0:=ZA
   have q4:cap-ln=0:=ZA
   rw[mV,q3,q4];exact RepC.sl _ _ [] b off 0 val (by simp[EY]) ZC ZC du ZC ZC ZC
  ·rw[if_neg cL];simp only[Jq,Ez];rw[<-ak];refine .sl _ _ _ b _ _ (λi j=>val (ln+i) j) ZU (λje=>?_) ZU du (λi row h=>de _ _ (aD i row h)) (λi row j c h hj=>?_) (λi row j c h hj=>nO _ _ _ _ (aD i row h) hj)
   ·rw[Ja]at je;rcases Bool.or_eq_true _ _▸je.2 with h0|h0
    ·have:U=none:=(by simpa using h0);subst this;simp at qS;rw[ak,hf je.1];omega
    ·have:rows=[]:=(by simpa using h0);subst this;have:=hf je.1;simp at this q2;omega
   ·have:=tg _ _ _ _ (aD i row h) hj;rw[<-this];congr 2;rw[Jl];omega
 |bO l sz' st ad=>
  have aW:bnds L U 0:=hb;have cC:=aW;obtain⟨b1,b2,b3⟩:=cC;refine fin (sliC L U (.ah l sz' st 0)) _ (run ad 0 0 rfl (Jw _) aW) ?_ rfl;have e1:(L.getD 0).toNat=0:=ZA
  have e2:(U.getD ((0:Nat):Int)).toNat=0:=ZA
  simp only[e1,e2,sliC];simp;exact .bO _ _ _ _
 |ah l sz' st n cap b base T m bK hn iU eG=>
  simp only[ay]at hb;simp only[C.aQ]at h8;subst h8;obtain⟨b1,b2,b3⟩:=hb;refine fin (sliC L U (.ah l sz' st n)) _ (run _ _ cap rfl hn ⟨b1,b2,b3⟩) ?_ rfl;simp only[sliC];generalize nS:(L.getD 0).toNat=ln;generalize qS:(U.getD (n:Int)).toNat=un;by_cases cL:cap=ln
  ·rw[if_pos cL];have q3:un-ln=0:=ZA
   have q4:cap-ln=0:=ZA
   rw[q3,q4];exact .bO _ _ _ _
  ·rw[if_neg cL];simp only[Jq,Ez];have:base+st * sz'+ln * sz'=base+(st+ln) * sz':=Za9
   rw[this];refine .ah _ _ _ _ _ b base T m bK ZA iU ?_;have:st+ln+(cap-ln)=st+cap:=ZA
   rw[this];exact eG
 |_=>simp[aZ]at h7
theorem Qa70 {x:Opd}{lo hi:Option Opd}{lo' bZ:Option Operand}(hm:o.op=.slice t x' lo' bZ none)(hu:P.underlying t=some .string)
  (hx:mO x x'=true) (rL:mOpt lo lo'=true) (uZ:mOpt hi bZ=true)
  (hs:Sat H g w) (he:EnvOk w g e a) (hp:p=true) (ho:(FOp.slis x lo hi).obl p e H):FOk P H g w e a o (.slis x lo hi):=by
 simp only[FOp.obl]at ho;obtain⟨h1,h2,h3,h4,h5,hb⟩:=ho;have hr:=Cz he hx hp h1;have el:=ON he hp rL h2 h4;have eh:=ON he hp uZ h3 h5;generalize hL:(lo.map λz=>Ct (z.v e))=L at *;generalize hU:(hi.map λz=>Ct (z.v e))=U at *;split at hb
 ·rename_i s hv
  rw[hv]at hr;obtain⟨hq,hl⟩:=hr.aN.str_inv;have kF:(⟨s.toArray⟩:ByteArray).extract (L.getD 0).toNat (U.getD s.length).toNat=⟨((s.take (U.getD s.length).toNat).drop (L.getD 0).toNat).toArray⟩:=by
   apply Jba;apply Jae;simp[Jab,Ja6]
  refine .mk' hs (v:=.string ⟨((s.take (U.getD s.length).toNat).drop (L.getD 0).toNat).toArray⟩) ?_ ?_ trivial
  ·simp only[execOp,hm,hq,Instr.sliceAt,Sem.run_bind,C1 hu,Result.andThen_ok,el,eh,J4,Instr.slice,Ge,Sem.run_pure];simp only[Jah,Jr,if_false,Sem.run_bind,Sem.run_pure,Result.andThen_ok];rw[Sv (P:=P) false s.length s.length L U (Jw _) hb w];simp[kF]
  ·simp only[FOp.val,hv,hL,hU];refine .c _ _ (.str _ ?_);simp;omega
 ·exact hb.elim
theorem Qa88 {sz n:Nat}{x y:Opd}{i:TypeInfo}(hm:o.op=.indexAddr t x' y')(hu:P.underlying t=some (.array n el))
  (hi:P.info? el=some i) (hz:i.size=sz) (hx:mO x x'=true) (hy:mO y y'=true)
  (hs:Sat H g w) (he:EnvOk w g e a) (hp:p=true) (ho:(FOp.iaa sz n x y).obl p e H):FOk P H g w e a o (.iaa sz n x y):=by
 simp only[FOp.obl]at ho;obtain⟨h1,h2,h6,h7,h8,h9⟩:=ho;have hr:=Cz he hx hp h1;have hn:=E8 he hy hp h2 h6;split at h9
 ·rename_i l k hv
  rw[hv]at hr;have dB:=hr.aN;generalize hq:a.eval x'=xv at dB
  cases dB with
  |ptr _ _ b s base bK=>
   refine .mk' hs (v:=.pointer (some ⟨b,base+k+(Ct (y.v e)).toNat * sz,none⟩)) ?_ ?_ trivial
   ·simp only[execOp,hm,hq,hn,Instr.indexAt,Sem.run_bind,asIntOf,Sem.run_pure,Result.andThen_ok,C1 hu,Instr.sureAddr];rw[if_pos ⟨h7,h8⟩];simp[Dm hi,hz,Ez]
   ·simp only[FOp.val,hv];have e:base+k+(Ct (y.v e)).toNat * sz=base+(k+(Ct (y.v e)).toNat * sz):=ZA;rw[e];exact .c _ _ (.ptr l _ b s base bK)
 ·exact h9.elim
theorem Qa9d {n b l:Nat}{d:TypeDesc}{i:TypeInfo}(hm:o.op=.load t (.global b))(hu:P.underlying t=some d)(hi:P.info? t=some i)(ha:Ed d=true)(hn:i.size=n)
  (hs:Sat H g w) (ho:(FOp.ldg n b l).obl p e H):FOk P H g w e a o (.ldg n b l):=by
 simp only[FOp.obl]at ho;split at ho
 ·rename_i b' cells hH
  obtain⟨rfl,h2⟩:=ho;have bf:=hs.objs l;rw[hH]at bf;obtain⟨s,val,k1,k2,k3,k4⟩:=bf;have hq:a.eval (.global b')=.pointer (some ⟨b',0,none⟩):=rfl;have hc:∀j,j<n->w.cell? ⟨b',0+j,none⟩=some (val j):=λj hj=>by
   rw[J5];exact k3 j _ (Jd ZA)
  have hr:=Q7i hu hi w b' 0 n val (λ_=>hn) (λh=>by rw[ha]at h;simp at h) hc;refine .mk' hs (v:=.agg ((List.range n).map val).toArray) ?_ ?_ trivial
  ·simp only[execOp,hm,hq,Instr.loadAt,Instr.sureAddr,Sem.run_bind,Sem.run_pure,Result.andThen_ok,hr,ha,if_true]
  ·simp only[FOp.val,hH];refine .ag _ _ ZF λj c u h1 h2=>?_;rw[Jp]at h1;split at h1
   ·rename_i hj
    simp[hj]at h2;subst h2;exact k4 j c h1
   ·simp at h1
 ·exact ho.elim
theorem s_ldo {b l:Nat}{d:TypeDesc}{i:TypeInfo}(hm:o.op=.load t (.global b))(hu:P.underlying t=some d)(hi:P.info? t=some i)(ha:Ed d=false)
  (hs:Sat H g w) (ho:(FOp.ldo b l).obl p e H):FOk P H g w e a o (.ldo b l):=by
 simp only[FOp.obl]at ho;split at ho
 ·rename_i b' cells hH
  obtain⟨rfl,h2⟩:=ho;have bf:=hs.objs l;rw[hH]at bf;obtain⟨s,val,k1,k2,k3,k4⟩:=bf;have hq:a.eval (.global b')=.pointer (some ⟨b',0,none⟩):=rfl;have h0:cells[0]? = some (cells.headD .unk):=by
   cases cells with
   |nil=>simp at h2
   |cons c r=>rfl
  have hc:∀j,j<1->w.cell? ⟨b',0+j,none⟩=some (val j):=λj hj=>by
   obtain rfl:j=0:=ZA
   exact k3 0 _ h0
  have hr:=Q7i hu hi w b' 0 1 val (λh=>by rw[ha]at h;simp at h) (λ_=>rfl) hc;refine .mk' hs (v:=val 0) ?_ ?_ trivial
  ·simp only[execOp,hm,hq,Instr.loadAt,Instr.sureAddr,Sem.run_bind,Sem.run_pure,Result.andThen_ok,hr,ha];simp
  ·simp only[FOp.val,hH];exact .c _ _ (k4 0 _ h0)
 ·exact ho.elim
theorem s_aslg {n b l:Nat}{i:TypeInfo}(hm:o.op=.slice t (.global b) none none none)(eV:P.underlying t=some (.array n el))(lN:P.info? el=some i)
  (hs:Sat H g w) (ho:(FOp.aslg n b l).obl p e H):FOk P H g w e a o (.aslg n b l):=by
 simp only[FOp.obl]at ho;split at ho
 ·rename_i b' cells hH
  obtain⟨rfl,h2,h3⟩:=ho;have bf:=hs.objs l;rw[hH]at bf;obtain⟨s,val,k1,k2,k3,k4⟩:=bf;have hq:a.eval (.global b')=.pointer (some ⟨b',0,none⟩):=rfl;have ak:((cells.take n).map λc=>[c]).length=n:=ZF
  have aD:∀(k:Nat) (row:List C),((cells.take n).map λc=>[c])[k]? = some row->∃c,row=[c]/\cells[k]? = some c:=by
   intro k row hk;rw[Jn,Jp]at hk;split at hk
   ·cases fR:cells[k]? with
    |none=>rw[fR]at hk;simp at hk
    |some c=>rw[fR]at hk;simp at hk;exact⟨c,hk.symm,rfl⟩
   ·simp at hk
  refine .mk' hs (v:=.slice (some ⟨b',0,none⟩) n n) ?_ ?_ trivial
  ·by_cases hn:n=0
   ·subst hn;simp[execOp,hm,hq,Instr.sliceAt,C1 eV,Instr.sureAddr,Instr.sliceBounds,Dm lN,Sem.run_pure]
   ·simp[execOp,hm,hq,Instr.sliceAt,C1 eV,Instr.sureAddr,Instr.sliceBounds,Dm lN,Sem.run_pure,hn,Ez]
  ·simp only[FOp.val,hH];have:=RepC.sl (w:=w) (g:=g) true 1 ((cells.take n).map λc=>[c]) b' 0 n (λk _=>val k) ZU (λ_=>ak.symm) ZU k2
    (λk row hk=>by obtain⟨c,rfl,_⟩:=aD k row hk;rfl)
    (λk row j c hk hj=>by
     obtain⟨c',rfl,cA⟩:=aD k row hk
     cases j with
     |zero=>simpa using k3 k c' cA
     |succ j=>simp at hj)
    (λk row j c hk hj=>by
     obtain⟨c',rfl,cA⟩:=aD k row hk
     cases j with
     |zero=>simp at hj;subst hj;exact k4 k _ cA
     |succ j=>simp at hj)
   rw[ak]at this;exact .c _ _ this
 ·exact ho.elim
theorem Qa9a {sz n:Nat}{x y:Opd}{d:TypeDesc}{i:TypeInfo}(hm:o.op=.index t x' y')(hu:P.underlying t=some (.array n el))
  (hd:P.underlying el=some d) (ha:Ed d=true) (hi:P.info? el=some i) (hz:i.size=sz) (hx:mO x x'=true) (hy:mO y y'=true)
  (hs:Sat H g w) (he:EnvOk w g e a) (hp:p=true) (ho:(FOp.iax sz n x y).obl p e H):FOk P H g w e a o (.iax sz n x y):=by
 simp only[FOp.obl]at ho;obtain⟨h1,h2,h6,h7,h8,h9,dh⟩:=ho;have hr:=Cz he hx hp h1;have hn:=E8 he hy hp h2 h6;have hv:∃cs,x.v e=.ag cs:=by cases hv:x.v e <;> simp_all[V.isAg]
 obtain⟨cs,hv⟩:=hv;rw[hv]at hr dh;simp only[V.cells]at dh;obtain⟨vs,hq,hl,hh⟩:=hr.ag_inv;refine .mk' hs (v:=.agg ((vs.drop ((Ct (y.v e)).toNat * sz)).take sz).toArray) ?_ ?_ trivial
 ·simp only[execOp,hm,hq,hn,Instr.index,Sem.run_bind,asIntOf,Sem.run_pure,Result.andThen_ok,C1 hu];rw[if_pos ⟨h7,h8⟩];simp only[Sem.run_bind,Dm hi,hz,Result.andThen_ok,part,Gg hd,ha,if_true,Sem.run_pure];congr 4;apply Jae;simp[Jab,Ja6]
 ·simp only[FOp.val,hv,V.cells];refine .ag _ _ Za3 λj c u h1 h2=>?_;simp only[Jp,Js]at h1 h2;split at h1
  ·rename_i hj;rw[if_pos hj]at h2;exact hh _ _ _ h1 h2
  ·simp at h1
theorem Qa7s {n:Nat}{x:Opd}{hi:Option Opd}{bZ:Option Operand}{i:TypeInfo}(hm:o.op=.slice t x' none bZ none)(eV:P.underlying t=some (.array n el))
  (lN:P.info? el=some i) (hx:mO x x'=true) (uZ:mOpt hi bZ=true)
  (hs:Sat H g w) (he:EnvOk w g e a) (hp:p=true) (ho:(FOp.aslp n x hi).obl p e H):FOk P H g w e a o (.aslp n x hi):=by
 simp only[FOp.obl]at ho;obtain⟨h1,h3,h5,hb,ev,h2⟩:=ho;have hr:=Cz he hx hp h1;have eh:=ON he hp uZ h3 h5;have ft:(hi.map λz=>Ct (z.v e)).isNone=hi.isNone:=by cases hi <;> rfl
 split at h2
 ·rename_i cells hv
  rw[hv]at hr;have dB:=hr.aN;generalize hq:a.eval x'=xv at dB
  cases dB with
  |pp _ b off val du hc nO=>
   have eT:(FOp.aslp n x hi).val e H=.c (.sl hi.isNone 1 ((cells.take ((hi.map λx=>Ct (x.v e)).getD n).toNat).map λc=>[c])):=by simp only[FOp.val,hv]
   rw[<-ft]at eT;generalize hU:(hi.map λz=>Ct (z.v e))=U at *;have cH:=Sv (P:=P) false n n none U (Jw _) hb w;have eB:=hb;obtain⟨b1,b2,b3⟩:=eB;simp only[Jy,J4]at b1 b2 b3 cH;have e0:(U.getD (n:Int)).toNat<=n:=ZA
   refine .mk' hs (v:=.slice (some ⟨b,off,none⟩) (U.getD n).toNat n) ?_ ?_ trivial
   ·simp only[execOp,hm,hq,Instr.sliceAt,Sem.run_bind,C1 eV,Result.andThen_ok,Instr.sureAddr,Sem.run_pure,eh,J4,cH,Dm lN];have ha:(⟨b,off,none⟩:Addr).add (0 * i.size)=⟨b,off,none⟩:=(by rw[Nat.zero_mul,Ez,J0]);by_cases hn:n=0
    ·subst hn;simp
    ·simp[hn,ha];try rw[Ez,J0]
   ·rw[eT];have ak:((cells.take (U.getD (n:Int)).toNat).map λc=>[c]).length=(U.getD (n:Int)).toNat:=ZF;have aD:∀(k:Nat) (row:List C),((cells.take (U.getD (n:Int)).toNat).map λc=>[c])[k]? = some row->∃c,row=[c]/\cells[k]? = some c:=by
     intro k row hk;rw[Jn,Jp]at hk;split at hk
     ·cases fR:cells[k]? with
      |none=>rw[fR]at hk;simp at hk
      |some c=>rw[fR]at hk;simp at hk;exact⟨c,hk.symm,rfl⟩
     ·simp at hk
    have:=RepC.sl (w:=w) (g:=g) U.isNone 1 ((cells.take (U.getD (n:Int)).toNat).map λc=>[c]) b off n (λk _=>val k) ZU
     (λhu=>by
      have:U=none:=(by simpa using hu);subst this;rw[ak];simp) ZU du (λk row hk=>by obtain⟨c,rfl,_⟩:=aD k row hk;rfl)
     (λk row j c hk hj=>by
      obtain⟨c',rfl,cA⟩:=aD k row hk
      cases j with
      |zero=>simp only[Nat.mul_one,J0];exact hc k c' cA
      |succ j=>simp at hj)
     (λk row j c hk hj=>by
      obtain⟨c',rfl,cA⟩:=aD k row hk
      cases j with
      |zero=>simp at hj;subst hj;exact nO k c' cA
      |succ j=>simp at hj)
    rw[ak]at this;exact .c _ _ this
 ·exact h2.elim
theorem s_slm {sz:Nat}{x hi:Opd}{p9 tx:Operand}{i:TypeInfo}(hm:o.op=.slice t x' none (some p9) (some tx))(hu:P.underlying t=some (.slice el))
  (lN:P.info? el=some i) (hx:mO x x'=true) (hh1:mO hi p9=true) (hh2:mO hi tx=true)
  (hs:Sat H g w) (he:EnvOk w g e a) (hp:p=true) (ho:(FOp.slm sz x hi).obl p e H):FOk P H g w e a o (.slm sz x hi):=by
 simp only[FOp.obl]at ho;obtain⟨h1,h2,h3,h4,h5⟩:=ho;have hr:=Cz he hx hp h1;have e1:=E8 he hh1 hp h2 h3;have e2:=E8 he hh2 hp h2 h3;split at h5
 ·rename_i fl z rows hv
  obtain⟨rfl,h6⟩:=h5;rw[hv]at hr;have dB:=hr.aN;have eT:(FOp.slm z x hi).val e H=.c (.sl true z (rows.take (Ct (hi.v e)).toNat)):=by simp only[FOp.val,hv]
  generalize Ct (hi.v e)=n at *;obtain⟨n,rfl⟩:=Int.eq_ofNat_of_zero_le h4;have h7:n<=rows.length:=ZA
  simp only[Jap]at eT;generalize hq:a.eval x'=xv at dB;have run:∀(ad:Option Addr) (len cap:Nat),xv=.slice ad len cap->n<=cap->
    (execOp a.eval o).run P w=.ok (.value (.slice (if n=0 then ad else ad.map (·.add (0 * i.size))) n n)) w:=by
   intro ad len cap kO fE;have hb:(Instr.sliceBounds true len cap none (some (.int .i64 (n:Int))) (some (.int .i64 (n:Int)))).run P w=.ok (0,n,n) w:=by
    unfold Instr.sliceBounds;simp only[Sem.run_bind,Instr.sliceBound,asIntOf,Sem.run_pure,Result.andThen_ok];rw[if_pos ⟨Jbb _,ZA⟩];simp only[Sem.run_pure,Result.andThen_ok,Jap];rw[if_pos ⟨Jbb _,Int.le_refl _⟩];simp only[Sem.run_pure,Result.andThen_ok,Jap]
   simp only[execOp,hm,hq,kO,Instr.sliceAt,Sem.run_bind,C1 hu,Result.andThen_ok,e1,e2,Jq,J4,Instr.slice,hb,Dm lN,Sem.run_pure,Nat.sub_zero]
  cases dB with
  |ce _ _ ad=>
   have h0:n=0:=by simpa using h7
   subst h0;refine .mk' hs (run ad 0 0 rfl (Jw _)) ?_ trivial;rw[eT];exact .c _ _ (.ce _ _ _)
  |sl _ _ _ b off cap val hl hf fE du de tg nO=>
   refine .mk' hs (run _ _ cap rfl ZA) ?_ trivial;rw[eT];have ha:(if n=0 then (some ⟨b,off,none⟩:Option Addr)else (some ⟨b,off,none⟩:Option Addr).map (·.add (0 * i.size)))=some ⟨b,off,none⟩:=by
    split
    ·rfl
    ·simp only[Jq,Nat.zero_mul,Ez,J0]
   rw[ha];have ak:(rows.take n).length=n:=ZF
   have aD:∀(k:Nat) (row:List C),(rows.take n)[k]? = some row->rows[k]? = some row:=by
    intro k row hk;rw[Jp]at hk;split at hk
    ·exact hk
    ·simp at hk
   have:=RepC.sl (w:=w) (g:=g) true z (rows.take n) b off n val ZU (λ_=>by rw[ak]) (by rw[ak];exact Jw _) du (λk row hk=>de _ _ (aD k row hk))
    (λk row j c hk hj=>tg _ _ _ _ (aD k row hk) hj) (λk row j c hk hj=>nO _ _ _ _ (aD k row hk) hj)
   rw[ak]at this;exact .c _ _ this
 ·exact h5.elim
theorem Qa87 {off n:Nat}{x:Opd}{s:TypeId}{k:Nat}{fs:Array Field}{f:Field}{i:TypeInfo}{d:TypeDesc}(hm:o.op=.field s x' k)(hu:P.underlying s=some (.struct fs))
  (hf:fs[k]? = some f) (oF:f.offset=off) (hi:P.info? f.type=some i) (hd:P.underlying f.type=some d) (ha:Ed d=agg) (hn:agg=true->i.size=n) (dg:agg=false->n=1) (hx:mO x x'=true)
  (hs:Sat H g w) (he:EnvOk w g e a) (hp:p=true) (ho:(FOp.fld off n agg x).obl p e H):FOk P H g w e a o (.fld off n agg x):=by
 simp only[FOp.obl]at ho;obtain⟨h1,h2,h3⟩:=ho;have hr:=Cz he hx hp h1;have hv:∃cs,x.v e=.ag cs:=by cases hv:x.v e <;> simp_all[V.isAg]
 obtain⟨cs,hv⟩:=hv;rw[hv]at hr h3;simp only[V.cells]at h3;obtain⟨vs,hq,hl,hh⟩:=hr.ag_inv
 cases agg with
 |true=>
  have hz:=hn rfl;refine .mk' hs (v:=.agg ((vs.drop off).take n).toArray) ?_ ?_ trivial
  ·simp only[execOp,hm,hq,Instr.field,Sem.run_bind,C1 hu,Result.andThen_ok,hf,asAgg,Sem.run_pure,part,Gg hd,ha,if_true,Dm hi,hz,oF];congr 4;apply Jae;simp[Jab,Ja6]
  ·simp only[FOp.val,Em,hv,V.cells,if_true];refine .ag _ _ ZF λj c u h1 h2=>?_;simp only[Jp,Js]at h1 h2;split at h1
   ·rename_i hj;rw[if_pos hj]at h2;exact hh _ _ _ h1 h2
   ·simp at h1
 |false=>
  have hz:=dg rfl;subst hz;have af:off<vs.length:=ZA
  refine .mk' hs (v:=vs[off]) ?_ ?_ trivial
  ·simp only[execOp,hm,hq,Instr.field,Sem.run_bind,C1 hu,Result.andThen_ok,hf,asAgg,Sem.run_pure,part,Gg hd,ha,oF];simp[af]
  ·simp only[FOp.val,Em,hv,V.cells,Jr,if_false];have fC:off<cs.length:=ZA
   have:((cs.drop off).take 1).headD .unk=cs[off]:=by
    rw[List.drop_eq_getElem_cons fC];rfl
   rw[this];exact .c _ _ (hh off _ _ (Jd fC) (Jd af))
theorem It (off:Nat):∀(vs:List Value) (s:Nat) (cs:Array Value) (k:Nat),off+s+vs.length<=cs.size->
  ((vs.zipIdx s).foldl (λ(cs:Array Value) (x:Value×Nat)=>cs.setIfInBounds (off+x.2) x.1) cs).size=cs.size/\
  ((vs.zipIdx s).foldl (λ(cs:Array Value) (x:Value×Nat)=>cs.setIfInBounds (off+x.2) x.1) cs)[k]? =
   if off+s<=k/\k<off+s+vs.length then vs[k-(off+s)]? else cs[k]?
 |[],s,cs,k,_=>by
  refine⟨rfl,?_⟩;rw[if_neg (by simp only[Ja0];omega)];rfl
 |v::vs,s,cs,k,h=>by
  simp only[J8]at h;have ih:=It off vs (s+1) (cs.setIfInBounds (off+s) v) k ZF;simp only[List.zipIdx_cons,List.foldl_cons];refine⟨by rw[ih.1];simp,?_⟩;rw[ih.2];simp only[J8];by_cases h1:off+(s+1)<=k/\k<off+(s+1)+vs.length
  ·rw[if_pos h1,if_pos ZA];have:k-(off+s)=(k-(off+(s+1)))+1:=ZA
   rw[this,List.getElem?_cons_succ]
  ·rw[if_neg h1];by_cases h2:k=off+s
   ·subst h2;rw[if_pos ZA];simp only[Nat.sub_self,List.getElem?_cons_zero];rw[Jaa ZA]
   ·rw[if_neg ZA,Jt ZA]
theorem LQ {place:Nat->Option (Nat×Nat)}{cells:Array Value}{i off sz:Nat}{v:Value}{rest:List (Nat×Value)}(hp:place i=some (off,sz))(hz:v.cells.size=sz)
  (hb:off+sz<=cells.size):∃cs:Array Value,Instr.fill place cells ((i,v)::rest)=Instr.fill place cs rest/\cs.size=cells.size/\
   ∀k,cs[k]? = if off<=k/\k<off+sz then v.cells[k-off]? else cells[k]?:=by
 have hf:=λk=>It off v.cells.toList 0 cells k ZF;refine⟨v.cells.zipIdx.foldl (λ(cs:Array Value) (x:Value×Nat)=>cs.setIfInBounds (off+x.2) x.1) cells,?_,?_,λk=>?_⟩
 ·simp only[Instr.fill,hp];rw[if_neg ZF]
 ·rw[<-Ja9,Ja7];exact (hf 0).1
 ·rw[<-Ja9,Ja7,(hf k).2];simp only[J0,Array.length_toList,hz,Ju]
def RepL (w:World)(g:G)(cs:List C)(vs:Array Value):Prop:=
 vs.size=cs.length/\∀(j:Nat) (c:C) (u:Value),cs[j]? = some c->vs[j]? = some u->RepC w g c u
theorem RepL.put {cs ps:List C}{vs us vs':Array Value}{off:Nat}(h:RepL w g cs vs)(hp:RepL w g ps us)(hb:off+ps.length<=cs.length)(br:vs'.size=vs.size)
  (hv:∀k,vs'[k]? = if off<=k/\k<off+ps.length then us[k-off]? else vs[k]?) :
  RepL w g (cs.take off++ps++cs.drop (off+ps.length)) vs':=by
 refine⟨by rw[br,h.1];simp;omega,λj c u h1 h2=>?_⟩;rw[hv]at h2;by_cases hj:off<=j/\j<off+ps.length
 ·rw[if_pos hj]at h2;rw[Jz,Jk ZF,Ji ZF]at h1;refine hp.2 _ c u ?_ h2;rw[<-h1];congr 1;simp;omega
 ·rw[if_neg hj]at h2;refine h.2 j c u ?_ h2;by_cases hl:j<off
  ·rw[Jz,Ji ZF,Jp,if_pos hl]at h1;exact h1
  ·rw[Jk ZF,Js]at h1;rw[<-h1];congr 1;simp;omega
def Gv:C->Value->Bool
 |.int k n,.int k' n'=>k == k'&&n == n'
 |.bool b,.bool b'=>b == b'
 |.str [],.string b=>decide (b.data.toList=[])
 |.sl _ _ [],.slice none 0 0=>true
 |.pnil,.pointer none=>true
 |.mnil,.map none=>true
 |.fnil,.nilFunc=>true
 |_,_=>false
theorem Ms {c:C}{v:Value}(h:Gv c v=true):RepC w g c v:=by
 unfold Gv at h;split at h
 ·simp at h;obtain⟨rfl,rfl⟩:=h;exact .int _ _
 ·simp at h;subst h;exact .bool _
 ·rename_i b
  have hb:b=⟨([]:List UInt8).toArray⟩:=by
   apply Jba;apply Jae;simpa using h
  rw[hb];exact .str _ (by simp[EY])
 ·exact .ce _ _ _
 ·exact .pnil
 ·exact .mnil
 ·exact .fnil
 ·simp at h
def D6 (cs:List C)(v:Value):Bool:=cs.length == v.cells.size&&(cs.zip v.cells.toList).all λx=>Gv x.1 x.2
theorem Iy {cs:List C}{v:Value}(h:D6 cs v=true):RepL w g cs v.cells:=by
 unfold D6 at h;rw[Ja,Jav]at h;obtain⟨h1,h2⟩:=h;refine⟨by simpa using (beq_iff_eq.1 h1).symm,λj c u e1 e2=>Ms (h2 (c,u) ?_)⟩;have:(cs.zip v.cells.toList)[j]? = some (c,u):=by
  rw[Jao];exact⟨e1,Zaf⟩
 exact Jh this
theorem Eu{i:TypeInfo}(hi:P.info? t=some i)(hz:i.zero=some z)(w:World):(zeroValue t).run P w=.ok z w:=by
 simp[zeroValue,Ka hi,hz]
theorem Qafo (fs:List Field)(h:∀f∈fs,∃i,P.info? f.type=some i)(w:World) :
  (fs.mapM λf=>(do pure (f.offset,<-sizeOf f.type):Sem (Nat×Nat))).run P w=.ok (fs.map λf=>(f.offset,P.cellsOf f.type)) w:=by
 induction fs with
 |nil=>simp
 |cons f fs ih=>
  obtain⟨i,hi⟩:=h f ZC;have ih':=ih λf hf=>h f (by simp[hf]);simp only[List.mapM_cons,Sem.run_bind,Dm hi,Result.andThen_ok,Sem.run_pure,ih',Jbp,Qagy hi]
theorem Om (place:Nat->Option (Nat×Nat)):∀(parts:List (Nat×Nat×List C)) (ps:List (Nat×Value)) (cells:Array Value) (cs:List C),
  RepL w g cs cells->ps.length=parts.length->
  (∀(j:Nat) (x:Nat×Nat×List C) (y:Nat×Value),parts[j]? = some x->ps[j]? = some y->place y.1=some (x.1,x.2.1)/\x.2.2.length=x.2.1/\x.1+x.2.1<=cs.length/\RepL w g x.2.2 y.2.cells)->
  ∃out,Instr.fill place cells ps=some out/\RepL w g (IN cs (parts.map λx=>(x.1,x.2.2))) out
 |[],[],cells,cs,h,_,_=>⟨cells,rfl,h⟩
 |[],y::ps,_,_,_,hl,_=>by simp at hl
 |x::parts,[],_,_,_,hl,_=>by simp at hl
 |x::parts,(i,v)::ps,cells,cs,h,hl,hh=>by
  obtain⟨h1,h2,h3,h4⟩:=hh 0 x (i,v) rfl rfl;obtain⟨cs',f1,f2,f3⟩:=LQ (rest:=ps) (cells:=cells) h1 (by rw[h4.1,h2]) (by rw[h.1];exact h3);have hr:RepL w g (cs.take x.1++x.2.2++cs.drop (x.1+x.2.2.length)) cs':=h.put h4 (by rw[h2];exact h3) f2 (by rw[h2];exact f3);obtain⟨out,o1,o2⟩:=Om place parts ps cs' _ hr Zag (λj x' y' e1 e2=>by
   obtain⟨q1,q2,q3,q4⟩:=hh (j+1) x' y' ZaW Zaf;refine⟨q1,q2,?_,q4⟩;have:(cs.take x.1++x.2.2++cs.drop (x.1+x.2.2.length)).length=cs.length:=ZF
   rw[this];exact q3)
  exact⟨out,f1.trans o1,by simpa[IN]using o2⟩
theorem I6 {v:V}(h:RepV w g v u)(hn:v.cells≠[]):RepL w g v.cells u.cells:=Q49 h hn
theorem Qa81{parts:List (Nat×Nat×Opd)}{fs:Array Field}{i:TypeInfo}
  (hm:o.op=.build t parts') (hu:P.underlying t=some (.struct fs)) (hi:P.info? t=some i) (hz:i.zero=some z) (cw:D6 zero z=true)
  (sa:∀f∈fs.toList,∃i,P.info? f.type=some i) (hl:parts.length=parts'.size)
  (hx:∀(j:Nat) (x:Nat×Nat×Opd) (y:Nat×Operand),parts[j]? = some x->parts'[j]? = some y->
   mO x.2.2 y.2=true/\(∃f,fs[y.1]? = some f/\f.offset=x.1/\P.cellsOf f.type=x.2.1)/\x.1+x.2.1<=zero.length/\x.2.1≠0)
  (hs:Sat H g w) (he:EnvOk w g e a) (hp:p=true) (ho:(FOp.bld zero parts).obl p e H):FOk P H g w e a o (.bld zero parts):=by
 simp only[FOp.obl]at ho;have ak:(parts'.toList.map λ(x:Nat×Operand)=>(x.1,a.eval x.2)).length=(parts.map λq=>(q.1,q.2.1,(q.2.2.v e).cells)).length:=Za3
 obtain⟨out,f1,f2⟩:=Om (w:=w) (g:=g) (λ(j:Nat)=>(fs.toList.map λf=>(f.offset,P.cellsOf f.type))[j]?) (parts.map λq=>(q.1,q.2.1,(q.2.2.v e).cells))
  (parts'.toList.map λ(x:Nat×Operand)=>(x.1,a.eval x.2)) z.cells zero (Iy cw) ak (λj x y e1 e2=>by
   simp only[Jn]at e1 e2
   cases hj:parts[j]? with
   |none=>rw[hj]at e1;simp at e1
   |some q=>
    cases bE:parts'.toList[j]? with
    |none=>rw[bE]at e2;simp at e2
    |some y'=>
     rw[hj]at e1;rw[bE]at e2;simp only[Jq,Jb]at e1 e2;subst e1;subst e2;obtain⟨m1,⟨f,m2,m3,m4⟩,m5,m6⟩:=hx j q y' hj (by simpa using bE);obtain⟨o1,o2⟩:=ho q (Jh hj);refine⟨?_,o2,m5,I6 (Cz he m1 hp o1) (λhn=>m6 (by rw[<-o2,hn];rfl))⟩;simp only[Jn,Ju,m2,Jq,m3,m4])
 have gu:(fs.mapM λf=>(do pure (f.offset,<-sizeOf f.type):Sem (Nat×Nat))).run P w=.ok ((fs.toList.map λf=>(f.offset,P.cellsOf f.type)).toArray) w:=by
  rw[Array.mapM_eq_mapM_toList];simp only[Sem.run_map,Qafo fs.toList sa w,Result.andThen_ok]
 refine .mk' hs (v:=.agg out) ?_ ?_ trivial
 ·simp only[execOp,hm,Instr.build,Sem.run_bind,Eu hi hz,Result.andThen_ok,C1 hu,gu];have:(λ(x:Nat)=>((fs.toList.map λf=>(f.offset,P.cellsOf f.type)).toArray)[x]?)=(λ(j:Nat)=>(fs.toList.map λf=>(f.offset,P.cellsOf f.type))[j]?):=by
   funext j;simp
  rw[this];have uk:(parts'.map λ(x:Nat×Operand)=>(x.1,a.eval x.2)).toList=parts'.toList.map λ(x:Nat×Operand)=>(x.1,a.eval x.2):=ZC
  rw[uk,f1];simp
 ·simp only[FOp.val];have oA:out=out.toList.toArray:=ZC
  rw[oA];refine .ag _ _ ?_ ?_
  ·have:=f2.1;simp only[Jbq,Jbd]at this;simpa using this
  ·intro j c u h1 h2;refine f2.2 j c u ?_ Zab;simpa only[Jbq,Jbd]using h1
theorem Q5e (size:Nat):∀(ps:List (Nat×Value)) (s:Nat) (cells:Array Value),(∀(j:Nat) (y:Nat×Value),ps[j]? = some y->y.1=s+j/\y.2.cells.size=size)->
  (s+ps.length) * size<=cells.size->
  ∃out:Array Value,Instr.fill (λi=>some (i * size,size)) cells ps=some out/\out.size=cells.size/\
   (∀k,k<s * size->out[k]? = cells[k]?)/\
   ∀(j:Nat) (y:Nat×Value) (k:Nat),ps[j]? = some y->k<size->out[(s+j) * size+k]? = y.2.cells[k]?
 |[],s,cells,_,_=>⟨cells,rfl,rfl,λ_ _=>rfl,ZC⟩
 |(i,v)::ps,s,cells,h,hb=>by
  obtain⟨h1,h2⟩:=h 0 (i,v) rfl;simp only[J0]at h1 h2;subst h1;have aW:(i+1+ps.length) * size<=cells.size:=by
   have e:i+((i,v)::ps).length=i+1+ps.length:=by simp only[J8];omega
   rw[e]at hb;exact hb
  have kd:i * size+size<=cells.size:=by
   have:(i+1) * size<=(i+1+ps.length) * size:=Jm _ ZA;rw[Jl,Jai]at this;omega
  obtain⟨cs,f1,f2,f3⟩:=LQ (place:=λi=>some (i * size,size)) (rest:=ps) (cells:=cells) (i:=i) (v:=v) rfl h2 kd;obtain⟨out,o1,o2,o3,o4⟩:=Q5e size ps (i+1) cs (λj y hj=>by
   have:=h (j+1) y ZS;exact⟨by rw[this.1];omega,this.2⟩) (by rw[f2];exact aW)
  refine⟨out,f1.trans o1,o2.trans f2,λk hk=>?_,λj y k hj hk=>?_⟩
  ·rw[o3 k Za9,f3 k,if_neg ZA]
  ·cases j with
   |zero=>
    simp at hj;subst hj;simp only[J0];rw[o3 _ Za9,f3 _,if_pos ZA];congr 1;omega
   |succ j=>
    have:=o4 j y k ZS hk;rw[<-this];congr 3;omega
theorem Qa83 {sz:Nat}{n:Nat}{i:TypeInfo}
  (hm:o.op=.buildSlice t n parts') (hu:P.underlying t=some (.slice el)) (hi:P.info? el=some i) (hz:i.zero=some z) (br:i.size=sz) (qY:sz≠0)
  (hn:n=parts'.size) (sw:n * sz<=2 ^ 24) (hl:parts.length=parts'.size)
  (hx:∀(j:Nat) (x:Opd) (y:Nat×Operand),parts[j]? = some x->parts'[j]? = some y->y.1=j/\mO x y.2=true)
  (hs:Sat H g w) (he:EnvOk w g e a) (hp:p=true) (ho:(FOp.lz sz parts).obl p e H):FOk P H g w e a o (.lz sz parts):=by
 simp only[FOp.obl]at ho;have uk:(parts'.map λ(x:Nat×Operand)=>(x.1,a.eval x.2)).toList=parts'.toList.map λ(x:Nat×Operand)=>(x.1,a.eval x.2):=ZC
 have bC:∀(j:Nat) (y:Nat×Value),(parts'.toList.map λ(x:Nat×Operand)=>(x.1,a.eval x.2))[j]? = some y->
   ∃x y',parts[j]? = some x/\parts'[j]? = some y'/\y=(y'.1,a.eval y'.2):=by
  intro j y hj;simp only[Jn]at hj
  cases bE:parts'.toList[j]? with
  |none=>rw[bE]at hj;simp at hj
  |some y'=>
   rw[bE]at hj;simp at hj;have af:j<parts.length:=by
    rw[hl];rcases Jg j parts'.size with h|h
    ·exact h
    ·simp[Jj h]at bE
   exact⟨_,y',Jd af,by simpa using bE,hj.symm⟩
 have aD:∀x∈parts,x.fine p e/\(x.v e).cells.length=sz/\(x.v e).cells≠[]:=λx hx=>by
  obtain⟨q1,q2⟩:=ho x hx;exact⟨q1,q2,λhn=>qY (by rw[<-q2,hn];rfl)⟩
 have na:(parts'.toList.map λ(x:Nat×Operand)=>(x.1,a.eval x.2)).length=n:=ZaS
 obtain⟨out,f1,f2,f3,f4⟩:=Q5e sz (parts'.toList.map λ(x:Nat×Operand)=>(x.1,a.eval x.2)) 0
  ((Array.range (n * sz)).map ((if n * sz=0 then #[]else z.cells)[· % (if n * sz=0 then #[]else z.cells).size]!)) (λj y hj=>by
   obtain⟨x,y',e1,e2,rfl⟩:=bC j y hj;obtain⟨q1,q2⟩:=hx j x y' e1 e2;obtain⟨q3,q4,q5⟩:=aD x (Jh e1);refine⟨by simp[q1],?_⟩;rw[(I6 (Cz he q2 hp q3) q5).1,q4]) (by rw[na];simp)
 have aI:=Q0l hs (.cells out el);refine⟨.slice (some ⟨w.heap.size,0,none⟩) n n,w.alloc (.cells out el),g.newPer w.heap.size,?_,aI,?_,trivial⟩
 ·simp only[execOp,hm,Instr.buildSlice,Sem.run_bind,C1 hu,Result.andThen_ok,Dm hi,br,uk];rw[if_neg ZA];by_cases h0:n * sz=0
  ·simp only[if_pos h0]at f1⊢;simp only[Sem.run_bind,Sem.run_pure,Result.andThen_ok];rw[f1];simp[newRow]
  ·simp only[if_neg h0]at f1⊢;simp only[Sem.run_bind,Sem.run_pure,Result.andThen_ok,Eu hi hz];rw[f1];simp[newRow]
 ·simp only[FOp.val];have iv:(parts.map λx=>(x.v e).cells).length=n:=by simp[hl,hn]
  refine .c _ _ ?_;have cW:∀(k:Nat) (row:List C),(parts.map λx=>(x.v e).cells)[k]? = some row->∃x y,parts[k]? = some x/\parts'[k]? = some y/\row=(x.v e).cells:=by
   intro k row hk;simp only[Jn]at hk
   cases hj:parts[k]? with
   |none=>rw[hj]at hk;simp at hk
   |some x=>
    rw[hj]at hk;simp at hk;have af:k<parts'.size:=by
     rw[<-hl];rcases Jg k parts.length with h|h
     ·exact h
     ·rw[Jf h]at hj;simp at hj
    exact⟨x,parts'[k],rfl,Jc af,hk.symm⟩
  have cj:∀(k:Nat) (row:List C) (j:Nat) (c:C),(parts.map λx=>(x.v e).cells)[k]? = some row->row[j]? = some c->∃u,out[0+k * sz+j]? = some u/\RepC w g c u:=by
   intro k row j c hk hj;obtain⟨x,y,e1,e2,rfl⟩:=cW k row hk;obtain⟨q1,q2⟩:=hx k x y e1 e2;obtain⟨q3,q4,q5⟩:=aD x (Jh e1);have hr:=I6 (Cz he q2 hp q3) q5;have gZ:j<sz:=by
    rw[<-q4];rcases Jg j (x.v e).cells.length with h|h
    ·exact h
    ·rw[Jf h]at hj;simp at hj
   have cR:j<(a.eval y.2).cells.size:=by rw[hr.1,q4];exact gZ
   have:=f4 k (y.1,a.eval y.2) j (by simp only[Jn,Ju,e2,Jq]) gZ;simp only[J5]at this⊢;rw[this];exact⟨_,Jc cR,hr.2 j c _ hj (Jc cR)⟩
  have:=RepC.sl (w:=w.alloc (.cells out el)) (g:=g.newPer w.heap.size) true sz (parts.map λx=>(x.v e).cells) w.heap.size 0 n (λk j=>out.getD (0+k * sz+j) undef)
   (by rw[iv,EY]
       have dg:n * 1<=n * sz:=Ja8 _ ZA;have AN:(2:Nat) ^ 24=16777216:=ZN;rw[AN]at sw;omega) (λ_=>iv.symm) (by rw[iv];exact Jw _) (by simp[G.newPer])
   (λk row hk=>by obtain⟨x,y,e1,e2,rfl⟩:=cW k row hk;exact (aD x (Jh e1)).2.1)
   (λk row j c hk hj=>by
    obtain⟨u,e1,e2⟩:=cj k row j c hk hj;rw[Q6k,Je,e1];rfl)
   (λk row j c hk hj=>by
    obtain⟨u,e1,e2⟩:=cj k row j c hk hj;simp only[Je,e1,Jv];exact e2.mono aI.le)
  rw[iv]at this;exact this
end
section
open Go.MapKept (IsKey findNow_spec run_checkKey run_findKey run_keyThatStays)
variable{H:Heap}{w:World}{e:Env}{a:Act}{o:Oper}{p:Bool}
def tagD:Nat->TypeDesc
 |0=>.int .i64
 |1=>.string
 |_=>.bool
theorem Ih{k:C}(h:DN tag k es){v:Value}(hr:RepC w g k v):IsKey (tagD tag) v:=by
 unfold DN at h;split at h
 ·rw[hr.aH];simp[tagD,IsKey]
 ·rw[hr.str_inv.1];simp[tagD,IsKey]
 ·rw[hr.bA];simp[tagD,IsKey]
 ·exact h.elim
theorem Vt{k:C}(h:DN tag k es){x:C×V}(hx:x∈es){v:Value}(hr:RepC w g x.1 v):IsKey (tagD tag) v:=by
 unfold DN at h;split at h
 ·obtain⟨n,hn⟩:=h x hx;rw[hn]at hr;rw[hr.aH];simp[tagD,IsKey]
 ·obtain⟨n,hn⟩:=h x hx;rw[hn]at hr;rw[hr.str_inv.1];simp[tagD,IsKey]
 ·obtain⟨n,hn⟩:=h x hx;rw[hn]at hr;rw[hr.bA];simp[tagD,IsKey]
 ·exact h.elim
theorem FV{k:C}(h:DN tag k es){x:C×V}(hx:x∈es){v:Value}(hr:RepC w g k u)(bd:RepC w g x.1 v) :
  CZ k x.1=true↔v=u:=by
 unfold DN at h;split at h
 ·obtain⟨n,hn⟩:=h x hx;rw[hn]at bd⊢;rw[bd.aH,hr.aH];simp only[CZ,decide_eq_true_eq,Value.int.injEq,true_and];exact eq_comm
 ·obtain⟨n,hn⟩:=h x hx;rw[hn]at bd⊢;rw[bd.str_inv.1,hr.str_inv.1];simp only[CZ,decide_eq_true_eq,Value.string.injEq,Jbr,Array.mk.injEq];exact eq_comm
 ·obtain⟨n,hn⟩:=h x hx;rw[hn]at bd⊢;rw[bd.bA,hr.bA];simp only[CZ,beq_iff_eq,Value.bool.injEq];exact eq_comm
 ·exact h.elim
theorem LP:∀(es:List (C×V)) (k:C) (j:Nat) (x:C×V),es[j]? = some x->CZ k x.1=true->(∀i y,i<j->es[i]? = some y->CZ k y.1=false)->DG k es=some x.2
 |[],_,_,_,h,_,_=>ZH
 |y::es,k,0,x,h,hk,_=>by simp at h;subst h;simp[DG,hk]
 |y::es,k,j+1,x,h,hk,hh=>by
  have h0:=hh 0 y ZA rfl;simp only[DG,h0,Jr,if_false];exact LP es k j x ZI hk λi z hi hz=>hh (i+1) z ZA ZaF
theorem Ol:∀(es:List (C×V)) (k:C),(∀x∈es,CZ k x.1=false)->DG k es=none
 |[],_,_=>rfl
 |y::es,k,h=>by
  simp only[DG,h y ZC,Jr,if_false];exact Ol es k λx hx=>h x Za4
theorem Iu{k:C}{ms:Array MapEntry}(aq:DN tag k es){kv:Value}(hk:RepC w g k kv)(br:ms.size=es.length)
  (hE:∀(i:Nat) (x:C×V) (m:MapEntry),es[i]? = some x->ms[i]? = some m->RepE w g x m)
  (hd:∀(i j:Nat) (m m':MapEntry),ms[i]? = some m->ms[j]? = some m'->(m.born=m'.born\/m.key=m'.key)->i=j) :
  (Instr.findNow (tagD tag) kv ms.toList 0=some none/\DG k es=none/\∀x∈es,CZ k x.1=false)\/
  ∃j m x,Instr.findNow (tagD tag) kv ms.toList 0=some (some (j,m.val))/\ms[j]? = some m/\m.key=kv/\es[j]? = some x/\DG k es=some x.2/\CZ k x.1=true/\
   ∀i y,i<j->es[i]? = some y->CZ k y.1=false:=by
 have pair:∀(i:Nat) (m:MapEntry),ms[i]? = some m->∃x,es[i]? = some x:=by
  intro i m hm;have:i<es.length:=by
   rw[<-br];rcases Jg i ms.size with h|h
   ·exact h
   ·rw[Jj h]at hm;simp at hm
  exact⟨_,Jd this⟩
 have pair':∀(i:Nat) (x:C×V),es[i]? = some x->∃m,ms[i]? = some m:=by
  intro i x hx;have:i<ms.size:=by
   rw[br];rcases Jg i es.length with h|h
   ·exact h
   ·rw[Jf h]at hx;simp at hx
  exact⟨_,Jc this⟩
 have uP:∀m∈ms.toList,IsKey (tagD tag) m.key:=by
  intro m hm;obtain⟨i,hi⟩:=J2 hm;obtain⟨x,hx⟩:=pair i m ZV;exact Vt aq (Jh hx) (hE i x m hx ZV).1
 rcases findNow_spec (Ih aq hk) ms.toList 0 uP with ⟨h1,h2⟩|⟨j,m,h1,h2,h3⟩
 ·have b7:∀x∈es,CZ k x.1=false:=by
   intro x hx;obtain⟨i,hi⟩:=J2 hx;obtain⟨m,hm⟩:=pair' i x hi;have:=h2 m (by have:=Jh (l:=ms.toList) (i:=i) (a:=m) (by simpa using hm);exact this)
   cases hq:CZ k x.1 with
   |false=>rfl
   |true=>exact absurd ((FV aq hx hk (hE i x m hi hm).1).1 hq) this
  exact .inl ⟨h1,Ol es k b7,b7⟩
 ·have hm:ms[j]? = some m:=Zab
  obtain⟨x,hx⟩:=pair j m hm;have hq:=(FV aq (Jh hx) hk (hE j x m hx hm).1).2 h3;have nq:∀i y,i<j->es[i]? = some y->CZ k y.1=false:=by
   intro i y hi hy;obtain⟨m',fg⟩:=pair' i y hy
   cases Bh:CZ k y.1 with
   |false=>rfl
   |true=>
    have e1:=(FV aq (Jh hy) hk (hE i y m' hy fg).1).1 Bh;have:=hd i j m' m fg hm (.inr (e1.trans h3.symm));omega
  exact .inr ⟨j,m,x,ZX,hm,h3,hx,LP es k j x hx hq nq,hq,nq⟩
def EG:V->Value->Bool
 |.c x,v=>Gv x v
 |.ag cs,.agg vs=>D6 cs (.agg vs)
 |_,_=>false
theorem Ix {x:V}{v:Value}(h:EG x v=true):RepV w g x v:=by
 unfold EG at h;split at h
 ·exact .c _ _ (Ms h)
 ·rename_i cs vs
  have:=Iy (w:=w) (g:=g) h;obtain⟨h1,h2⟩:=this;have hv:vs=vs.toList.toArray:=ZC
  rw[hv];exact .ag cs vs.toList (by simpa[Value.cells]using h1) λj c u e1 e2=>h2 j c u e1 (by simpa[Value.cells]using e2)
 ·simp at h
theorem Qa9f{zero:V}{x k:Opd}{k':Operand}{kt et:TypeId}{i:TypeInfo}(hm:o.op=.lookup t x' k' false)(hu:P.underlying t=some (.map kt et))
  (hk:P.underlying kt=some (tagD tag)) (hi:P.info? et=some i) (hz:i.zero=some z) (cw:EG zero z=true) (hx:mO x x'=true) (fD:mO k k'=true)
  (hs:Sat H g w) (he:EnvOk w g e a) (hp:p=true) (ho:(FOp.lup tag zero x k).obl p e H):FOk P H g w e a o (.lup tag zero x k):=by
 simp only[FOp.obl]at ho;obtain⟨h1,h2,h3,h4,h5,h6⟩:=ho;have hr:=Cz he hx hp h1;have m8:=Cz he fD hp h2;rw[Dh h3]at hr;rw[Dh h4]at m8;have oS:=m8.aN;have dv:=Ih h6 oS;have pM:(v:Value)->(DG (k.v e).c1 (CI H (x.v e).c1)).getD zero=(FOp.lup tag zero x k).val e H:=λ_=>rfl;generalize fR:(x.v e).c1=cc at *;generalize eL:(k.v e).c1=kc at *;have lR:=hr.aN;generalize iM:a.eval x'=xv at lR hr;have sn:=lR
 cases lR with
 |mp l b bK=>
  simp only[DD]at h5;split at h5
  ·rename_i n es hH
   have bf:=hs.objs l;rw[hH]at bf;obtain⟨b',ms,clock,k1,k2,k3,k4,k5,k6,k7,k8⟩:=bf;rw[bK]at k1;simp only[Jb,Jo,and_true]at k1;subst k1;simp only[CI,hH]at h6;have cO:(getObj b).run P w=.ok (.map ms clock) w:=by simp[getObj,Sem.run,k3]
   rcases Iu h6 oS k4 k6 k8 with ⟨f1,f2,f3⟩|⟨j,m,y,f1,f2,f3,f4,f5,f6,f7⟩
   ·refine .mk' hs (v:=z) ?_ ?_ trivial
    ·simp only[execOp,hm,iM,Instr.lookup,Sem.run_bind,C1 hu,Result.andThen_ok,cO,Sem.run_pure,run_checkKey hk dv _ 9999,run_findKey hk f1,Eu hi hz];simp
    ·simp only[FOp.val,fR,eL,CI,hH,f2,Jy];exact Ix cw
   ·refine .mk' hs (v:=m.val) ?_ ?_ trivial
    ·simp only[execOp,hm,iM,Instr.lookup,Sem.run_bind,C1 hu,Result.andThen_ok,cO,Sem.run_pure,run_checkKey hk dv _ 9999,run_findKey hk f1];simp
    ·simp only[FOp.val,fR,eL,CI,hH,f5,Jv];exact (k6 j y m f4 f2).2
  ·exact h5.elim
 |cm _ _ _ b0=>
  obtain⟨b,ms,clock,q1,q2,q3,q4,q5,q6⟩:=Hi (H:=H) sn;simp only[Value.map.injEq,Jb]at q1;subst q1;have cO:(getObj b0).run P w=.ok (.map ms clock) w:=by simp only[getObj,Sem.run,q2]
  rcases Iu h6 oS q3 q5 q6 with ⟨f1,f2,f3⟩|⟨j,m,y,f1,f2,f3,f4,f5,f6,f7⟩
  ·refine .mk' hs (v:=z) ?_ ?_ trivial
   ·simp only[execOp,hm,iM,Instr.lookup,Sem.run_bind,C1 hu,Result.andThen_ok,cO,Sem.run_pure,run_checkKey hk dv _ 9999,run_findKey hk f1,Eu hi hz];simp
   ·simp only[FOp.val,fR,eL,f2,Jy];exact Ix cw
  ·refine .mk' hs (v:=m.val) ?_ ?_ trivial
   ·simp only[execOp,hm,iM,Instr.lookup,Sem.run_bind,C1 hu,Result.andThen_ok,cO,Sem.run_pure,run_checkKey hk dv _ 9999,run_findKey hk f1];simp
   ·simp only[FOp.val,fR,eL,f5,Jv];exact (q5 j y m f4 f2).2
 |mnil=>
  refine .mk' hs (v:=z) ?_ ?_ trivial
  ·have ib:Instr.findNow (tagD tag) (a.eval k') ([]:List MapEntry) 0=some none:=rfl;have zO:=run_findKey (P:=P) (w:=w) (kt:=kt) (k:=a.eval k') (l:=[]) hk ib;simp only[execOp,hm,iM,Instr.lookup,Sem.run_bind,C1 hu,Result.andThen_ok,Sem.run_pure,run_checkKey hk dv _ 9999,zO,Eu hi hz];simp
  ·simp only[FOp.val,fR,eL,CI,DG,Jy];exact Ix cw
 |_=>simp[DD]at h5
theorem Qa7y{zero:V}{x k:Opd}{k':Operand}{kt et:TypeId}{i:TypeInfo}(hm:o.op=.lookup t x' k' true)(hu:P.underlying t=some (.map kt et))
  (hk:P.underlying kt=some (tagD tag)) (hi:P.info? et=some i) (hz:i.zero=some z) (cw:EG zero z=true) (hx:mO x x'=true) (fD:mO k k'=true)
  (hs:Sat H g w) (he:EnvOk w g e a) (hp:p=true) (ho:(FOp.lup2 tag zero x k).obl p e H):FOk P H g w e a o (.lup2 tag zero x k):=by
 simp only[FOp.obl]at ho;obtain⟨h1,h2,h3,h4,h5,h6⟩:=ho;have hr:=Cz he hx hp h1;have m8:=Cz he fD hp h2;rw[Dh h3]at hr;rw[Dh h4]at m8;have oS:=m8.aN;have dv:=Ih h6 oS;have two:∀{y:V} {v:Value} {b:Bool},RepV w g y v->RepV w g (.tup [y,.c (.bool b)]) (.tuple #[v,.bool b]):=λ{y v b} h=>
  .tup [y,.c (.bool b)] [v,.bool b] rfl λj x u e1 e2=>by
   match j with
   |0=>cases e1;cases e2;exact h
   |1=>cases e1;cases e2;exact .c _ _ (.bool b)
   |j+2=>simp at e1
 generalize fR:(x.v e).c1=cc at *;generalize eL:(k.v e).c1=kc at *;have lR:=hr.aN;generalize iM:a.eval x'=xv at lR hr;have sn:=lR
 cases lR with
 |mp l b bK=>
  simp only[DD]at h5;split at h5
  ·rename_i n es hH
   have bf:=hs.objs l;rw[hH]at bf;obtain⟨b',ms,clock,k1,k2,k3,k4,k5,k6,k7,k8⟩:=bf;rw[bK]at k1;simp only[Jb,Jo,and_true]at k1;subst k1;simp only[CI,hH]at h6;have cO:(getObj b).run P w=.ok (.map ms clock) w:=by simp[getObj,Sem.run,k3]
   rcases Iu h6 oS k4 k6 k8 with ⟨f1,f2,f3⟩|⟨j,m,y,f1,f2,f3,f4,f5,f6,f7⟩
   ·refine .mk' hs (v:=.tuple #[z,.bool false]) ?_ ?_ trivial
    ·simp only[execOp,hm,iM,Instr.lookup,Sem.run_bind,C1 hu,Result.andThen_ok,cO,Sem.run_pure,run_checkKey hk dv _ 9999,run_findKey hk f1,Eu hi hz];simp
    ·simp only[FOp.val,fR,eL,CI,hH,f2,Jy,Jah];exact two (Ix cw)
   ·refine .mk' hs (v:=.tuple #[m.val,.bool true]) ?_ ?_ trivial
    ·simp only[execOp,hm,iM,Instr.lookup,Sem.run_bind,C1 hu,Result.andThen_ok,cO,Sem.run_pure,run_checkKey hk dv _ 9999,run_findKey hk f1];simp
    ·simp only[FOp.val,fR,eL,CI,hH,f5,Jv,Option.isSome_some];exact two (k6 j y m f4 f2).2
  ·exact h5.elim
 |cm _ _ _ b0=>
  obtain⟨b,ms,clock,q1,q2,q3,q4,q5,q6⟩:=Hi (H:=H) sn;simp only[Value.map.injEq,Jb]at q1;subst q1;have cO:(getObj b0).run P w=.ok (.map ms clock) w:=by simp only[getObj,Sem.run,q2]
  rcases Iu h6 oS q3 q5 q6 with ⟨f1,f2,f3⟩|⟨j,m,y,f1,f2,f3,f4,f5,f6,f7⟩
  ·refine .mk' hs (v:=.tuple #[z,.bool false]) ?_ ?_ trivial
   ·simp only[execOp,hm,iM,Instr.lookup,Sem.run_bind,C1 hu,Result.andThen_ok,cO,Sem.run_pure,run_checkKey hk dv _ 9999,run_findKey hk f1,Eu hi hz];simp
   ·simp only[FOp.val,fR,eL,f2,Jy,Jah];exact two (Ix cw)
  ·refine .mk' hs (v:=.tuple #[m.val,.bool true]) ?_ ?_ trivial
   ·simp only[execOp,hm,iM,Instr.lookup,Sem.run_bind,C1 hu,Result.andThen_ok,cO,Sem.run_pure,run_checkKey hk dv _ 9999,run_findKey hk f1];simp
   ·simp only[FOp.val,fR,eL,f5,Jv,Option.isSome_some];exact two (q5 j y m f4 f2).2
 |mnil=>
  refine .mk' hs (v:=.tuple #[z,.bool false]) ?_ ?_ trivial
  ·have ib:Instr.findNow (tagD tag) (a.eval k') ([]:List MapEntry) 0=some none:=rfl;have zO:=run_findKey (P:=P) (w:=w) (kt:=kt) (k:=a.eval k') (l:=[]) hk ib;simp only[execOp,hm,iM,Instr.lookup,Sem.run_bind,C1 hu,Result.andThen_ok,Sem.run_pure,run_checkKey hk dv _ 9999,zO,Eu hi hz];simp
  ·simp only[FOp.val,fR,eL,CI,DG,Jy,Jah];exact two (Ix cw)
 |_=>simp[DD]at h5
end
section
variable{H:Heap}{w:World}{e:Env}{a:Act}{o:Oper}{p:Bool}
def EQ (P:Program)(fs:Array Field)(zl:Nat):List (Nat×Nat×Opd)->List (Nat×Operand)->Bool
 |[],[]=>true
 |(off,sz,x)::r,(i,y)::r'=>mO x y&&(match fs[i]? with
   |some f=>f.offset == off&&P.cellsOf f.type == sz
   |none=>false)&&decide (off+sz<=zl)&&decide (sz≠0)&&EQ P fs zl r r'
 |_,_=>false
def mRow:Nat->List Opd->List (Nat×Operand)->Bool
 |_,[],[]=>true
 |k,x::r,(i,y)::r'=>i == k&&mO x y&&mRow (k+1) r r'
 |_,_,_=>false
def mOs:List Opd->List Operand->Bool
 |[],[]=>true
 |x::r,y::r'=>mO x y&&mOs r r'
 |_,_=>false
theorem HG:∀(xs:List Opd) (ys:List Operand),mOs xs ys=true->xs.length=ys.length/\∀(j:Nat) (x:Opd) (y:Operand),xs[j]? = some x->ys[j]? = some y->mO x y=true
 |[],[],_=>⟨rfl,ZC⟩
 |[],_::_,h=>by simp[mOs]at h
 |_::_,[],h=>by simp[mOs]at h
 |x::r,y::r',h=>by
  simp only[mOs,Ja]at h;obtain⟨h1,h2⟩:=HG r r' h.2;refine⟨Zbn,λj x' y' e1 e2=>?_⟩
  cases j with
  |zero=>simp at e1 e2;subst e1;subst e2;exact h.1
  |succ j=>exact h2 j x' y' ZaW Zaf
theorem Q55 {fs:Array Field}{zl:Nat}:∀(xs:List (Nat×Nat×Opd)) (ys:List (Nat×Operand)),EQ P fs zl xs ys=true->
  xs.length=ys.length/\∀(j:Nat) (x:Nat×Nat×Opd) (y:Nat×Operand),xs[j]? = some x->ys[j]? = some y->
   mO x.2.2 y.2=true/\(∃f,fs[y.1]? = some f/\f.offset=x.1/\P.cellsOf f.type=x.2.1)/\x.1+x.2.1<=zl/\x.2.1≠0
 |[],[],_=>⟨rfl,ZC⟩
 |[],_::_,h=>by simp[EQ]at h
 |_::_,[],h=>by simp[EQ]at h
 |(off,sz,x)::r,(i,y)::r',h=>by
  simp only[EQ,Ja,decide_eq_true_eq]at h;obtain⟨⟨⟨⟨h1,h2⟩,h3⟩,h4⟩,h5⟩:=h;obtain⟨k1,k2⟩:=Q55 r r' h5;refine⟨ZaG,λj x' y' e1 e2=>?_⟩
  cases j with
  |zero=>
   simp at e1 e2;subst e1;subst e2;refine⟨h1,?_,h3,h4⟩;split at h2
   ·rename_i f hf;simp at h2;exact⟨f,hf,h2.1,h2.2⟩
   ·simp at h2
  |succ j=>exact k2 j x' y' ZaW Zaf
theorem Q56:∀(k:Nat) (xs:List Opd) (ys:List (Nat×Operand)),mRow k xs ys=true->
  xs.length=ys.length/\∀(j:Nat) (x:Opd) (y:Nat×Operand),xs[j]? = some x->ys[j]? = some y->y.1=k+j/\mO x y.2=true
 |_,[],[],_=>⟨rfl,ZC⟩
 |_,[],_::_,h=>by simp[mRow]at h
 |_,_::_,[],h=>by simp[mRow]at h
 |k,x::r,(i,y)::r',h=>by
  simp only[mRow,Ja,beq_iff_eq]at h;obtain⟨⟨h1,h2⟩,h3⟩:=h;obtain⟨k1,k2⟩:=Q56 (k+1) r r' h3;refine⟨ZaG,λj x' y' e1 e2=>?_⟩
  cases j with
  |zero=>simp at e1 e2;subst e1;subst e2;exact⟨Zbn,h2⟩
  |succ j=>
   have:=k2 j x' y' ZaW Zaf;exact⟨by rw[this.1];omega,this.2⟩
def El (P:Program)(t:TypeId)(n:Nat)(agg:Bool):Bool:=
 match P.underlying t,P.info? t with
 |some d,some i=>Ed d == agg&&(if agg then i.size == n else n == 1)
 |_,_=>false
theorem Kd{n:Nat}(h:El P t n agg=true) :
  ∃d i,P.underlying t=some d/\P.info? t=some i/\Ed d=agg/\(agg=true->i.size=n)/\(agg=false->n=1):=by
 unfold El at h;split at h
 ·rename_i d i hd hi
  simp only[Ja,beq_iff_eq]at h;refine⟨d,i,hd,hi,h.1,λha=>?_,λha=>?_⟩
  ·subst ha;simpa using h.2
  ·subst ha;simpa using h.2
 ·simp at h
def D7 (P:Program)(t:TypeId)(sz:Nat):Bool:=
 match P.info? t with
 |some i=>i.size == sz
 |none=>false
theorem GW{sz:Nat}(h:D7 P t sz=true):∃i,P.info? t=some i/\i.size=sz:=by
 unfold D7 at h;split at h
 ·rename_i i hi;exact⟨i,hi,ZI⟩
 ·simp at h
def EH (P:Program)(t:TypeId)(zero:List C):Bool:=
 match P.info? t with
 |some i=>(match i.zero with
  |some z=>D6 zero z
  |none=>false)
 |none=>false
theorem Kc(h:EH P t zero=true):∃i z,P.info? t=some i/\i.zero=some z/\D6 zero z=true:=by
 unfold EH at h;split at h
 ·rename_i i hi
  split at h
  ·rename_i z hz;exact⟨i,z,hi,hz,h⟩
  ·simp at h
 ·simp at h
def Fh (d:TypeDesc)(tag:Nat):Bool:=
 match d,tag with
 |.int .i64,0=>true
 |.string,1=>true
 |.bool,2=>true
 |_,_=>false
theorem R0 {d:TypeDesc}(h:Fh d tag=true):d=tagD tag:=by
 unfold Fh at h;split at h <;> first|rfl|simp at h
def mF (P:Program)(o:Oper):FOp->Bool
 |.mv x=>match o.op with
  |.move y=>mO x y
  |.assign y=>mO x y
  |_=>false
 |.pick c a b=>match o.op with
  |.pick c' a' b'=>mO c c'&&mO a a'&&mO b b'
  |_=>false
 |.bin tag op a b=>match o.op with
  |.binOp op' t a' b' _=>op == op'&&mTag P tag t&&mO a a'&&mO b b'
  |_=>false
 |.not a=>match o.op with
  |.unOp .not _ a'=>mO a a'
  |_=>false
 |.fad off a=>match o.op with
  |.fieldAddr s y k=>mO a y&&(match P.underlying s with
   |some (.struct fs)=>(match fs[k]? with
    |some f=>f.offset == off&&(match P.info? f.type with
     |some i=>decide (i.size≠0)
     |none=>false)
    |none=>false)
   |_=>false)
  |_=>false
 |.iad sz a i=>match o.op with
  |.indexAddr t a' i'=>mO a a'&&mO i i'&&(match P.underlying t with
   |some (.slice el)=>D7 P el sz
   |_=>false)
  |_=>false
 |.ld n agg a=>match o.op with
  |.load t a'=>mO a a'&&El P t n agg
  |_=>false
 |.nck a=>match o.op with
  |.nilCheck a'=>mO a a'
  |_=>false
 |.len a=>match o.op with
  |.call { callee:=.builtin .len,args:=⟨[a']⟩,argTypes:=ats }=>mO a a'&&(match ats[0]? with
   |some t=>(match P.underlying t with
    |some (.slice _)=>true
    |_=>false)
   |none=>false)
  |_=>false
 |.lenx a=>false
 |.lens a=>match o.op with
  |.call { callee:=.builtin .len,args:=⟨[a']⟩,argTypes:=ats }=>mO a a'&&(match ats[0]? with
   |some t=>(match P.underlying t with
    |some .string=>true
    |_=>false)
   |none=>false)
  |_=>false
 |.lensx a=>false
 |.lenm a=>false
 |.sli sz a lo hi=>match o.op with
  |.slice t a' lo' bZ none=>mO a a'&&mOpt lo lo'&&mOpt hi bZ&&(match P.underlying t with
   |some (.slice el)=>D7 P el sz
   |_=>false)
  |_=>false
 |.iaa sz n a i=>match o.op with
  |.indexAddr t a' i'=>mO a a'&&mO i i'&&(match P.underlying t with
   |some (.array m el)=>m == n&&D7 P el sz
   |_=>false)
  |_=>false
 |.aslp n a hi=>match o.op with
  |.slice t a' none bZ none=>mO a a'&&mOpt hi bZ&&(match P.underlying t with
   |some (.array m el)=>m == n&&(P.info? el).isSome
   |_=>false)
  |_=>false
 |.slm sz a hi=>false
 |.ldg n b _=>match o.op with
  |.load t (.global b')=>b' == b&&El P t n true
  |_=>false
 |.ldo b _=>false
 |.aslg n b _=>false
 |.iax sz n a i=>match o.op with
  |.index t a' i'=>mO a a'&&mO i i'&&(match P.underlying t with
   |some (.array m el)=>m == n&&El P el sz true
   |_=>false)
  |_=>false
 |.asl n a=>false
 |.slis a lo hi=>match o.op with
  |.slice t a' lo' bZ none=>mO a a'&&mOpt lo lo'&&mOpt hi bZ&&(match P.underlying t with
   |some .string=>true
   |_=>false)
  |_=>false
 |.ext a i=>match o.op with
  |.extract a' i'=>mO a a'&&i == i'
  |_=>false
 |.fld off n agg a=>match o.op with
  |.field s y k=>mO a y&&(match P.underlying s with
   |some (.struct fs)=>(match fs[k]? with
    |some f=>f.offset == off&&El P f.type n agg
    |none=>false)
   |_=>false)
  |_=>false
 |.idx a i=>match o.op with
  |.index t a' i'=>mO a a'&&mO i i'&&(match P.underlying t with
   |some .string=>true
   |_=>false)
  |_=>false
 |.bld zero parts=>match o.op with
  |.build t parts'=>(match P.underlying t with
   |some (.struct fs)=>EH P t zero&&fs.toList.all (λf=>(P.info? f.type).isSome)&&EQ P fs zero.length parts parts'.toList
   |_=>false)
  |_=>false
 |.lz sz parts=>match o.op with
  |.buildSlice t n parts'=>n == parts'.size&&decide (n * sz<=2 ^ 24)&&mRow 0 parts parts'.toList&&decide (sz≠0)&&(match P.underlying t with
   |some (.slice el)=>D7 P el sz&&(match P.info? el with
    |some i=>i.zero.isSome
    |none=>false)
   |_=>false)
  |_=>false
 |.box a=>match o.op with
  |.box _ a'=>mO a a'
  |_=>false
 |.cvt k a=>match o.op with
  |.convert src dst a'=>mO a a'&&(match P.underlying dst,P.underlying src with
   |some (.int k'),some _=>k == k'
   |_,_=>false)
  |_=>false
 |.mkf f caps=>match o.op with
  |.makeFunc (.func f') ⟨[]⟩ caps'=>f == f'&&mOs caps caps'.toList
  |_=>false
 |.lup tag zero m k=>match o.op with
  |.lookup t m' k' false=>mO m m'&&mO k k'&&(match P.underlying t with
   |some (.map kt et)=>(match P.underlying kt with
    |some d=>Fh d tag
    |none=>false)&&(match P.info? et with
    |some i=>(match i.zero with
     |some z=>EG zero z
     |none=>false)
    |none=>false)
   |_=>false)
  |_=>false
 |.lup2 tag zero m k=>match o.op with
  |.lookup t m' k' true=>mO m m'&&mO k k'&&(match P.underlying t with
   |some (.map kt et)=>(match P.underlying kt with
    |some d=>Fh d tag
    |none=>false)&&(match P.info? et with
    |some i=>(match i.zero with
     |some z=>EG zero z
     |none=>false)
    |none=>false)
   |_=>false)
  |_=>false
 |.mx a b=>false
 |.mn a b=>match o.op with
  |.call { callee:=.builtin .min,args:=⟨[a',b']⟩,argTypes:=_ }=>mO a a'&&mO b b'
  |_=>false
theorem MM {op:FOp}(hm:mF P o op=true)(hs:Sat H g w)(he:EnvOk w g e a)(hp:p=true)(ho:op.obl p e H):FOk P H g w e a o op:=by
 cases op with
 |mv x=>
  simp only[mF]at hm;split at hm
  ·exact s_mv (.inl ‹_›) hm hs he hp ho
  ·exact s_mv (.inr ‹_›) hm hs he hp ho
  ·simp at hm
 |pick c x y=>
  simp only[mF]at hm;split at hm
  ·simp only[Ja]at hm;exact Qa7z ‹_› hm.1.1 hm.1.2 hm.2 hs he hp ho
  ·simp at hm
 |bin tag bo x y=>
  simp only[mF]at hm;split at hm
  ·simp only[Ja,beq_iff_eq]at hm;obtain⟨⟨⟨rfl,h2⟩,h3⟩,h4⟩:=hm;exact Qa80 ‹_› h2 h3 h4 hs he hp ho
  ·simp at hm
 |not x=>
  simp only[mF]at hm;split at hm
  ·exact Qa9i ‹_› hm hs he hp ho
  ·simp at hm
 |fad off x=>
  simp only[mF]at hm;split at hm
  ·rename_i s y k bB
   rw[Ja]at hm;obtain⟨h1,h2⟩:=hm;split at h2
   ·rename_i fs sa
    split at h2
    ·rename_i f hf
     rw[Ja]at h2;obtain⟨h3,h4⟩:=h2;split at h4
     ·rename_i i hi
      exact Qa86 bB sa hf (by simpa using h3) hi (by simpa using h4) h1 hs he hp ho
     ·simp at h4
    ·simp at h2
   ·simp at h2
  ·simp at hm
 |iad sz x y=>
  simp only[mF]at hm;split at hm
  ·rename_i t x' y' bB
   simp only[Ja]at hm;obtain⟨⟨h1,h2⟩,h3⟩:=hm;split at h3
   ·rename_i el gJ
    obtain⟨i,hi,hz⟩:=GW h3;exact Qa89 bB gJ hi hz h1 h2 hs he hp ho
   ·simp at h3
  ·simp at hm
 |ld n agg x=>
  simp only[mF]at hm;split at hm
  ·rename_i t x' bB
   rw[Ja]at hm;obtain⟨d,i,h1,h2,h3,h4,h5⟩:=Kd hm.2;exact s_ld bB h1 h2 h3 h4 h5 hm.1 hs he hp ho
  ·simp at hm
 |nck x=>
  simp only[mF]at hm;split at hm
  ·exact Qa9h ‹_› hm hs he hp ho
  ·simp at hm
 |len x=>
  simp only[mF]at hm;split at hm
  ·rename_i x' ats bB
   rw[Ja]at hm;obtain⟨h1,h2⟩:=hm;split at h2
   ·rename_i t ht
    split at h2
    ·exact Qa9e bB ht ‹_› h1 hs he hp ho
    ·simp at h2
   ·simp at h2
  ·simp at hm
 |lenx x=>
  simp[mF]at hm
 |lens x=>
  simp only[mF]at hm;split at hm
  ·rename_i x' ats bB
   rw[Ja]at hm;obtain⟨h1,h2⟩:=hm;split at h2
   ·rename_i t ht
    split at h2
    ·exact Qa7x bB ht ‹_› h1 hs he hp ho
    ·simp at h2
   ·simp at h2
  ·simp at hm
 |lensx x=>
  simp[mF]at hm
 |lenm x=>
  simp[mF]at hm
 |sli sz x lo hi=>
  simp only[mF]at hm;split at hm
  ·rename_i t x' lo' bZ bB
   simp only[Ja]at hm;obtain⟨⟨⟨h1,h2⟩,h3⟩,h4⟩:=hm;split at h4
   ·rename_i el gJ
    obtain⟨i,hi,hz⟩:=GW h4;exact Qa9j bB gJ hi hz h1 h2 h3 hs he hp ho
   ·simp at h4
  ·simp at hm
 |iaa sz n x y=>
  simp only[mF]at hm;split at hm
  ·rename_i t x' y' bB
   simp only[Ja]at hm;obtain⟨⟨h1,h2⟩,h3⟩:=hm;split at h3
   ·rename_i m el gJ
    rw[Ja,beq_iff_eq]at h3;obtain⟨rfl,h3⟩:=h3;obtain⟨i,hi,hz⟩:=GW h3;exact Qa88 bB gJ hi hz h1 h2 hs he hp ho
   ·simp at h3
  ·simp at hm
 |aslp n x hi=>
  simp only[mF]at hm;split at hm
  ·rename_i t x' bZ bB
   simp only[Ja]at hm;obtain⟨⟨h1,h4⟩,h2⟩:=hm;split at h2
   ·rename_i m el eV
    rw[Ja,beq_iff_eq]at h2;obtain⟨rfl,h3⟩:=h2;obtain⟨i,hi⟩:=J3.1 h3;exact Qa7s bB eV hi h1 h4 hs he hp ho
   ·simp at h2
  ·simp at hm
 |slm sz x hi=>
  simp[mF]at hm
 |ldg n b l=>
  simp only[mF]at hm;split at hm
  ·rename_i t b' bB
   simp only[Ja,beq_iff_eq]at hm;obtain⟨rfl,h2⟩:=hm;obtain⟨d,i,k1,k2,k3,k4,k5⟩:=Kd h2;exact Qa9d bB k1 k2 k3 (k4 rfl) hs ho
  ·simp at hm
 |ldo b l=>
  simp[mF]at hm
 |aslg n b l=>
  simp[mF]at hm
 |iax sz n x y=>
  simp only[mF]at hm;split at hm
  ·rename_i t x' y' bB
   simp only[Ja]at hm;obtain⟨⟨h1,h2⟩,h3⟩:=hm;split at h3
   ·rename_i m el gJ
    rw[Ja,beq_iff_eq]at h3;obtain⟨rfl,h3⟩:=h3;obtain⟨d,i,k1,k2,k3,k4,k5⟩:=Kd h3;exact Qa9a bB gJ k1 k3 k2 (k4 rfl) h1 h2 hs he hp ho
   ·simp at h3
  ·simp at hm
 |asl n x=>
  simp[mF]at hm
 |slis x lo hi=>
  simp only[mF]at hm;split at hm
  ·rename_i t x' lo' bZ bB
   simp only[Ja]at hm;obtain⟨⟨⟨h1,h2⟩,h3⟩,h4⟩:=hm;split at h4
   ·exact Qa70 bB ‹_› h1 h2 h3 hs he hp ho
   ·simp at h4
  ·simp at hm
 |ext x i=>
  simp only[mF]at hm;split at hm
  ·rename_i x' i' bB
   simp only[Ja,beq_iff_eq]at hm;obtain⟨h1,rfl⟩:=hm;exact Qa85 bB h1 hs he hp ho
  ·simp at hm
 |fld off n agg x=>
  simp only[mF]at hm;split at hm
  ·rename_i s y k bB
   rw[Ja]at hm;obtain⟨h1,h2⟩:=hm;split at h2
   ·rename_i fs sa
    split at h2
    ·rename_i f hf
     rw[Ja]at h2;obtain⟨h3,h4⟩:=h2;obtain⟨d,i,k1,k2,k3,k4,k5⟩:=Kd h4;exact Qa87 bB sa hf (by simpa using h3) k2 k1 k3 k4 k5 h1 hs he hp ho
    ·simp at h2
   ·simp at h2
  ·simp at hm
 |idx x y=>
  simp only[mF]at hm;split at hm
  ·rename_i t x' y' bB
   simp only[Ja]at hm;obtain⟨⟨h1,h2⟩,h3⟩:=hm;split at h3
   ·exact Qa9b bB ‹_› h1 h2 hs he hp ho
   ·simp at h3
  ·simp at hm
 |bld zero parts=>
  simp only[mF]at hm;split at hm
  ·rename_i t parts' bB
   split at hm
   ·rename_i fs sa
    simp only[Ja]at hm;obtain⟨⟨h1,h2⟩,h3⟩:=hm;obtain⟨i,z,k1,k2,k3⟩:=Kc h1;obtain⟨k4,k5⟩:=Q55 _ _ h3;rw[Jav]at h2;refine Qa81 bB sa k1 k2 k3 (λf hf=>J3.1 (h2 f hf)) (by simpa using k4) (λj x y e1 e2=>k5 j x y e1 Zaf) hs he hp ho
   ·simp at hm
  ·simp at hm
 |lz sz parts=>
  simp only[mF]at hm;split at hm
  ·rename_i t n parts' bB
   simp only[Ja,decide_eq_true_eq,beq_iff_eq]at hm;obtain⟨⟨⟨⟨h1,h2⟩,h3⟩,h4⟩,h5⟩:=hm;split at h5
   ·rename_i el gJ
    rw[Ja]at h5;obtain⟨i,hi,hz⟩:=GW h5.1;have h6:=h5.2;rw[hi]at h6;obtain⟨z,dt⟩:=J3.1 h6;obtain⟨k1,k2⟩:=Q56 _ _ _ h3;exact Qa83 bB gJ hi dt hz h4 h1 h2 (by simpa using k1) (λj x y e1 e2=>by
     have:=k2 j x y e1 Zaf;exact⟨by simpa using this.1,this.2⟩) hs he hp ho
   ·simp at h5
  ·simp at hm
 |box x=>
  simp only[mF]at hm;split at hm
  ·exact Qa82 ‹_› hm hs he hp ho
  ·simp at hm
 |cvt k x=>
  simp only[mF]at hm;split at hm
  ·rename_i src dst x' bB
   rw[Ja]at hm;obtain⟨h1,h2⟩:=hm;split at h2
   ·simp only[beq_iff_eq]at h2;subst h2;exact Qa84 bB ‹_› ‹_› h1 hs he hp ho
   ·simp at h2
  ·simp at hm
 |mkf f caps=>
  simp only[mF]at hm;split at hm
  ·rename_i f' caps' bB
   simp only[Ja,beq_iff_eq]at hm;obtain⟨rfl,h2⟩:=hm;obtain⟨k1,k2⟩:=HG _ _ h2;exact Qa9g bB (by simpa using k1) (λj x y e1 e2=>k2 j x y e1 Zaf) hs he hp ho
  ·simp at hm
 |lup tag zero m k=>
  simp only[mF]at hm;split at hm
  ·rename_i t m' k' bB
   simp only[Ja]at hm;obtain⟨⟨h1,h2⟩,h3⟩:=hm;split at h3
   ·rename_i kt et gu
    rw[Ja]at h3;obtain⟨h4,h5⟩:=h3;split at h4
    ·rename_i d hd
     have:=R0 h4;subst this;split at h5
     ·rename_i i hi
      split at h5
      ·rename_i z hz
       exact Qa9f bB gu hd hi hz h5 h1 h2 hs he hp ho
      ·simp at h5
     ·simp at h5
    ·simp at h4
   ·simp at h3
  ·simp at hm
 |lup2 tag zero m k=>
  simp only[mF]at hm;split at hm
  ·rename_i t m' k' bB
   simp only[Ja]at hm;obtain⟨⟨h1,h2⟩,h3⟩:=hm;split at h3
   ·rename_i kt et gu
    rw[Ja]at h3;obtain⟨h4,h5⟩:=h3;split at h4
    ·rename_i d hd
     have:=R0 h4;subst this;split at h5
     ·rename_i i hi
      split at h5
      ·rename_i z hz
       exact Qa7y bB gu hd hi hz h5 h1 h2 hs he hp ho
      ·simp at h5
     ·simp at h5
    ·simp at h4
   ·simp at h3
  ·simp at hm
 |mx x y=>
  simp[mF]at hm
 |mn x y=>
  simp only[mF]at hm;split at hm
  ·simp only[Ja]at hm;exact s_mn ‹_› hm.1 hm.2 hs he hp ho
  ·simp at hm
def EOk (P:Program)(H:Heap)(g:G)(w:World)(a:Act)(o:Oper)(K:V->Heap->Prop):Prop:=
 ∀(Q:Exit->Act->World->Prop) (next:Act->World->Prop),
  (∀x v w' H' g',K x H'->Stp H g w H' g' w'->RepV w' g' x v->next (a.put o.dst v) w')->
  (∀v w' H' g',K (.pn v) H'->Stp H g w H' g' w'->Q (.panic [{ v:=v,recovered:=false }]) a w')->o.wp P a w next Q
theorem EOk.value{v:Value}{x:V}(hr:(execOp a.eval o).run P w=.ok (.value v) w')(hk:K x H')(aI:Stp H g w H' g' w')(hv:RepV w' g' x v) :
  EOk P H g w a o K:=by
 intro Q next hn jY;unfold Oper.wp;rw[hr,Oper.upon_value];exact hn x v w' H' g' hk aI hv
theorem EOk.skip {K:V->Heap->Prop}{w':World}{H':Heap}{g':G}(hr:(execOp a.eval o).run P w=.ok .skip w')(hk:K .unk H')(aI:Stp H g w H' g' w') :
  EOk P H g w a o K:=by
 intro Q next hn jY;unfold Oper.wp;rw[hr,Oper.upon_skip];exact hn .unk undef w' H' g' hk aI (.unk _)
theorem Sat.newName (hs:Sat H g w):∃l,g.io l=none/\H l=.none:=by
 obtain⟨N,hN⟩:=hs.names;exact⟨N,hN N (Jw _),hs.none_of_io (hN N (Jw _))⟩
def G.newObj (g:G)(l nb sz base:Nat):G:=
 { g with own:=λb=>if b=nb then some (l,[])else g.own b,io:=λx=>if x=l then some (nb,sz,base)else g.io x }
theorem G5 (hs:Sat H g w){l:Nat}(hl:g.io l=none)(sz base:Nat)(x:Go.Obj):Le g w (g.newObj l w.heap.size sz base) (w.alloc x):=by
 refine⟨λb hb=>⟨hb,FH _ _ (Hc hs hb)⟩,λm y hm=>?_,ZC,λb T n hn=>?_,rfl,rfl,rfl⟩
 ·simp only[G.newObj];have:m≠l:=λh=>by subst h;rw[hl]at hm;simp at hm
  rw[if_neg this];exact hm
 ·rw[PJ (FH _ _ (HE hn))];exact hn
theorem Qaio (hs:Sat H g w){l:Nat}(sz base:Nat)(x:Go.Obj)(m:Nat):E5 g w (g.newObj l w.heap.size sz base) (w.alloc x) m:=by
 intro b q hb;have:=EN hs hb;refine⟨?_,FH _ _ this⟩;simp only[G.newObj];rw[if_neg ZA];exact hb
theorem F7 (hs:Sat H g w){l:Nat}(hl:g.io l=none)(sz base:Nat)(x:Go.Obj)(ob:Obj)
  (bf:∀g',g'=g.newObj l w.heap.size sz base->SatObj (H.set l ob) g' (w.alloc x) l ob) :
  Stp H g w (H.set l ob) (g.newObj l w.heap.size sz base) (w.alloc x):=by
 have aS:=G5 hs hl sz base x;have hk:=Qaio hs (l:=l) sz base x;have hH:H l=.none:=hs.none_of_io hl;refine⟨aS,λm hm hn=>?_,⟨λb hb=>?_,?_,λb y hb=>?_,λb m q hb=>?_,λm=>?_⟩⟩
 ·have:m≠l:=λh=>by subst h;exact hm hl
  rw[Heap.aj _ _ this];exact⟨hn,λb q hb=>hk m b q hb⟩
 ·simp only[World.size_alloc]at hb;refine⟨(hs.fresh b ZA).1,?_⟩;simp only[G.newObj];rw[if_neg ZA];exact (hs.fresh b ZA).2
 ·obtain⟨N,hN⟩:=hs.names;refine⟨max N (l+1),λm hm=>?_⟩;simp only[G.newObj];rw[if_neg ZA];exact hN m ZA
 ·simp only[G.newObj]at hb;split at hb
  ·rename_i h;subst h;exact (hs.fresh _ (Jw _)).1
  ·exact hs.excl b y hb
 ·simp only[G.newObj]at hb⊢;split at hb
  ·simp at hb;obtain⟨rfl,rfl⟩:=hb;simp
  ·split
   ·simp
   ·exact hs.named b m q hb
 ·by_cases hm:m=l
  ·subst hm;rw[Heap.aF];exact bf _ rfl
  ·have ey:=Heap.aj H ob hm;rw[ey,<-ey];refine SatObj.keep hs aS (hk m) ey λm' v left cur hc v' es hv=>?_;by_cases fg:m'=l
   ·subst fg;have oH:=hs.objs m;rw[hc]at oH;obtain⟨b,mb,si,se,h1,h2,h3,h4,h5⟩:=oH;rw[hl]at h4;simp at h4
   ·rw[Heap.aj _ _ fg]at hv;exact .inl ⟨hv,hk m'⟩
theorem Ss {l:Nat}{cells:List C}{vs:Array Value}{T:TypeId}(hr:∀(j:Nat) (c:C) (u:Value),cells[j]? = some c->vs[j]? = some u->RepC w g c u)(br:vs.size=cells.length)
  (aS:Le g w (g.newObj l w.heap.size cells.length 0) (w.alloc (.cells vs T))) :
  SatObj H' (g.newObj l w.heap.size cells.length 0) (w.alloc (.cells vs T)) l (.st cells):=by
 refine⟨w.heap.size,cells.length,T,vs,ZK,ZK,EA _ _,br,λk c v h1 h2=>.plain _ _ _ _ ((hr k c v h1 h2).mono aS)⟩
theorem Qa3f {cells:List C}{i:TypeInfo}(hm:o.op=.alloc t)(hi:P.info? t=some i)(hz:i.zero=some z)(cw:D6 cells z=true)
  (hs:Sat H g w) (ho:(EOp.alloc cells).eff P p e H K):EOk P H g w a o K:=by
 obtain⟨l,hl,hH⟩:=hs.newName;have hr:=Iy (w:=w) (g:=g) cw;have aS:=G5 hs hl cells.length 0 (.cells z.cells t);have aI:=F7 hs hl cells.length 0 (.cells z.cells t) (.st cells) (λg' hg=>by subst hg;exact Ss hr.2 hr.1 aS);refine EOk.value (v:=.pointer (some ⟨w.heap.size,0,none⟩)) (x:=.c (.ptr l 0)) ?_ (ho l hH) aI ?_
 ·simp[execOp,hm,Instr.alloc,Eu hi hz,newVar,newRow]
 ·exact .c _ _ (.ptr l 0 w.heap.size cells.length 0 ZK)
theorem Qa6l {x:Opd}(hm:o.op=.box t x')(hx:mO x x'=true)
  (hs:Sat H g w) (he:EnvOk w g e a) (hp:p=true) (ho:(EOp.boxm x).eff P p e H K):EOk P H g w a o K:=by
 simp only[EOp.eff]at ho;obtain⟨h1,h2,h3⟩:=ho;have hr:=Cz he hx hp h1;obtain⟨hz,hc⟩:=Q49 hr h2;obtain⟨l,hl,hH⟩:=hs.newName;have aS:=G5 hs hl (x.v e).cells.length 0 (.cells (a.eval x').cells t);have aI:=F7 hs hl (x.v e).cells.length 0 (.cells (a.eval x').cells t) (.st (x.v e).cells) (λg' hg=>by subst hg;exact Ss hc hz aS);refine EOk.value (v:=.pointer (some ⟨w.heap.size,0,none⟩)) (x:=.c (.ptr l 0)) ?_ (h3 l hH) aI ?_
 ·simp[execOp,hm,Instr.box,newVar,newRow]
 ·exact .c _ _ (.ptr l 0 w.heap.size (x.v e).cells.length 0 ZK)
def World.aB (w:World)(b:Nat)(cs:Array Value)(T:TypeId):World:={ w with heap:=w.heap.setIfInBounds b (.cells cs T (0,0)) }
theorem IC{b:Nat}{T:TypeId}(h:b<w.heap.size):(World.aB w b cs T).heap[b]? = some (.cells cs T (0,0)):=by
 simp[World.aB,h]
theorem GB{b b':Nat}{T:TypeId}(h:b'≠b):(World.aB w b cs T).heap[b']? = w.heap[b']?:=by
 simp only[World.aB];rw[Jt (Ne.symm h)]
theorem Q4k{b k:Nat}{T:TypeId}{v:Value}(h:w.heap[b]? = some (.cells cs T (0,0))) :
  w.setCell ⟨b,k,none⟩ v=World.aB w b (cs.setIfInBounds k v) T:=by
 simp only[World.setCell,World.aB];congr 1;apply Jae;apply Jbf;intro i;simp only[Ju,J9];by_cases hi:b=i
 ·subst hi;rw[if_pos rfl,h];have af:b<w.heap.size:=by
   rcases Jg b w.heap.size with h'|h'
   ·exact h'
   ·simp[Jj h']at h
  simp[af]
 ·rw[if_neg hi,Jt hi]
theorem Qz3 (w:World)(b:Nat)(cs cs':Array Value)(T:TypeId):World.aB (World.aB w b cs T) b cs' T=World.aB w b cs' T:=by
 simp only[World.aB,Array.setIfInBounds_setIfInBounds]
theorem Ko:∀(vs:List Value) (i:Nat) (w:World) (b k:Nat) (cs:Array Value) (T:TypeId),w.heap[b]? = some (.cells cs T (0,0))->k+i+vs.length<=cs.size->(∀v∈vs,v.oneCell'=true)->
  (storeCells ⟨b,k,none⟩ vs i).run P w=.ok () (World.aB w b ((vs.zipIdx i).foldl (λ(cs:Array Value) (x:Value×Nat)=>cs.setIfInBounds (k+x.2) x.1) cs) T)
 |[],i,w,b,k,cs,T,h,_,_=>by
  simp only[storeCells,Sem.run_pure,List.zipIdx_nil,List.foldl_nil];congr 1;simp only[World.aB];have af:b<w.heap.size:=by
   rcases Jg b w.heap.size with h'|h'
   ·exact h'
   ·simp[Jj h']at h
  have:w.heap.setIfInBounds b (.cells cs T (0,0))=w.heap:=by
   apply Jae;apply Jbf;intro j;simp only[Ju];by_cases hj:b=j
   ·subst hj;rw[h];simp[af]
   ·rw[Jt hj]
  rw[this]
 |v::vs,i,w,b,k,cs,T,h,hb,hv=>by
  simp only[J8]at hb;have af:k+i<cs.size:=ZA
  have cj:w.cell? ⟨b,k+i,none⟩=some cs[k+i]:=by rw[FJ h];exact Jc af
  have ew:w.frozen? ⟨b,k+i,none⟩=false:=by simp[World.frozen?,h]
  have h1:=hv v ZC;have aI:(store ⟨b,k+i,none⟩ v).run P w=.ok () (w.setCell ⟨b,k+i,none⟩ v):=by
   rw[run_store _ _ _ _ _ h1];simp[cj,ew]
  have ko:b<w.heap.size:=by
   rcases Jg b w.heap.size with h'|h'
   ·exact h'
   ·simp[Jj h']at h
  simp only[storeCells,Sem.run_bind,Ez,aI,Result.andThen_ok];rw[Q4k h];rw[Ko vs (i+1) _ b k (cs.setIfInBounds (k+i) v) T (IC ko) ZF (λx hx=>hv x Za4)];rw[Qz3];rfl
theorem Qasp (hs:Sat H g w){l b:Nat}(hb:g.own b=some (l,[]))(br:w'.heap.size=w.heap.size)(kV:∀b',b'≠b->w'.heap[b']? = w.heap[b']?)
  (iU:∀T n,w.shape? b=some (T,n)->w'.shape? b=some (T,n)) (ht:w'.tape=w.tape) (jH:w'.os=w.os) (uy:w'.output=w.output):Le g w g w':=by
 refine⟨λb' aW=>⟨aW,kV b' λh=>?_⟩,λ_ _ h=>h,ZA,λb' T n hn=>?_,ht,jH,uy⟩
 ·subst h;rw[hs.excl _ _ hb]at aW;simp at aW
 ·by_cases h:b'=b
  ·subst h;exact iU T n hn
  ·rw[PJ (kV b' h)];exact hn
theorem Qagz {l b:Nat}(hb:g.own b=some (l,[]))(kV:∀b',b'≠b->w'.heap[b']? = w.heap[b']?){m:Nat}(hm:m≠l):E5 g w g w' m:=by
 intro b' q hq;refine⟨hq,kV b' λh=>?_⟩;subst h;rw[hb]at hq;simp at hq;exact hm hq.1.symm
theorem Km {l b:Nat}(hb:g.own b=some (l,[]))(aS:Le g w g w')(kV:∀b',b'≠b->w'.heap[b']? = w.heap[b']?)(hq:q≠[]){c:C}{v:Value}
  (h:RepO w g l q c v):RepO w' g l q c v:=by
 refine h.move aS λr b' aW=>⟨aW,kV b' λh=>?_⟩;subst h;rw[hb]at aW;simp only[Jb,Jo,true_and]at aW;have:=congrArg List.length aW;simp at this;exact hq (Jx.1 ZA)
theorem Q0k (hs:Sat H g w){l b:Nat}(hb:g.own b=some (l,[]))(br:w'.heap.size=w.heap.size)(kV:∀b',b'≠b->w'.heap[b']? = w.heap[b']?)
  (iU:∀T n,w.shape? b=some (T,n)->w'.shape? b=some (T,n)) (ht:w'.tape=w.tape) (jH:w'.os=w.os) (uy:w'.output=w.output) (ob:Obj) (iX:H l≠.none)
  (bf:Le g w g w'->SatObj (H.set l ob) g w' l ob) (qQ:∀v es,ob=.map v es->∃v0 es0,H l=.map v0 es0/\v0<v):Stp H g w (H.set l ob) g w':=by
 have aS:=Qasp hs hb br kV iU ht jH uy;have hk:=λ(m:Nat) (hm:m≠l)=>Qagz (g:=g) (w:=w) hb kV hm;refine⟨aS,λm hm hn=>?_,⟨λb' aW=>hs.fresh b' ZA,hs.names,hs.excl,hs.named,λm=>?_⟩⟩
 ·have:m≠l:=λh=>iX (h▸hn);rw[Heap.aj _ _ this];exact⟨hn,λb' q hq=>hk m this b' q hq⟩
 ·by_cases hm:m=l
  ·subst hm;rw[Heap.aF];exact bf aS
  ·have ey:=Heap.aj H ob hm;rw[ey,<-ey];refine SatObj.keep hs aS (hk m hm) ey λm' v left cur hc v' es hv=>?_;by_cases fg:m'=l
   ·subst fg;rw[Heap.aF]at hv;obtain⟨v0,es0,q1,q2⟩:=qQ v' es hv;exact .inr ⟨v0,es0,q1,q2⟩
   ·rw[Heap.aj _ _ fg]at hv;exact .inl ⟨hv,hk m' fg⟩
theorem G3{b:Nat}{x:Go.Obj}(h:w.heap[b]? = some x):b<w.heap.size:=by
 rcases Jg b w.heap.size with h'|h'
 ·exact h'
 ·simp[Jj h']at h
theorem IB (hs:Sat H g w){l b:Nat}(hb:g.own b=some (l,[])){cs':Array Value}{T:TypeId}(hw:w.heap[b]? = some (.cells cs T (0,0)))(br:cs'.size=cs.size)(ob:Obj)(iX:H l≠.none)
  (bf:Le g w g (World.aB w b cs' T)->(World.aB w b cs' T).heap[b]? = some (.cells cs' T (0,0))->SatObj (H.set l ob) g (World.aB w b cs' T) l ob)
  (qQ:∀v es,ob≠.map v es):Stp H g w (H.set l ob) g (World.aB w b cs' T):=by
 have af:=G3 hw;refine Q0k hs hb (by simp[World.aB]) (λb' h=>GB h) (λT' n hn=>?_) rfl rfl rfl ob iX (λaS=>bf aS (IC af)) (λv es h=>absurd h (qQ v es));simp only[World.shape?,hw,Jb,Jo]at hn;simp only[World.shape?,IC af,Jb,Jo];rw[br];exact hn
theorem Nl {row vs:List C}{k j:Nat}(hb:k+vs.length<=row.length):(Fx row k vs)[j]? = if k<=j/\j<k+vs.length then vs[j-k]? else row[j]?:=by
 unfold Fx;by_cases hj:k<=j/\j<k+vs.length
 ·rw[if_pos hj,Jz,Jk ZF,Ji ZF];congr 1;simp;omega
 ·rw[if_neg hj];by_cases hl:j<k
  ·rw[Jz,Ji ZF,Jp,if_pos hl]
  ·rw[Jk ZF,Js];congr 1;simp;omega
theorem Nk {row vs:List C}{k:Nat}(hb:k+vs.length<=row.length):(Fx row k vs).length=row.length:=by
 simp[Fx];omega
theorem Qa8s {n:Nat}{x y:Opd}{i:TypeInfo}(hm:o.op=.store t x' y')(hi:P.info? t=some i)(br:i.size=n)(hx:mO x x'=true)(hy:mO y y'=true)
  (hs:Sat H g w) (he:EnvOk w g e a) (hp:p=true) (ho:(EOp.sto n x y).eff P p e H K):EOk P H g w a o K:=by
 simp only[EOp.eff]at ho;obtain⟨h1,h2,h3,h4,h5,h6⟩:=ho;have hr:=Cz he hx hp h1;have jV:=Cz he hy hp h2;have cL:=I6 jV (λhn=>by rw[hn]at h4;simp at h4;omega);rw[Dh h3]at hr;have dB:=hr.aN;generalize hq:a.eval x'=xv at dB;generalize fR:(x.v e).c1=cc at dB h6;have kd:∀v∈(a.eval y').cells.toList,v.oneCell'=true:=by
  intro v hv;obtain⟨j,hj⟩:=J2 hv;have bE:(a.eval y').cells[j]? = some v:=ZS
  have af:j<(y.v e).cells.length:=by
   rw[<-cL.1];rcases Jg j (a.eval y').cells.size with h|h
   ·exact h
   ·rw[Jj h]at bE;simp at bE
  exact (cL.2 j _ v (Jd af) bE).one
 have run:∀(b k:Nat) (cs:Array Value) (T:TypeId),xv=.pointer (some ⟨b,k,none⟩)->w.heap[b]? = some (.cells cs T (0,0))->k+n<=cs.size->
   ∃cs':Array Value,(execOp a.eval o).run P w=.ok .skip (World.aB w b cs' T)/\cs'.size=cs.size/\
    ∀j,cs'[j]? = if k<=j/\j<k+n then (a.eval y').cells[j-k]? else cs[j]?:=by
  intro b k cs T hv hw hb;have ak:(a.eval y').cells.toList.length=n:=by simp[cL.1,h4]
  have hf:=λj=>It k (a.eval y').cells.toList 0 cs j ZU;refine⟨_,?_,(hf 0).1,λj=>?_⟩
  ·have sI:(a.eval y').cells.size=n:=by rw[cL.1,h4]
   simp only[execOp,hm,hq,hv,Instr.storeAt,Instr.sureAddr,Sem.run_bind,Sem.run_pure,Result.andThen_ok,storeVar,Dm hi,br];rw[if_neg (by simp[sI])];rw[Ko _ 0 w b k cs T hw ZU kd];rfl
  ·rw[(hf j).2];simp only[J0,ak,Ju]
 cases dB with
 |ptr l k b sz base bK=>
  simp only[En]at h6;split at h6
  ·rename_i cells hH
   obtain⟨h7,h8⟩:=h6;have bf:=hs.objs l;rw[hH]at bf;obtain⟨b',sz',T,cs,q1,q2,q3,q4,q5⟩:=bf;rw[bK]at q1;simp only[Jb,Jo]at q1;obtain⟨rfl,rfl,rfl⟩:=q1;obtain⟨cs',r1,r2,r3⟩:=run b (0+k) cs T rfl q3 ZA;refine EOk.skip (g':=g) r1 h8 ?_;refine IB hs q2 q3 r2 _ Zav (λaS f8=>?_) ZC;refine⟨b,sz,T,cs',bK,q2,f8,by rw[r2,q4,Nk h7],λj c v e1 e2=>?_⟩;rw[Nl h7]at e1;rw[r3]at e2;by_cases hj:k<=j/\j<k+(y.v e).cells.length
   ·rw[if_pos hj]at e1;rw[if_pos ZA]at e2;exact .plain _ _ _ _ ((cL.2 _ _ _ e1 (by rw[<-e2];congr 1;omega)).mono aS)
   ·rw[if_neg hj]at e1;rw[if_neg ZA]at e2;exact Km q2 aS (λb' h=>GB h) ZC (q5 j c v e1 e2)
  ·exact h6.elim
 |ep s z i k b off m cap dd hz bT=>
  simp only[En]at h6;split at h6
  ·simp_all
  ·rename_i l sz st nn z' i' k' iM
   simp only[C.ep.injEq]at iM;obtain⟨rfl,rfl,rfl,rfl⟩:=iM;split at h6
   ·rename_i y' rows hH
    obtain⟨rfl,rfl,h7,h8,h9,dh⟩:=h6;have bf:=hs.objs l;rw[hH]at bf
    cases dd with
    |bO=>omega
    |ah _ _ _ _ _ _ base T mm bK hn iU eG=>
     obtain⟨b',base',T',cs,val,q1,q2,q3,q4,q5,q6,q7,q8⟩:=SatVec.of bf bK;rw[bK]at q1;simp only[Jb,Jo,true_and]at q1;obtain⟨rfl,rfl⟩:=q1;have aD:rows[st+i]? = some (rows.getD (st+i) []):=by
      rw[J1,Jd ZA];rfl
     generalize de:rows.getD (st+i) []=row at aD dh;have cF:=q6 _ _ aD;have aT:(st+i) * z+z<=rows.length * z:=by
      have:(st+i+1) * z<=rows.length * z:=Jm _ ZA;rw[Jl,Jai]at this;exact this
     obtain⟨cs',r1,r2,r3⟩:=run b (base+st * z+i * z+k) cs T' rfl q3 (by
      have:st * z+i * z=(st+i) * z:=(by rw[Jl]);omega)
     refine EOk.skip (g':=g) r1 dh ?_;refine IB hs q2 q3 r2 _ Zav (λaS f8=>?_) ZC;have je:k+(y.v e).cells.length<=row.length:=ZA;have eX:∀(i2:Nat) (row2:List C) (j:Nat) (c:C),(rows.set (st+i) (Fx row k (y.v e).cells))[i2]? = some row2->row2[j]? = some c->
       ∃v,cs'[base+i2 * z+j]? = some v/\RepO (World.aB w b cs' T') g l [i2,j] c v:=by
      intro i2 row2 j c e1 e2;have aI:st * z+i * z=(st+i) * z:=(by rw[Jl]);rw[Jaq]at e1;split at e1
      ·rename_i uX
       subst uX;rw[if_pos ZA]at e1;simp only[Jb]at e1;subst e1;rw[Nl je]at e2;by_cases hj:k<=j/\j<k+(y.v e).cells.length
       ·rw[if_pos hj]at e2;have dU:j-k<(a.eval y').cells.size:=(by rw[cL.1];omega);refine⟨(a.eval y').cells[j-k],?_,?_⟩
        ·rw[r3,if_pos ZA];rw[show base+(st+i) * z+j-(base+st * z+i * z+k)=j-k by omega];exact Jc dU
        ·exact .plain _ _ _ _ ((cL.2 _ _ _ e2 (Jc dU)).mono aS)
       ·rw[if_neg hj]at e2;refine⟨val (st+i) j,?_,Km q2 aS (λb' h=>GB h) ZC (q8 _ _ _ _ aD e2)⟩;rw[r3,if_neg ZA];exact q7 _ _ _ _ aD e2
      ·rename_i uX
       have cR:=q6 _ _ e1;have gZ:j<z:=by
        rw[<-cR];rcases Jg j row2.length with h|h
        ·exact h
        ·rw[Jf h]at e2;simp at e2
       refine⟨val i2 j,?_,Km q2 aS (λb' h=>GB h) ZC (q8 _ _ _ _ e1 e2)⟩;rw[r3,if_neg ?_]
       ·exact q7 _ _ _ _ e1 e2
       ·intro ig;rcases Jg i2 (st+i)with h|h
        ·have:(i2+1) * z<=(st+i) * z:=Jm _ ZA;rw[Jl,Jai]at this;omega
        ·have:(st+i+1) * z<=i2 * z:=Jm _ ZA;rw[Jl,Jai]at this;omega
     refine .inr ⟨b,base,T',cs',λi2 j=>cs'.getD (base+i2 * z+j) undef,bK,q2,f8,by rw[r2];simpa using q4,by simpa using q5,λi2 row2 e1=>?_,λi2 row2 j c e1 e2=>?_,λi2 row2 j c e1 e2=>?_⟩
     ·rw[Jaq]at e1;split at e1
      ·rw[if_pos ZA]at e1;simp only[Jb]at e1;subst e1;rw[Nk je];exact cF
      ·exact q6 _ _ e1
     ·obtain⟨v,f1,f2⟩:=eX i2 row2 j c e1 e2;show _=some (cs'.getD (base+i2 * z+j) undef);rw[Je,f1];rfl
     ·obtain⟨v,f1,f2⟩:=eX i2 row2 j c e1 e2;show RepO _ _ _ _ _ (cs'.getD (base+i2 * z+j) undef);rw[Je,f1];exact f2
   ·exact h6.elim
  ·exact h6.elim
 |_=>simp[En]at h6
theorem GN {i j n sz:Nat}(hi:i<n)(hj:j<sz):i * sz+j<n * sz:=by
 have:(i+1) * sz<=n * sz:=Jm _ ZA;rw[Jl,Jai]at this;omega
theorem DL {q n sz:Nat}(h:q<n * sz):q / sz<n/\q % sz<sz/\q / sz * sz+q % sz=q:=by
 have hz:0<sz:=by
  rcases Jag sz with h0|h0
  ·subst h0;simp at h
  ·exact h0
 exact⟨Nat.div_lt_of_lt_mul (by rw[Ja3];exact h),Jbh _ hz,by rw[Ja3];exact Nat.div_add_mod q sz⟩
theorem GI (hs:Sat H g w){s:C}{v:Value}(h:RepC w g s v)(ho:aZ H s){sz:Nat}(hz:s.aQ=sz)(hn:∀r∈rowsOf H s,am r=true) :
  ∃f:Nat->Value,(Builtin.firstCells sz (ay s) v).run P w=.ok ((List.range (ay s * sz)).map f).toArray w/\
   (∀q,q<ay s * sz->(f q).oneCell'=true)/\
   ∀(i:Nat) (row:List C) (j:Nat) (c:C),(rowsOf H s)[i]? = some row->row[j]? = some c->RepC w g c (f (i * sz+j)):=by
 obtain⟨ad,cap,rfl,h1,h2,h3,h4⟩:=GP hs h ho;by_cases h0:ay s=0
 ·refine⟨λ_=>undef,?_,λq hq=>by rw[h0]at hq;simp at hq,λi row j c e1 _=>?_⟩
  ·rw[h0]
   cases ad with
   |none=>simp[Builtin.firstCells]
   |some x=>simp[Builtin.firstCells,loadCells,loadCellsFrom]
  ·have:(rowsOf H s)[i]? = none:=Jf ZA;rw[this]at e1;simp at e1
 ·obtain⟨b,off,rfl,h5⟩:=h4 h0;rw[hz]at h3 h5;have known:∀(i:Nat) (row:List C) (j:Nat) (c:C),(rowsOf H s)[i]? = some row->row[j]? = some c->w.cell? ⟨b,off+(i * sz+j),none⟩=some (getV w b off (i * sz+j))/\RepC w g c (getV w b off (i * sz+j)):=by
   intro i row j c e1 e2;obtain⟨u,k1,k2⟩:=h5 i row j c e1 e2 (K7 (hn row (Jh e1)) e2);rw[Jau]at k1;simp only[getV,k1,Jv];exact⟨trivial,k2⟩
  have flat:∀q,q<ay s * sz->w.cell? ⟨b,off+q,none⟩=some (getV w b off q)/\(getV w b off q).oneCell'=true:=by
   intro q hq;obtain⟨a1,a2,a3⟩:=DL hq;have e1:(rowsOf H s)[q / sz]? = some ((rowsOf H s)[q / sz]'ZA):=Jd ZA;have hl:=h3 _ _ e1;have e2:((rowsOf H s)[q / sz]'ZA)[q % sz]? = some (((rowsOf H s)[q / sz]'ZA)[q % sz]'ZA):=Jd ZA;have:=known _ _ _ _ e1 e2;rw[a3]at this;exact⟨this.1,this.2.one⟩
  refine⟨getV w b off,?_,λq hq=>(flat q hq).2,λi row j c e1 e2=>(known i row j c e1 e2).2⟩;simp only[Builtin.firstCells];exact run_loadCells w _ _ _ λj hj=>by rw[Ez];exact (flat j hj).1
theorem MI (n:Nat):∀(r c:Nat),Builtin.growBy n r c<=max c (n+(n+768) / 4)
 |0,c=>by simp[Builtin.growBy];omega
 |r+1,c=>by
  simp only[Builtin.growBy];split
  ·omega
  ·have:=MI n r (c+(c+768) / 4);omega
theorem Qarc {need cap:Nat}(h:cap<need):Builtin.nextslicecap need cap<=2 * need+512:=by
 unfold Builtin.nextslicecap;split
 ·omega
 ·split
  ·omega
  ·have:=MI need 4 cap;omega
theorem RD{ty t2 el2:TypeId}{i:TypeInfo}{sz:Nat}(h0:ats[0]? = some t)(h1:ats[1]? = some t2)(hu:P.underlying t=some (.slice el))(eV:P.underlying t2=some (.slice el2))
  (hi:P.info? el=some i) (hz:i.size=sz) {base:Option Addr} {n cap m cap2:Nat} {f:Nat->Value} (fG:n+m<=cap)
  (hf:(Builtin.firstCells sz m (.slice a2 m cap2)).run P w=.ok ((List.range (m * sz)).map f).toArray w) (aI:∀x,base=some x->(storeCells (x.add (n * sz)) ((List.range (m * sz)).map f)).run P w=.ok () w') (ft:base=none->w'=w) :
  (Builtin.append_ ats ty #[.slice base n cap,.slice a2 m cap2]).run P w=.ok (.slice base (n+m) cap) w':=by
 simp only[Builtin.append_,h0,h1];simp[C1 hu,C1 eV,Dm hi,hz,Builtin.lenOf,fG,hf]
 cases base with
 |none=>simp[ft rfl]
 |some x=>simp[aI x rfl]
theorem NV{ty t2 el2:TypeId}{i:TypeInfo}{sz:Nat}(h0:ats[0]? = some t)(h1:ats[1]? = some t2)(hu:P.underlying t=some (.slice el))(eV:P.underlying t2=some (.slice el2))
  (hi:P.info? el=some i) (hz:i.size=sz) (cw:i.zero=some z) (iq:z.cells.size=sz) (su:i.bytes<=128) (pb:i.bytes≠0) {base:Option Addr} {n cap m cap2:Nat} {f f1:Nat->Value} (fG:¬n+m<=cap) (ev:n+m<=LIM)
  (kE:(Builtin.firstCells sz m (.slice a2 m cap2)).run P w.drew=.ok ((List.range (m * sz)).map f).toArray w.drew)
  (nr:(Builtin.firstCells sz n (.slice base n cap)).run P w.drew=.ok ((List.range (n * sz)).map f1).toArray w.drew) :
  ∃(newCap:Nat) (rest:Array Value),n+m<=newCap/\rest.size=(newCap-(n+m)) * sz/\
   (Builtin.append_ ats ty #[.slice base n cap,.slice a2 m cap2]).run P w=.ok (.slice (some ⟨w.heap.size,0,none⟩) (n+m) newCap)
    (w.drew.alloc (.cells (((List.range (n * sz)).map f1).toArray++((List.range (m * sz)).map f).toArray++rest) el)):=by
 rw[EY]at ev;have wq:=Qarc (Nat.lt_of_not_le fG);have uD:Builtin.nextslicecap (n+m) cap * i.bytes<=(2 * (n+m)+512) * 128:=Nat.mul_le_mul wq su;have h48:(2:Nat) ^ 48=281474976710656:=ZN
 generalize eX:(Question.appendCap (n+m) cap el).cut (w.tape w.drawn (.appendCap (n+m) cap el))=newCap;refine⟨newCap,Builtin.zeroCells z.cells (newCap-(n+m)),?_,?_,?_⟩
 ·rw[<-eX];simp[Question.cut]
 ·simp[Builtin.zeroCells,iq]
 ·simp only[Builtin.append_,h0,h1];simp[C1 hu,C1 eV,Dm hi,hz,Builtin.lenOf,fG,Ka hi,pb];rw[if_neg ZA];simp[Question.forced,eX,nr,kE,Eu hi cw,newRow];rw[<-Jam];simp
def G.handOver (g:G)(l l' st n nb sz base:Nat):G:=
 { g with
  own:=λb=>if b=nb then some (l',[])else match g.own b with
   |none=>none
   |some (m,[])=>if m=l then none else some (m,[])
   |some (m,i::r)=>if m=l then (if st<=i/\i<st+n then some (l',(i-st)::r)else none)else some (m,i::r)
  io:=λx=>if x=l' then some (nb,sz,base)else g.io x }
theorem Qaao {l l' st n nb sz base b m:Nat}(hb:g.own b=some (m,q))(hm:m≠l)(oM:b≠nb):(g.handOver l l' st n nb sz base).own b=some (m,q):=by
 simp only[G.handOver,if_neg oM,hb]
 cases q with
 |nil=>simp[hm]
 |cons i r=>simp[hm]
theorem Qw5 {l l' st n nb sz base b i:Nat}{r:List Nat}(hb:g.own b=some (l,(st+i)::r))(hi:i<n)(oM:b≠nb):(g.handOver l l' st n nb sz base).own b=some (l',i::r):=by
 simp only[G.handOver,if_neg oM,hb];simp[hi]
theorem Q31 (hs:Sat H g w){l l':Nat}(dq:g.io l'=none)(hl:H l≠.none){st n nb sz base:Nat}{rows:List (List C)}
  (oM:(nb<w.heap.size/\g.own nb=some (l,[]))\/nb=w.heap.size) (br:w.heap.size<=w'.heap.size) (jI:nb<w'.heap.size) (o0:w'.heap.size<=max w.heap.size (nb+1)) (kV:∀b,b≠nb->b<w.heap.size->w'.heap[b]? = w.heap[b]?)
  (iU:nb<w.heap.size->∀T k,w.shape? nb=some (T,k)->w'.shape? nb=some (T,k)) (ht:w'.tape=w.tape) (jH:w'.os=w.os) (uy:w'.output=w.output)
  (bf:Le g w (g.handOver l l' st n nb sz base) w'->SatVec (g.handOver l l' st n nb sz base) w' l' sz rows) (nQ:∀v es,H l≠.map v es) :
  Stp H g w ((H.set l .none).set l' (.vec sz rows)) (g.handOver l l' st n nb sz base) w':=by
 have jJ:l≠l':=λh=>by subst h;exact hl (hs.none_of_io dq)
 have du:g.per nb=false:=by
  rcases oM with ⟨_,h⟩|h
  ·exact hs.excl _ _ h
  ·exact (hs.fresh nb ZA).1
 have aS:Le g w (g.handOver l l' st n nb sz base) w':=by
  refine⟨λb hb=>⟨hb,kV b (λh=>by subst h;rw[du]at hb;simp at hb) (Hc hs hb)⟩,λm x hm=>?_,br,λb T k hn=>?_,ht,jH,uy⟩
  ·simp only[G.handOver];have:m≠l':=λh=>by subst h;rw[dq]at hm;simp at hm
   rw[if_neg this];exact hm
  ·have af:=HE hn;by_cases h:b=nb
   ·subst h;exact iU af T k hn
   ·rw[PJ (kV b h af)];exact hn
 have be:∀(m b:Nat) (q:List Nat),g.own b=some (m,q)->m≠l->b≠nb:=by
  intro m b q hb hm h;subst h;rcases oM with ⟨_,h⟩|h
  ·rw[hb]at h;simp at h;exact hm h.1
  ·have:=EN hs hb;omega
 have hk:∀m,m≠l->E5 g w (g.handOver l l' st n nb sz base) w' m:=by
  intro m hm b q hb;have h1:=be m b q hb hm;exact⟨Qaao hb hm h1,kV b h1 (EN hs hb)⟩
 refine⟨aS,λm hm hn=>?_,⟨λb hb=>?_,?_,λb y hb=>?_,λb m q hb=>?_,λm=>?_⟩⟩
 ·have h1:m≠l':=λh=>by subst h;exact hm dq
  have h2:m≠l:=λh=>by subst h;exact hl hn
  rw[Heap.aj _ _ h1,Heap.aj _ _ h2];exact⟨hn,λb q hb=>hk m h2 b q hb⟩
 ·have h1:w.heap.size<=b:=ZA
  have h2:b≠nb:=ZA
  refine⟨(hs.fresh b h1).1,?_⟩;simp only[G.handOver,if_neg h2,(hs.fresh b h1).2]
 ·obtain⟨N,hN⟩:=hs.names;refine⟨max N (l'+1),λm hm=>?_⟩;simp only[G.handOver];rw[if_neg ZA];exact hN m ZA
 ·by_cases h:b=nb
  ·subst h;exact du
  ·have:∃z,g.own b=some z:=by
    simp only[G.handOver,if_neg h]at hb
    cases ho:g.own b with
    |none=>rw[ho]at hb;simp at hb
    |some z=>exact⟨z,rfl⟩
   obtain⟨z,hz⟩:=this;exact hs.excl b z hz
 ·simp only[G.handOver]at hb⊢;split
  ·simp
  ·rename_i fe
   split at hb
   ·simp at hb;exact absurd hb.1.symm fe
   ·split at hb
    ·simp at hb
    ·rename_i m0 ho
     split at hb
     ·simp at hb
     ·simp at hb;obtain⟨rfl,rfl⟩:=hb;exact hs.named _ _ _ ho
    ·rename_i m0 i r ho
     split at hb
     ·split at hb
      ·simp at hb;exact absurd hb.1.symm fe
      ·simp at hb
     ·simp at hb;obtain⟨rfl,rfl⟩:=hb;exact hs.named _ _ _ ho
 ·by_cases fg:m=l'
  ·subst fg;rw[Heap.aF];exact .inr (bf aS)
  ·rw[Heap.aj _ _ fg];by_cases hm:m=l
   ·subst hm;rw[Heap.aF];trivial
   ·have ey:((H.set l .none).set l' (.vec sz rows)) m=H m:=(by rw[Heap.aj _ _ fg,Heap.aj _ _ hm]);rw[Heap.aj _ _ hm,<-ey];refine SatObj.keep hs aS (hk m hm) ey λk v left cur hc v' es hv=>?_;by_cases h1:k=l'
    ·subst h1;rw[Heap.aF]at hv;simp at hv
    ·rw[Heap.aj _ _ h1]at hv;by_cases h2:k=l
     ·subst h2;rw[Heap.aF]at hv;simp at hv
     ·rw[Heap.aj _ _ h2]at hv;exact .inl ⟨hv,hk k h2⟩
theorem IU{l' sz nb base n m:Nat}{T:TypeId}{arr:Array Value}{R1 R2:List (List C)}(bK:g'.io l'=some (nb,sz,base))(jZ:g'.own nb=some (l',[]))
  (hw:w'.heap[nb]? = some (.cells arr T (0,0))) (aT:base+(n+m) * sz<=arr.size) (ev:n+m<=LIM) (i9:R1.length=n) (pt:R2.length=m)
  (rN:∀(i:Nat) (row:List C),R1[i]? = some row->row.length=sz) (kY:∀(i:Nat) (row:List C),R2[i]? = some row->row.length=sz)
  (h1:∀(i:Nat) (row:List C) (j:Nat) (c:C),R1[i]? = some row->row[j]? = some c->∃v,arr[base+i * sz+j]? = some v/\RepO w' g' l' [i,j] c v)
  (h2:∀(i:Nat) (row:List C) (j:Nat) (c:C),R2[i]? = some row->row[j]? = some c->∃v,arr[base+(n+i) * sz+j]? = some v/\RepC w' g' c v) :
  SatVec g' w' l' sz (R1++R2):=by
 have cd:∀(i:Nat) (row:List C) (j:Nat) (c:C),(R1++R2)[i]? = some row->row[j]? = some c->∃v,arr[base+i * sz+j]? = some v/\RepO w' g' l' [i,j] c v:=by
  intro i row j c e1 e2;by_cases hi:i<n
  ·rw[Ji ZA]at e1;exact h1 i row j c e1 e2
  ·rw[Jk ZA]at e1;obtain⟨v,k1,k2⟩:=h2 (i-R1.length) row j c e1 e2;rw[i9,show n+(i-n)=i by omega]at k1;exact⟨v,k1,.plain _ _ _ _ k2⟩
 refine⟨nb,base,T,arr,λi j=>arr.getD (base+i * sz+j) undef,bK,jZ,hw,by rw[Jaf,i9,pt];exact aT,by rw[Jaf,i9,pt];exact ev,λi row e1=>?_,λi row j c e1 e2=>?_,λi row j c e1 e2=>?_⟩
 ·by_cases hi:i<n
  ·rw[Ji ZA]at e1;exact rN i row e1
  ·rw[Jk ZA]at e1;exact kY _ row e1
 ·obtain⟨v,k1,k2⟩:=cd i row j c e1 e2;show _=some (arr.getD (base+i * sz+j) undef);rw[Je,k1];rfl
 ·obtain⟨v,k1,k2⟩:=cd i row j c e1 e2;show RepO _ _ _ _ _ (arr.getD (base+i * sz+j) undef);rw[Je,k1];exact k2
theorem Mv {n m sz:Nat}{f1 f:Nat->Value}{rest:Array Value} :
  (∀i j,i<n->j<sz->(((List.range (n * sz)).map f1).toArray++((List.range (m * sz)).map f).toArray++rest)[0+i * sz+j]? = some (f1 (i * sz+j)))/\
  (∀i j,i<m->j<sz->(((List.range (n * sz)).map f1).toArray++((List.range (m * sz)).map f).toArray++rest)[0+(n+i) * sz+j]? = some (f (i * sz+j))):=by
 constructor
 ·intro i j hi hj;have:=GN hi hj;rw[Jam,Jal ZF];simp only[Jaz,Jn,J5];rw[Jad this];rfl
 ·intro i j hi hj;have:=GN hi hj;have e0:0+(n+i) * sz+j=n * sz+(i * sz+j):=Za9
  rw[e0,Jam,Array.getElem?_append_right ZC];rw[Jal ZF];simp only[Jaz,Jn,List.size_toArray,List.length_map,Jbg,Nat.add_sub_cancel_left];rw[Jad this];rfl
def G.newVirt (g:G)(l sz:Nat):G:={ g with io:=λx=>if x=l then some (0,sz+1,0)else g.io x }
theorem Ot (hs:Sat H g w){l:Nat}(hl:g.io l=none)(sz:Nat):Stp H g w (H.set l (.vec sz [])) (g.newVirt l sz) w:=by
 have aS:Le g w (g.newVirt l sz) w:=by
  refine⟨λb hb=>⟨hb,rfl⟩,λm x hm=>?_,Jw _,λ_ _ _ h=>h,rfl,rfl,rfl⟩;simp only[G.newVirt];have:m≠l:=λh=>by subst h;rw[hl]at hm;simp at hm
  rw[if_neg this];exact hm
 have hk:∀m,E5 g w (g.newVirt l sz) w m:=λm b q hb=>⟨hb,rfl⟩;refine⟨aS,λm hm hn=>?_,⟨hs.fresh,?_,hs.excl,λb m q hb=>?_,λm=>?_⟩⟩
 ·have:m≠l:=λh=>by subst h;exact hm hl
  rw[Heap.aj _ _ this];exact⟨hn,λb q hb=>hk m b q hb⟩
 ·obtain⟨N,hN⟩:=hs.names;refine⟨max N (l+1),λm hm=>?_⟩;simp only[G.newVirt];rw[if_neg ZA];exact hN m ZA
 ·simp only[G.newVirt];split
  ·simp
  ·exact hs.named b m q hb
 ·by_cases hm:m=l
  ·subst hm;rw[Heap.aF];exact .inl ⟨rfl,_,by simp[G.newVirt];rfl,ZC⟩
  ·have ey:=Heap.aj H (.vec sz []) hm;rw[ey,<-ey];refine SatObj.keep hs aS (hk m) ey λm' v left cur hc v' es hv=>?_;by_cases fg:m'=l
   ·subst fg;rw[Heap.aF]at hv;simp at hv
   ·rw[Heap.aj _ _ fg]at hv;exact .inl ⟨hv,hk m'⟩
theorem Qa1t (hs:Sat H g w)(l:Nat)(hm:∀v es,H l≠.map v es):Stp H g w (H.set l .none) g w:=by
 refine⟨.refl _ _,λm hm hn=>?_,⟨hs.fresh,hs.names,hs.excl,hs.named,λm=>?_⟩⟩
 ·by_cases h:m=l
  ·subst h;rw[Heap.aF];exact⟨rfl,λb q hb=>⟨hb,rfl⟩⟩
  ·rw[Heap.aj _ _ h];exact⟨hn,λb q hb=>⟨hb,rfl⟩⟩
 ·by_cases h:m=l
  ·subst h;rw[Heap.aF];trivial
  ·have ey:=Heap.aj H .none h;rw[ey,<-ey];refine SatObj.keep hs (.refl _ _) (λb q hb=>⟨hb,rfl⟩) ey λm' v left cur hc v' es hv=>?_;by_cases fg:m'=l
   ·subst fg;rw[Heap.aF]at hv;simp at hv
   ·rw[Heap.aj _ _ fg]at hv;exact .inl ⟨hv,λb q hb=>⟨hb,rfl⟩⟩
theorem Qa8k {sz:Nat}{x y:Opd}{t2 el2:TypeId}{i:TypeInfo}
  (hm:o.op=.call { callee:=.builtin .append,args:=#[x',y'],argTypes:=ats }) (h0:ats[0]? = some t) (h1:ats[1]? = some t2) (hu:P.underlying t=some (.slice el)) (eV:P.underlying t2=some (.slice el2))
  (hi:P.info? el=some i) (hz:i.size=sz) (cw:i.zero=some z) (iq:z.cells.size=sz) (su:i.bytes<=128) (pb:i.bytes≠0) (hx:mO x x'=true) (hy:mO y y'=true)
  (hs:Sat H g w) (he:EnvOk w g e a) (hp:p=true) (ho:(EOp.app sz x y).eff P p e H K):EOk P H g w a o K:=by
 simp only[EOp.eff]at ho;obtain⟨q1,q2,q3,q4,q5⟩:=ho;have ge:=Cz he hx hp q1;have jV:=Cz he hy hp q2;rw[Dh q3]at ge;rw[Dh q4]at jV;have i6:=ge.aN;have ie:=jV.aN;generalize mA:a.eval x'=xv at i6;generalize ye:a.eval y'=yv at ie;generalize (x.v e).c1=A at i6 q5;generalize (y.v e).c1=B at ie q5;have cZ:(execOp a.eval o).run P w=((Builtin.append_ ats o.type #[xv,yv]).run P w).andThen λv w'=>.ok (.value v) w':=by
  simp[execOp,hm,resolve,invoke,builtin,mA,ye]
 unfold appT at q5;obtain⟨b1,b2,q5⟩:=q5;obtain⟨ady,capy,nK,by1,by2,by3,by4⟩:=GP hs ie b1;rw[b2]at by3;have kz:=La hs;split at q5
 ·
  rename_i z' rows
  obtain⟨rfl,c2,c3,c4,c5⟩:=q5;have td:∀r∈rowsOf H B,am r=true:=λr hr=>c3 r (Ja1 _ hr);have kO:∃ad,xv=.slice ad rows.length rows.length:=by
   cases i6 with
   |ce _ _ ad=>exact⟨ad,rfl⟩
   |sl _ _ _ b off cap val hl hf fE du de tg nO=>rw[hf rfl];exact⟨_,rfl⟩
  obtain⟨ad,rfl⟩:=kO;by_cases kh:ay B=0
  ·have b9:rows=[]:=by
    rcases c2 with h|h
    ·exact h
    ·exact absurd (Jx.1 ZA) h
   subst b9;obtain⟨l,hl,AG⟩:=hs.newName;obtain⟨f,f1,f2,f3⟩:=GI hs ie b1 b2 td;rw[nK]at f1;have cH:=RD (P:=P) (w:=w) (ty:=o.type) (base:=ad) (n:=0) (cap:=0) (m:=ay B) h0 h1 hu eV hi hz ZA f1 (w':=w)
    (λx _=>by rw[kh];simp[storeCells]) (λ_=>rfl)
   refine EOk.value (v:=.slice ad (0+ay B) 0) (by rw[cZ,nK];simp only[Ja0];rw[cH];rfl) (c5 l AG) ?_ ?_ (g':=g.newVirt l z')
   ·have yd:rowsOf H B=[]:=Jx.1 ZA;rw[yd];exact Ot hs hl z'
   ·simp only[Ja0,kh,J0];exact .c _ _ (.bO _ _ _ _)
  ·obtain⟨l,hl,AG⟩:=kz.sat.newName;have Aa:=i6.mono kz.le;have sj:=ie.mono kz.le;have hA:∀r∈rowsOf H (C.sl true z' rows),am r=true:=λr hr=>c3 r (Ja5 _ hr);obtain⟨f,f1,f2,f3⟩:=GI kz.sat sj b1 b2 td;obtain⟨f',f1',f2',f3'⟩:=GI kz.sat Aa (s:=.sl true z' rows) trivial (sz:=z') rfl hA;rw[nK]at f1;simp only[ay]at f1';obtain⟨newCap,rest,k1,k2,k3⟩:=NV (P:=P) (w:=w) (ty:=o.type) h0 h1 hu eV hi hz cw iq su pb (base:=ad) (n:=rows.length) (cap:=rows.length) (m:=ay B) ZA c4 f1 f1';have bC:=Mv (n:=rows.length) (m:=ay B) (sz:=z') (f1:=f') (f:=f) (rest:=rest);generalize eN:(((List.range (rows.length * z')).map f').toArray++((List.range (ay B * z')).map f).toArray++rest)=arr at k3 bC;have nz:arr.size=newCap * z':=by
    rw[<-eN];simp[k2];rw[<-Jl,<-Jl];congr 1;omega
   have aI:=F7 kz.sat hl z' 0 (.cells arr el) (.vec z' (rows++rowsOf H B)) (λg' hg=>by
    subst hg;have aS:=G5 kz.sat hl z' 0 (.cells arr el);refine .inr (IU (nb:=w.drew.heap.size) (base:=0) (T:=el) (arr:=arr) (n:=rows.length) (m:=ay B) ZK ZK (EA _ _)
     (by rw[nz,J5];exact Jm _ k1) c4 rfl ZA ?_ by3 ?_ ?_)
    ·cases i6 with
     |ce=>simp
     |sl _ _ _ b off cap val hl hf fE du de tg nO=>exact de
    ·intro i row j c e1 e2;have Bp:row.length=z':=by
      cases i6 with
      |ce=>simp at e1
      |sl _ _ _ b off cap val hl hf fE du de tg nO=>exact de _ _ e1
     refine⟨f' (i * z'+j),bC.1 i j ?_ ?_,.plain _ _ _ _ ((f3' i row j c e1 e2).mono aS)⟩
     ·rcases Jg i rows.length with h|h
      ·exact h
      ·rw[Jf h]at e1;simp at e1
     ·rw[<-Bp];rcases Jg j row.length with h|h
      ·exact h
      ·rw[Jf h]at e2;simp at e2
    ·intro i row j c e1 e2;refine⟨f (i * z'+j),bC.2 i j ?_ ?_,(f3 i row j c e1 e2).mono aS⟩
     ·rcases Jg i (rowsOf H B).length with h|h
      ·omega
      ·rw[Jf h]at e1;simp at e1
     ·rw[<-by3 i row e1];rcases Jg j row.length with h|h
      ·exact h
      ·rw[Jf h]at e2;simp at e2)
   refine EOk.value (v:=.slice (some ⟨w.heap.size,0,none⟩) (rows.length+ay B) newCap) (by rw[cZ,nK,k3];rfl) (c5 l AG) (kz.trans aI) ?_;have:=RepC.ah (w:=w.drew.alloc (.cells arr el)) (g:=g.newObj l w.drew.heap.size z' 0) l z' 0 (rows.length+ay B) newCap w.heap.size 0 el arr.size ZK k1
    Zae (by rw[nz];simp)
   simpa using RepV.c _ _ this
 ·
  rename_i l z' st n
  split at q5
  ·rename_i y0 rows hH
   obtain⟨wG,wK,c2,td,c4,c5⟩:=q5;subst wK;subst wG;have bf:=hs.objs l;rw[hH]at bf;have oP:H l≠.none:=Zav
   have kg:∀v es,H l≠.map v es:=Zav
   have nv:(∃ad,xv=.slice ad 0 0/\n=0)\/∃b base cap T mm,xv=.slice (some ⟨b,base+st * z',none⟩) n cap/\g.io l=some (b,z',base)/\n<=cap/\w.shape? b=some (T,mm)/\base+(st+cap) * z'<=mm:=by
    cases i6 with
    |bO _ _ _ ad=>exact .inl ⟨ad,Rf0⟩
    |ah _ _ _ _ cap b base T mm bK hn iU eG=>exact .inr ⟨b,base,cap,T,mm,rfl,bK,hn,iU,eG⟩
   have bQ:((rows.drop st).take n).length=n:=ZF
   have jp:∀(i:Nat) (row:List C),((rows.drop st).take n)[i]? = some row->i<n/\rows[st+i]? = some row:=by
    intro i row h;simp only[Jp,Js]at h;split at h
    ·exact⟨by assumption,h⟩
    ·simp at h
   have jlt:∀{row:List C} {j:Nat} {c:C} {k:Nat},row.length=k->row[j]? = some c->j<k:=by
    intro row j c k hk hj;rw[<-hk];rcases Jg j row.length with h|h
    ·exact h
    ·rw[Jf h]at hj;simp at hj
   have grow:∀(ad:Option Addr) (cap:Nat),xv=.slice ad n cap->¬n+ay B<=cap->EOk P H g w a o K:=by
    intro ad cap kO ta;have sj:=ie.mono kz.le;obtain⟨f,f1,f2,f3⟩:=GI kz.sat sj b1 b2 td;rw[nK]at f1;have ke:∃f':Nat->Value,(Builtin.firstCells z' n (.slice ad n cap)).run P w.drew=.ok ((List.range (n * z')).map f').toArray w.drew/\
      ∀(i:Nat) (row:List C) (j:Nat) (c:C),((rows.drop st).take n)[i]? = some row->row[j]? = some c->RepO w g l [st+i,j] c (f' (i * z'+j)):=by
     rcases nv with ⟨ad',h1,h2⟩|⟨b,base,cap',T,mm,h1,h2,h3,h4,h5⟩
     ·rw[kO]at h1;simp only[Value.slice.injEq]at h1;subst h2;refine⟨λ_=>undef,?_,λi row j c e1 _=>by simp at e1⟩
      cases ad with
      |none=>simp[Builtin.firstCells]
      |some q=>simp[Builtin.firstCells,loadCells,loadCellsFrom]
     ·rw[kO]at h1;simp only[Value.slice.injEq]at h1;obtain⟨rfl,_,rfl⟩:=h1;obtain⟨b',base',T',cs,val,r1,r2,r3,r4,r5,r6,r7,r8⟩:=SatVec.of bf h2;rw[h2]at r1;simp only[Jb,Jo,true_and]at r1;obtain⟨rfl,rfl⟩:=r1;have aT:(st+n) * z'<=rows.length * z':=Jm _ c2;rw[Jl]at aT;refine⟨λq=>cs.getD (base+st * z'+q) undef,?_,λi row j c e1 e2=>?_⟩
      ·simp only[Builtin.firstCells];refine run_loadCells _ _ _ _ λj hj=>?_;rw[Ez];rw[show w.drew.cell? ⟨b,base+st * z'+j,none⟩=w.cell? ⟨b,base+st * z'+j,none⟩ from rfl,FJ r3];rw[Je,Jc ZA];rfl
      ·obtain⟨hi,e1'⟩:=jp i row e1;have:=r7 _ _ _ _ e1' e2;rw[Jl]at this;have e3:base+st * z'+(i * z'+j)=base+(st * z'+i * z')+j:=ZA;show RepO _ _ _ _ _ (cs.getD (base+st * z'+(i * z'+j)) undef);rw[e3,Je,this];exact r8 _ _ _ _ e1' e2
    obtain⟨f',f1',f3'⟩:=ke;obtain⟨newCap,rest,k1,k2,k3⟩:=NV (P:=P) (w:=w) (ty:=o.type) h0 h1 hu eV hi hz cw iq su pb (base:=ad) (n:=n) (cap:=cap) (m:=ay B) ta c4 f1 f1';have bC:=Mv (n:=n) (m:=ay B) (sz:=z') (f1:=f') (f:=f) (rest:=rest);generalize eN:(((List.range (n * z')).map f').toArray++((List.range (ay B * z')).map f).toArray++rest)=arr at k3 bC;have nz:arr.size=newCap * z':=by
     rw[<-eN];simp[k2];rw[<-Jl,<-Jl];congr 1;omega
    obtain⟨l',dq,jA⟩:=kz.sat.newName;have jJ:l'≠l:=λh=>ZaM;have aI:=Q31 kz.sat (l:=l) (l':=l') dq oP (st:=st) (n:=n) (nb:=w.drew.heap.size) (sz:=z') (base:=0) (w':=w.drew.alloc (.cells arr el)) (rows:=(rows.drop st).take n++rowsOf H B)
     (.inr rfl) ZC ZC ZC (λb hb af=>FH _ _ af) (λh=>absurd h (Nat.lt_irrefl _)) rfl rfl rfl (λaS=>by
      refine IU (nb:=w.drew.heap.size) (base:=0) (T:=el) (arr:=arr) (n:=n) (m:=ay B) Zat Zat (EA _ _)
       (by rw[nz,J5];exact Jm _ k1) c4 bQ ZA (λi row h=>?_) by3 (λi row j c e1 e2=>?_) (λi row j c e1 e2=>?_)
      ·obtain⟨hi,h'⟩:=jp i row h;rcases bf with ⟨r1,_⟩|⟨b',base',T',cs,val,r1,r2,r3,r4,r5,r6,r7,r8⟩
       ·rw[r1]at h';simp at h'
       ·exact r6 _ _ h'
      ·obtain⟨hi,h'⟩:=jp i row e1;have cF:row.length=z':=by
        rcases bf with ⟨r1,_⟩|⟨b',base',T',cs,val,r1,r2,r3,r4,r5,r6,r7,r8⟩
        ·rw[r1]at h';simp at h'
        ·exact r6 _ _ h'
       refine⟨f' (i * z'+j),bC.1 i j hi (jlt cF e2),?_⟩;refine (f3' i row j c e1 e2).move (kz.le.trans aS) λq b hb=>?_;have bj:=EN hs hb;have cB:b≠w.drew.heap.size:=(by simp only[World.size_drew];omega);exact⟨Qw5 hb hi cB,FH _ _ bj⟩
      ·refine⟨f (i * z'+j),bC.2 i j ?_ (jlt (by3 i row e1) e2),(f3 i row j c e1 e2).mono aS⟩;rcases Jg i (rowsOf H B).length with h|h
       ·omega
       ·rw[Jf h]at e1;simp at e1) kg
    refine EOk.value (v:=.slice (some ⟨w.heap.size,0,none⟩) (n+ay B) newCap) (by rw[cZ,kO,nK,k3];rfl) (c5 l' (by rw[Heap.aj _ _ jJ];exact jA)) (kz.trans aI) ?_;have:=RepC.ah (w:=w.drew.alloc (.cells arr el)) (g:=g.handOver l l' st n w.drew.heap.size z' 0) l' z' 0 (n+ay B) newCap w.heap.size 0 el arr.size Zat k1
     Zae (by rw[nz];simp)
    simpa using RepV.c _ _ this
   rcases nv with ⟨ad,kO,rfl⟩|⟨b,base,cap,T,mm,kO,bK,Bl,iU,eG⟩
   ·by_cases kh:ay B=0
    ·
     obtain⟨f,f1,f2,f3⟩:=GI hs ie b1 b2 td;rw[nK]at f1;have cH:=RD (P:=P) (w:=w) (ty:=o.type) (base:=ad) (n:=0) (cap:=0) (m:=ay B) h0 h1 hu eV hi hz ZA f1 (w':=w)
      (λx _=>by rw[kh];simp[storeCells]) (λ_=>rfl)
     have hd:=Qa1t hs l kg;obtain⟨l',dq,jA⟩:=hd.sat.newName;refine EOk.value (v:=.slice ad (0+ay B) 0) (by rw[cZ,kO,nK,cH];rfl) (c5 l' jA) ?_ ?_ (g':=g.newVirt l' z')
     ·have yd:rowsOf H B=[]:=Jx.1 ZA;rw[yd];simp only[List.take_zero,Jay];exact hd.trans (Ot hd.sat dq z')
     ·simp only[kh,J0];exact .c _ _ (.bO _ _ _ _)
    ·exact grow ad 0 kO ZA
   ·by_cases fG:n+ay B<=cap
    ·
     obtain⟨b',base',T',cs,val,r1,r2,r3,r4,r5,r6,r7,r8⟩:=SatVec.of bf bK;rw[bK]at r1;simp only[Jb,Jo,true_and]at r1;obtain⟨rfl,rfl⟩:=r1;have yQ:mm=cs.size/\T=T':=by
      simp only[World.shape?,r3,Jb,Jo]at iU;exact⟨iU.2.symm,iU.1.symm⟩
     obtain⟨rfl,rfl⟩:=yQ;obtain⟨f,f1,f2,f3⟩:=GI hs ie b1 b2 td;rw[nK]at f1;have qr:(st+(n+ay B)) * z'<=(st+cap) * z':=Jm _ ZA;rw[Jl,Jl]at qr;have aT:base+st * z'+n * z'+ay B * z'<=cs.size:=by
      rw[Jl]at eG qr;omega
     have kD:=λk=>It (base+st * z'+n * z') ((List.range (ay B * z')).map f) 0 cs k ZF;generalize sk:(((List.range (ay B * z')).map f).zipIdx 0).foldl (λ(cs:Array Value) (x:Value×Nat)=>cs.setIfInBounds (base+st * z'+n * z'+x.2) x.1) cs=cs' at kD;have mu:=Ko (P:=P) ((List.range (ay B * z')).map f) 0 w b (base+st * z'+n * z') cs T r3 ZF (by
      intro v hv;simp only[Jbi,Jbo]at hv;obtain⟨q,hq,rfl⟩:=hv;exact f2 q hq)
     rw[sk]at mu;have cH:=RD (P:=P) (w:=w) (ty:=o.type) (base:=some ⟨b,base+st * z',none⟩) (n:=n) (cap:=cap) (m:=ay B) h0 h1 hu eV hi hz fG f1 (w':=World.aB w b cs' T)
      (λx hx=>by simp only[Jb]at hx;subst hx;rw[Ez];exact mu) (λh=>ZH)
     have ko:=G3 r3;obtain⟨l',dq,jA⟩:=hs.newName;have jJ:l'≠l:=λh=>ZaM;have o0:cs'.size=cs.size:=(kD 0).1;have aI:=Q31 hs (l:=l) (l':=l') dq oP (st:=st) (n:=n) (nb:=b) (sz:=z') (base:=base+st * z') (w':=World.aB w b cs' T) (rows:=(rows.drop st).take n++rowsOf H B)
      (.inl ⟨ko,r2⟩) (by simp[World.aB]) (by simp[World.aB];exact ko) (by simp[World.aB];omega) (λb' aW _=>GB aW)
      (λ_ T0 k hk=>by
       simp only[World.shape?,r3,Jb,Jo]at hk;simp only[World.shape?,IC ko,o0,Jb,Jo];exact hk) rfl rfl rfl (λaS=>by
       refine IU (nb:=b) (base:=base+st * z') (T:=T) (arr:=cs') (n:=n) (m:=ay B) Zat Zat (IC ko)
        (by rw[o0,Jl];omega) c4 bQ ZA (λi row h=>r6 _ _ (jp i row h).2) by3 (λi row j c e1 e2=>?_) (λi row j c e1 e2=>?_)
       ·obtain⟨hi,h'⟩:=jp i row e1;have hj:=jlt (r6 _ _ h') e2;have af:=GN hi hj;refine⟨val (st+i) j,?_,?_⟩
        ·rw[(kD _).2,if_neg ZA,<-r7 _ _ _ _ h' e2];congr 1;rw[Jl];omega
        ·refine (r8 _ _ _ _ h' e2).move aS λq b2 cC=>?_;have cB:b2≠b:=λh=>(by subst h;rw[r2]at cC;simp at cC);exact⟨Qw5 cC hi cB,GB cB⟩
       ·have hj:=jlt (by3 i row e1) e2;have hi:i<ay B:=by
         rcases Jg i (rowsOf H B).length with h|h
         ·omega
         ·rw[Jf h]at e1;simp at e1
        have af:=GN hi hj;refine⟨f (i * z'+j),?_,(f3 i row j c e1 e2).mono aS⟩;have uD:(n+i) * z'=n * z'+i * z':=(by rw[Jl]);rw[(kD _).2,if_pos ZF];rw[show base+st * z'+(n+i) * z'+j-(base+st * z'+n * z'+0)=i * z'+j by omega];simp only[Jn];rw[Jad af];rfl) kg
     refine EOk.value (v:=.slice (some ⟨b,base+st * z',none⟩) (n+ay B) cap) (by rw[cZ,kO,nK,cH];rfl) (c5 l' (by rw[Heap.aj _ _ jJ];exact jA)) aI ?_;have:=RepC.ah (w:=World.aB w b cs' T) (g:=g.handOver l l' st n b z' (base+st * z')) l' z' 0 (n+ay B) cap b (base+st * z') T cs.size Zat fG
      (by simp only[World.shape?,IC ko,o0]) (by rw[J5];rw[Jl]at eG;omega)
     simpa using RepV.c _ _ this
    ·exact grow _ cap kO fG
  ·exact q5.elim
 ·exact q5.elim
end
section
open Go.MapKept (IsKey findNow_spec run_checkKey run_findKey run_keyThatStays)
variable{H:Heap}{w:World}{e:Env}{a:Act}{o:Oper}{p:Bool}
theorem Qa8p {sz:Nat}{x:Opd}{i:TypeInfo}(hm:o.op=.makeSlice t x' y')(hu:P.underlying t=some (.slice el))
  (hi:P.info? el=some i) (hz:i.size=sz) (sK:sz≠0) (cw:i.zero=some z) (iR:D6 zero z=true) (iq:zero.length=sz) (su:i.bytes<=128) (hx:mO x x'=true) (hy:mO x y'=true)
  (hs:Sat H g w) (he:EnvOk w g e a) (hp:p=true) (ho:(EOp.mks sz zero x).eff P p e H K):EOk P H g w a o K:=by
 simp only[EOp.eff]at ho;obtain⟨q1,q2,q3,q4,q5⟩:=ho;have e1:=E8 he hx hp q1 q2;have e2:=E8 he hy hp q1 q2;generalize hk:Ct (x.v e)=k at *;have hr:=Iy (w:=w) (g:=g) iR;rw[EY]at q4;have AV:IntKind.i64.wrap k=k:=II (by unfold inR;simp[IntKind.min,IntKind.max,IntKind.signed,IntKind.bits];omega);have nW:(i.bytes:Int) * k<=128 * 549755813888:=by
  have h1:(i.bytes:Int) * k<=128 * k:=Int.mul_le_mul_of_nonneg_right ZA q3;omega
 have h48:(2:Int) ^ 48=281474976710656:=ZN
 obtain⟨l,hl,hH⟩:=hs.newName;have cM:z.cells.size=sz:=by rw[hr.1,iq]
 have cq:k.toNat * sz=0\/k.toNat * sz≠0:=ZA
 have cH:∃arr:Array Value,(execOp a.eval o).run P w=.ok (.value (.slice (some ⟨w.heap.size,0,none⟩) k.toNat k.toNat)) (w.alloc (.cells arr el))/\arr.size=k.toNat * sz/\
   ∀q,q<k.toNat * sz->arr[q]? = z.cells[q % sz]?:=by
  by_cases hn:k.toNat * sz=0
  ·refine⟨(Array.range 0).map (λ_=>default),?_,ZaS,λq hq=>ZA⟩;simp only[execOp,hm,e1,e2,Instr.makeSlice,Sem.run_bind,C1 hu,Result.andThen_ok,asInt,asIntOf,Sem.run_pure,Ka hi,AV];rw[if_neg ZF];simp[Dm hi,hz,hn,newRow]
  ·refine⟨(Array.range (k.toNat * sz)).map (z.cells[· % z.cells.size]!),?_,ZC,λq hq=>?_⟩
   ·simp only[execOp,hm,e1,e2,Instr.makeSlice,Sem.run_bind,C1 hu,Result.andThen_ok,asInt,asIntOf,Sem.run_pure,Ka hi,AV];rw[if_neg ZF];simp only[Sem.run_bind,run_askRoom,Result.andThen_ok,Dm hi,hz,if_neg hn,Eu hi cw,Sem.run_pure];simp[newRow]
   ·have af:q % sz<z.cells.size:=(by rw[cM];exact Jbh _ (by omega));simp only[Jan,cM];rw[Jak,if_pos hq];simp[af]
 obtain⟨arr,h1,h2,h3⟩:=cH;have aS:=G5 hs hl sz 0 (.cells arr el);have aI:=F7 hs hl sz 0 (.cells arr el) (.vec sz (List.replicate k.toNat zero)) (λg' hg=>by
  subst hg;have dA:∀(i:Nat) (row:List C),(List.replicate k.toNat zero)[i]? = some row->i<k.toNat/\row=zero:=by
   intro i row h;rw[Jas]at h;split at h
   ·exact⟨by assumption,by simpa using h.symm⟩
   ·simp at h
  have:=IU (g':=g.newObj l w.heap.size sz 0) (w':=w.alloc (.cells arr el)) (l':=l) (sz:=sz) (nb:=w.heap.size) (base:=0) (n:=k.toNat) (m:=0) (T:=el) (arr:=arr) (R1:=List.replicate k.toNat zero) (R2:=[])
   ZK ZK (EA _ _) Zad (by rw[EY];omega) ZC rfl (λi row h=>by rw[(dA i row h).2,iq]) ZC
   (λi row j c h h'=>by
    obtain⟨bZ,rfl⟩:=dA i row h;have hj:j<sz:=by
     rw[<-iq];rcases Jg j row.length with h0|h0
     ·exact h0
     ·rw[Jf h0]at h';simp at h'
    have je:=GN bZ hj;have rK:(i * sz+j) % sz=j:=(by rw[Ja3,Jbm];exact Jbk hj);have uQ:j<z.cells.size:=(by rw[cM];exact hj);refine⟨z.cells[j],?_,.plain _ _ _ _ ((hr.2 j c _ h' (Jc uQ)).mono aS)⟩;rw[J5,h3 _ je,rK];exact Jc uQ) ZC
  rw[Jay]at this;exact .inr this)
 refine EOk.value h1 (q5 l hH) aI ?_;have:=RepC.ah (w:=w.alloc (.cells arr el)) (g:=g.newObj l w.heap.size sz 0) l sz 0 k.toNat k.toNat w.heap.size 0 el arr.size ZK (Jw _)
  (by simp only[World.shape?,EA]) Zad
 simpa using RepV.c _ _ this
theorem Qa6m{sz:Nat}{n:Nat}{i:TypeInfo}
  (hm:o.op=.buildSlice t n parts') (hu:P.underlying t=some (.slice el)) (hi:P.info? el=some i) (hz:i.zero=some z) (br:i.size=sz) (qY:sz≠0)
  (hn:n=parts'.size) (sw:n * sz<=2 ^ 24) (iX:parts.length=parts'.size)
  (hx:∀(j:Nat) (x:Opd) (y:Nat×Operand),parts[j]? = some x->parts'[j]? = some y->y.1=j/\mO x y.2=true)
  (hs:Sat H g w) (he:EnvOk w g e a) (hp:p=true) (hK:(EOp.bslm sz parts).eff P p e H K):EOk P H g w a o K:=by
 simp only[EOp.eff]at hK;obtain⟨ho,hK⟩:=hK;have uk:(parts'.map λ(x:Nat×Operand)=>(x.1,a.eval x.2)).toList=parts'.toList.map λ(x:Nat×Operand)=>(x.1,a.eval x.2):=ZC
 have bC:∀(j:Nat) (y:Nat×Value),(parts'.toList.map λ(x:Nat×Operand)=>(x.1,a.eval x.2))[j]? = some y->
   ∃x y',parts[j]? = some x/\parts'[j]? = some y'/\y=(y'.1,a.eval y'.2):=by
  intro j y hj;simp only[Jn]at hj
  cases bE:parts'.toList[j]? with
  |none=>rw[bE]at hj;simp at hj
  |some y'=>
   rw[bE]at hj;simp at hj;have af:j<parts.length:=by
    rw[iX];rcases Jg j parts'.size with h|h
    ·exact h
    ·simp[Jj h]at bE
   exact⟨_,y',Jd af,by simpa using bE,hj.symm⟩
 have aD:∀x∈parts,x.fine p e/\(x.v e).cells.length=sz/\(x.v e).cells≠[]:=λx hx=>by
  obtain⟨q1,q2⟩:=ho x hx;exact⟨q1,q2,λhn=>qY (by rw[<-q2,hn];rfl)⟩
 have na:(parts'.toList.map λ(x:Nat×Operand)=>(x.1,a.eval x.2)).length=n:=ZaS
 obtain⟨out,f1,f2,f3,f4⟩:=Q5e sz (parts'.toList.map λ(x:Nat×Operand)=>(x.1,a.eval x.2)) 0
  ((Array.range (n * sz)).map ((if n * sz=0 then #[]else z.cells)[· % (if n * sz=0 then #[]else z.cells).size]!)) (λj y hj=>by
   obtain⟨x,y',e1,e2,rfl⟩:=bC j y hj;obtain⟨q1,q2⟩:=hx j x y' e1 e2;obtain⟨q3,q4,q5⟩:=aD x (Jh e1);refine⟨by simp[q1],?_⟩;rw[(I6 (Cz he q2 hp q3) q5).1,q4]) (by rw[na];simp)
 obtain⟨l,hl,hH⟩:=hs.newName;have cH:(execOp a.eval o).run P w=.ok (.value (.slice (some ⟨w.heap.size,0,none⟩) n n)) (w.alloc (.cells out el)):=by
  simp only[execOp,hm,Instr.buildSlice,Sem.run_bind,C1 hu,Result.andThen_ok,Dm hi,br,uk];rw[if_neg ZA];by_cases h0:n * sz=0
  ·simp only[if_pos h0]at f1⊢;simp only[Sem.run_bind,Sem.run_pure,Result.andThen_ok];rw[f1];simp[newRow]
  ·simp only[if_neg h0]at f1⊢;simp only[Sem.run_bind,Sem.run_pure,Result.andThen_ok,Eu hi hz];rw[f1];simp[newRow]
 have iv:(parts.map λx=>(x.v e).cells).length=n:=by simp[iX,hn]
 have cW:∀(k:Nat) (row:List C),(parts.map λx=>(x.v e).cells)[k]? = some row->∃x y,parts[k]? = some x/\parts'[k]? = some y/\row=(x.v e).cells:=by
  intro k row hk;simp only[Jn]at hk
  cases hj:parts[k]? with
  |none=>rw[hj]at hk;simp at hk
  |some x=>
   rw[hj]at hk;simp at hk;have af:k<parts'.size:=by
    rw[<-iX];rcases Jg k parts.length with h|h
    ·exact h
    ·rw[Jf h]at hj;simp at hj
   exact⟨x,parts'[k],rfl,Jc af,hk.symm⟩
 have cj:∀(k:Nat) (row:List C) (j:Nat) (c:C),(parts.map λx=>(x.v e).cells)[k]? = some row->row[j]? = some c->∃u,out[0+k * sz+j]? = some u/\RepC w g c u:=by
  intro k row j c hk hj;obtain⟨x,y,e1,e2,rfl⟩:=cW k row hk;obtain⟨q1,q2⟩:=hx k x y e1 e2;obtain⟨q3,q4,q5⟩:=aD x (Jh e1);have hr:=I6 (Cz he q2 hp q3) q5;have gZ:j<sz:=by
   rw[<-q4];rcases Jg j (x.v e).cells.length with h|h
   ·exact h
   ·rw[Jf h]at hj;simp at hj
  have cR:j<(a.eval y.2).cells.size:=by rw[hr.1,q4];exact gZ
  have:=f4 k (y.1,a.eval y.2) j (by simp only[Jn,Ju,e2,Jq]) gZ;simp only[J5]at this⊢;rw[this];exact⟨_,Jc cR,hr.2 j c _ hj (Jc cR)⟩
 have oA:out.size=n * sz:=by
  rw[f2];simp
 have hn24:n<=16777216:=by
  have dg:n * 1<=n * sz:=Ja8 _ ZA;have AN:(2:Nat) ^ 24=16777216:=ZN
  rw[AN]at sw;omega
 have aS:=G5 hs hl sz 0 (.cells out el);have aI:=F7 hs hl sz 0 (.cells out el) (.vec sz (parts.map λx=>(x.v e).cells)) (λg' hg=>by
  subst hg;have:=IU (g':=g.newObj l w.heap.size sz 0) (w':=w.alloc (.cells out el)) (l':=l) (sz:=sz) (nb:=w.heap.size) (base:=0) (n:=n) (m:=0) (T:=el) (arr:=out) (R1:=parts.map λx=>(x.v e).cells) (R2:=[])
   ZK ZK (EA _ _) (by rw[oA];simp) (by rw[EY];omega) iv rfl
   (λk row hk=>by obtain⟨x,y,e1,e2,rfl⟩:=cW k row hk;exact (aD x (Jh e1)).2.1) ZC
   (λk row j c hk hj=>by
    obtain⟨u,e1,e2⟩:=cj k row j c hk hj;exact⟨u,e1,.plain _ _ _ _ (e2.mono aS)⟩) ZC
  rw[Jay]at this;exact .inr this)
 have db:parts.length=n:=by rw[iX,hn]
 refine EOk.value cH (hK l hH) aI ?_;rw[db];have:=RepC.ah (w:=w.alloc (.cells out el)) (g:=g.newObj l w.heap.size sz 0) l sz 0 n n w.heap.size 0 el out.size ZK (Jw _)
  (by simp only[World.shape?,EA]) (by rw[oA];simp)
 simpa using RepV.c _ _ this
theorem Qa8o(hm:o.op=.makeMap t none)(hs:Sat H g w)(ho:EOp.mkm.eff P p e H K):EOk P H g w a o K:=by
 simp only[EOp.eff]at ho;obtain⟨l,hl,hH⟩:=hs.newName;have aI:=F7 hs hl 0 0 (.map #[] 0) (.map 0 []) (λg' hg=>by
  subst hg;exact⟨w.heap.size,#[],0,ZK,ZK,EA _ _,rfl,by simp[EY],ZC,ZC,ZC⟩)
 refine EOk.value (v:=.map (some w.heap.size)) (w':=w.alloc (.map #[] 0)) (by simp[execOp,hm,Instr.makeMap]) (ho l hH) aI (.c _ _ (.mp l w.heap.size ZK))
def World.putObj' (w:World)(b:Nat)(x:Go.Obj):World:={ w with heap:=w.heap.setIfInBounds b x }
theorem Q6o{b:Nat}{x:Go.Obj}(h:b<w.heap.size):(World.putObj' w b x).heap[b]? = some x:=by simp[World.putObj',h]
theorem Si{b b':Nat}{x:Go.Obj}(h:b'≠b):(World.putObj' w b x).heap[b']? = w.heap[b']?:=by
 simp only[World.putObj'];rw[Jt (Ne.symm h)]
theorem IK {b:Nat}{x y:Go.Obj}(h:w.heap[b]? = some x)(hx:∀c T f,x≠.cells c T f):(setObj b y).run P w=.ok () (World.putObj' w b y):=by
 simp only[setObj,Sem.run,h];cases x <;> first|rfl|exact absurd rfl (hx _ _ _)
theorem Ph (hs:Sat H g w){l b:Nat}(hb:g.own b=some (l,[])){ms ms':Array MapEntry}{clock clock':Nat}(hw:w.heap[b]? = some (.map ms clock)){n:Nat}{es':List (C×V)}(hH:H l=.map n es)
  (bf:Le g w g (World.putObj' w b (.map ms' clock'))->(World.putObj' w b (.map ms' clock')).heap[b]? = some (.map ms' clock')->SatObj (H.set l (.map (n+1) es')) g (World.putObj' w b (.map ms' clock')) l (.map (n+1) es')) :
  Stp H g w (H.set l (.map (n+1) es')) g (World.putObj' w b (.map ms' clock')):=by
 have af:=G3 hw;refine Q0k hs hb (by simp[World.putObj']) (λb' h=>Si h) (λT' k hk=>?_) rfl rfl rfl _ Zav (λaS=>bf aS (Q6o af)) (λv x h=>?_)
 ·simp[World.shape?,hw]at hk
 ·simp at h;exact⟨n,es,hH,ZA⟩
theorem N1:∀(es:List (C×V)) (k:C) (v:V) (j:Nat) (x:C×V),es[j]? = some x->CZ k x.1=true->(∀i y,i<j->es[i]? = some y->CZ k y.1=false)->updE k v es=es.set j (k,v)
 |[],_,_,_,_,h,_,_=>ZH
 |y::es,k,v,0,x,h,hk,_=>by simp at h;subst h;simp[updE,hk]
 |y::es,k,v,j+1,x,h,hk,hh=>by
  have h0:=hh 0 y ZA rfl;simp only[updE,h0,Jr,if_false,List.set_cons_succ];rw[N1 es k v j x ZI hk λi z hi hz=>hh (i+1) z ZA ZaF]
theorem Mt:∀(es:List (C×V)) (k:C) (v:V),(∀x∈es,CZ k x.1=false)->updE k v es=es++[(k,v)]
 |[],_,_,_=>rfl
 |y::es,k,v,h=>by
  simp only[updE,h y ZC,Jr,if_false,List.cons_append];rw[Mt es k v λx hx=>h x Za4]
theorem Oa:∀(es:List (C×V)) (k:C) (j:Nat) (x:C×V),es[j]? = some x->CZ k x.1=true->(∀i y,i<j->es[i]? = some y->CZ k y.1=false)->delE k es=es.eraseIdx j
 |[],_,_,_,h,_,_=>ZH
 |y::es,k,0,x,h,hk,_=>by simp at h;subst h;simp[delE,hk]
 |y::es,k,j+1,x,h,hk,hh=>by
  have h0:=hh 0 y ZA rfl;simp only[delE,h0,Jr,if_false,Jar];rw[Oa es k j x ZI hk λi z hi hz=>hh (i+1) z ZA ZaF]
theorem Ng:∀(es:List (C×V)) (k:C),(∀x∈es,CZ k x.1=false)->delE k es=es
 |[],_,_=>rfl
 |y::es,k,h=>by
  simp only[delE,h y ZC,Jr,if_false];rw[Ng es k λx hx=>h x Za4]
theorem Hd {c:C}{v:Value}{l:Nat}(h:RepC w g (.mp l) v):∃b,v=.map (some b)/\g.io l=some (b,0,0):=by
 cases h with
 |mp _ b bK=>exact⟨b,rfl,bK⟩
theorem O3{x k y:Opd}{k':Operand}{kt et:TypeId}(hm:o.op=.mapUpdate t x' k' y'\/o.op=.insert t x' k' y')(hu:P.underlying t=some (.map kt et))
  (nT:P.underlying kt=some (tagD tag)) (hx:mO x x'=true) (hk:mO k k'=true) (hy:mO y y'=true)
  (hs:Sat H g w) (he:EnvOk w g e a) (hp:p=true) (ho:(EOp.upd tag x k y).eff P p e H K):EOk P H g w a o K:=by
 simp only[EOp.eff]at ho;obtain⟨q1,q2,q3,q4,q5,_,q6⟩:=ho;have ge:=Cz he hx hp q1;have m8:=Cz he hk hp q2;have jV:=Cz he hy hp q3;rw[Dh q4]at ge;rw[Dh q5]at m8;have i6:=ge.aN;have jL:=m8.aN;generalize mA:a.eval x'=xv at i6;generalize uj:a.eval k'=kv at jL;generalize ye:a.eval y'=yv at jV;generalize (x.v e).c1=A at i6 q6;generalize (k.v e).c1=kc at jL q6;generalize y.v e=yc at jV q6;have cZ:(execOp a.eval o).run P w=((Instr.mapUpdate t xv kv yv).run P w).andThen λ_ w'=>.ok .skip w':=by
  rcases hm with hm|hm <;> simp[execOp,hm,mA,uj,ye]
 unfold updT at q6;split at q6
 ·rename_i l
  split at q6
  ·rename_i n es hH
   obtain⟨c1,c2,c3⟩:=q6;obtain⟨b,rfl,bK⟩:=Hd (c:=.unk) i6;have bf:=hs.objs l;rw[hH]at bf;obtain⟨b',ms,clock,r1,r2,r3,r4,r5,r6,r7,r8⟩:=bf;rw[bK]at r1;simp only[Jb,Jo,and_true]at r1;subst r1;have dv:=Ih c1 jL;have cO:(getObj b).run P w=.ok (.map ms clock) w:=Zao
   rcases Iu c1 jL r4 r6 r8 with ⟨f1,f2,f3⟩|⟨j,m,ent,f1,f2,f3,f4,f5,f6,f7⟩
   ·
    rw[Mt es kc yc f3]at c3;refine EOk.skip (g':=g) (w':=World.putObj' w b (.map (ms.push { key:=kv,val:=yv,born:=clock }) (clock+1))) ?_ c3 ?_
    ·rw[cZ];simp only[Instr.mapUpdate,Sem.run_bind,C1 hu,Result.andThen_ok,cO,run_checkKey nT dv _ 9999,run_findKey nT f1,IK r3 ZC]
    ·refine Ph hs r2 r3 hH λaS f8=>?_;refine⟨b,_,_,aS.io _ _ bK,r2,f8,by simp[r4],by simp;omega,λi' x' m' e1 e2=>?_,λi' m' e1=>?_,λi' j' m1 m2 e1 e2 ka=>?_⟩
     ·rw[J6]at e2;split at e2
      ·rename_i bZ;simp at e2;subst e2
       rw[Jk ZA]at e1;rw[bZ,r4]at e1;simp at e1;subst e1;exact⟨jL.mono aS,jV.mono aS⟩
      ·rename_i bZ
       have:i'<es.length:=by
        rw[<-r4];rcases Jg i' ms.size with h|h
        ·exact h
        ·rw[Jj h]at e2;simp at e2
       rw[Ji this]at e1;exact (r6 i' x' m' e1 e2).mono aS
     ·rw[J6]at e1;split at e1
      ·simp at e1;subst e1;simp
      ·have:=r7 i' m' e1;omega
     ·have old:∀(i':Nat) (m1:MapEntry),ms[i']? = some m1->m1.born<clock/\m1.key≠kv:=by
       intro i' m1 h1;refine⟨r7 _ _ h1,λeL=>?_⟩;have af:i'<es.length:=by
        rw[<-r4];rcases Jg i' ms.size with h|h
        ·exact h
        ·rw[Jj h]at h1;simp at h1
       have w5:=Jd af;have:=(FV c1 (Jh w5) jL (r6 _ _ _ w5 h1).1).2 eL;rw[f3 _ (Jh w5)]at this;simp at this
      rw[J6]at e1 e2;split at e1 <;> split at e2
      ·omega
      ·simp at e1;subst e1;have:=old _ _ e2;rcases ka with h|h
       ·simp at h;omega
       ·simp at h;exact absurd h.symm this.2
      ·simp at e2;subst e2;have:=old _ _ e1;rcases ka with h|h
       ·simp at h;omega
       ·simp at h;exact absurd h this.2
      ·exact r8 _ _ _ _ e1 e2 ka
   ·
    rw[N1 es kc yc j ent f4 f6 f7]at c3;have gZ:j<ms.size:=by
     rcases Jg j ms.size with h|h
     ·exact h
     ·rw[Jj h]at f2;simp at f2
    refine EOk.skip (g':=g) (w':=World.putObj' w b (.map (ms.modify j λe=>{ e with key:=kv,val:=yv }) clock)) ?_ c3 ?_
    ·rw[cZ];simp only[Instr.mapUpdate,Sem.run_bind,C1 hu,Result.andThen_ok,cO,run_checkKey nT dv _ 9999,run_findKey nT f1,f2,Jq,Jv,f3,run_keyThatStays dv];rw[IK r3 ZC];rfl
    ·refine Ph hs r2 r3 hH λaS f8=>?_;refine⟨b,_,_,aS.io _ _ bK,r2,f8,by simp[r4],by simpa using r5,λi' x' m' e1 e2=>?_,λi' m' e1=>?_,λi' j' m1 m2 e1 e2 ka=>?_⟩
     ·rw[J9]at e2;rw[Jaq]at e1;split at e2
      ·rename_i hj
       subst hj;rw[if_pos rfl,if_pos ZA]at e1;simp at e1;subst e1;rw[f2]at e2;simp at e2;subst e2;exact⟨jL.mono aS,jV.mono aS⟩
      ·rename_i hj
       rw[if_neg hj]at e1;exact (r6 i' x' m' e1 e2).mono aS
     ·rw[J9]at e1;split at e1
      ·rename_i hj;subst hj;rw[f2]at e1;simp at e1;subst e1;exact r7 j m f2
      ·exact r7 _ _ e1
     ·have old:∀(i':Nat) (m1:MapEntry),(ms.modify j λe=>{ e with key:=kv,val:=yv })[i']? = some m1->∃m0,ms[i']? = some m0/\m0.born=m1.born/\m0.key=m1.key:=by
       intro i' m1 h1;rw[J9]at h1;split at h1
       ·rename_i hj;subst hj;rw[f2]at h1;simp at h1;subst h1;exact⟨m,f2,rfl,f3⟩
       ·exact⟨m1,h1,Rf0⟩
      obtain⟨n1,k1,k2,k3⟩:=old _ _ e1;obtain⟨n2,k4,k5,k6⟩:=old _ _ e2;refine r8 _ _ _ _ k1 k4 ?_;rcases ka with h|h
      ·exact .inl (by rw[k2,k5,h])
      ·exact .inr (by rw[k3,k6,h])
  ·exact q6.elim
 ·exact q6.elim
theorem Qa8m{x k:Opd}{k':Operand}{kt et:TypeId}(hm:o.op=.call { callee:=.builtin .delete,args:=#[x',k'],argTypes:=ats })(bu:ats[0]? = some t)(hd:o.dst=none)(hu:P.underlying t=some (.map kt et))
  (nT:P.underlying kt=some (tagD tag)) (hx:mO x x'=true) (hk:mO k k'=true)
  (hs:Sat H g w) (he:EnvOk w g e a) (hp:p=true) (ho:(EOp.del tag x k).eff P p e H K):EOk P H g w a o K:=by
 simp only[EOp.eff]at ho;obtain⟨q1,q2,q4,q5,q6⟩:=ho;have ge:=Cz he hx hp q1;have m8:=Cz he hk hp q2;rw[Dh q4]at ge;rw[Dh q5]at m8;have i6:=ge.aN;have jL:=m8.aN;generalize mA:a.eval x'=xv at i6;generalize uj:a.eval k'=kv at jL;generalize (x.v e).c1=A at i6 q6;generalize (k.v e).c1=kc at jL q6;have cZ:(execOp a.eval o).run P w=((Builtin.delete_ ats o.type #[xv,kv]).run P w).andThen λv w'=>.ok (.value v) w':=by
  simp[execOp,hm,resolve,invoke,builtin,mA,uj]
 unfold delT at q6;split at q6
 ·rename_i l
  split at q6
  ·rename_i n es hH
   obtain⟨c1,c3⟩:=q6;obtain⟨b,rfl,bK⟩:=Hd (c:=.unk) i6;have bf:=hs.objs l;rw[hH]at bf;obtain⟨b',ms,clock,r1,r2,r3,r4,r5,r6,r7,r8⟩:=bf;rw[bK]at r1;simp only[Jb,Jo,and_true]at r1;subst r1;have dv:=Ih c1 jL;have cO:(getObj b).run P w=.ok (.map ms clock) w:=Zao
   rcases Iu c1 jL r4 r6 r8 with ⟨f1,f2,f3⟩|⟨j,m,ent,f1,f2,f3,f4,f5,f6,f7⟩
   ·rw[Ng es kc f3]at c3;refine EOk.value (g':=g) (v:=.tuple #[]) (w':=World.putObj' w b (.map ms clock)) ?_ c3 ?_ (.unk _)
    ·rw[cZ];simp only[Builtin.delete_,bu];simp[C1 hu,cO,run_checkKey nT dv _ 9999,run_findKey nT f1,IK r3]
    ·refine Ph hs r2 r3 hH λaS f8=>?_;exact⟨b,_,_,aS.io _ _ bK,r2,f8,r4,r5,λi' x' m' e1 e2=>(r6 i' x' m' e1 e2).mono aS,r7,r8⟩
   ·rw[Oa es kc j ent f4 f6 f7]at c3;have gZ:j<ms.size:=by
     rcases Jg j ms.size with h|h
     ·exact h
     ·rw[Jj h]at f2;simp at f2
    have zQ:∀q,(ms.eraseIdxIfInBounds j)[q]? = if q<j then ms[q]? else ms[q+1]?:=by
     intro q;unfold Array.eraseIdxIfInBounds;rw[dif_pos gZ,Array.getElem?_eraseIdx]
    refine EOk.value (g':=g) (v:=.tuple #[]) (w':=World.putObj' w b (.map (ms.eraseIdxIfInBounds j) clock)) ?_ c3 ?_ (.unk _)
    ·rw[cZ];simp only[Builtin.delete_,bu];simp[C1 hu,cO,run_checkKey nT dv _ 9999,run_findKey nT f1,IK r3]
    ·refine Ph hs r2 r3 hH λaS f8=>?_;have gJ:es.length-1=(es.eraseIdx j).length:=(by rw[Ja4];simp;omega);refine⟨b,_,_,aS.io _ _ bK,r2,f8,?_,ZA,λi' x' m' e1 e2=>?_,λi' m' e1=>?_,λi' j' m1 m2 e1 e2 ka=>?_⟩
     ·unfold Array.eraseIdxIfInBounds;rw[dif_pos gZ];simp;omega
     ·rw[zQ]at e2;rw[List.getElem?_eraseIdx]at e1;split at e1
      ·rename_i h;rw[if_pos h]at e2;exact (r6 _ _ _ e1 e2).mono aS
      ·rename_i h;rw[if_neg h]at e2;exact (r6 _ _ _ e1 e2).mono aS
     ·rw[zQ]at e1;split at e1
      ·exact r7 _ _ e1
      ·exact r7 _ _ e1
     ·rw[zQ]at e1 e2;split at e1 <;> split at e2 <;> have:=r8 _ _ _ _ e1 e2 ka <;> omega
  ·exact q6.elim
 ·obtain⟨c1,c2⟩:=q6;have hv:xv=.map none:=by cases i6;rfl
  subst hv;have dv:=Ih c1 jL;refine EOk.value (g':=g) (v:=.tuple #[]) (w':=w) ?_ c2 (.refl hs) (.unk _);rw[cZ];simp only[Builtin.delete_,bu];simp[C1 hu,run_checkKey nT dv _ 9999]
 ·exact q6.elim
end
section
variable{H:Heap}{w:World}{e:Env}{a:Act}{o:Oper}{p:Bool}
theorem Sm {f:FuncId}(h:fnOk P f=true)(args:Array Value)(w:World):(callFunc f args).run P w=.ok (.enter f args) w:=by
 unfold fnOk at h;split at h
 ·rename_i fn hf
  simp only[Ja,bne_iff_ne,ne_eq]at h;obtain⟨h1,h2⟩:=h;have hn:fn.body≠none:=by intro hb;rw[hb]at h1;simp at h1
  simp[callFunc,hf,h2,hn]
 ·simp at h
theorem Od {f:FuncId}{args:List V}(hc:Qu P f args H K)(hs:Sat H g w){vs:List Value}(hl:vs.length=args.length)
  (hv:∀(j:Nat) (x:V) (u:Value),args[j]? = some x->vs[j]? = some u->RepV w g x u) (hr:(execOp a.eval o).run P w=.ok (.enter f vs.toArray) w):EOk P H g w a o K:=by
 intro Q next hn jY;unfold Oper.wp;rw[hr,Oper.upon_enter];refine (hc.2 g w vs hs hl hv).mono λen w' h=>?_;rcases h with ⟨v,x,H',g',rfl,hk,aI,dA⟩|⟨v,H',g',rfl,hk,aI⟩
 ·exact hn x v w' H' g' hk aI dA
 ·exact jY v w' H' g' hk aI
theorem LM (he:EnvOk w g e a)(hp:p=true){ys:List Operand}(hm:mOs xs ys=true)(hf:∀x∈xs,x.fine p e) :
  (ys.map a.eval).length=(xs.map λx=>x.v e).length/\∀(j:Nat) (x:V) (u:Value),(xs.map λx=>x.v e)[j]? = some x->(ys.map a.eval)[j]? = some u->RepV w g x u:=by
 obtain⟨h1,h2⟩:=HG xs ys hm;refine⟨Zbn,λj x u e1 e2=>?_⟩;simp only[Jn]at e1 e2
 cases hj:xs[j]? with
 |none=>rw[hj]at e1;simp at e1
 |some x0=>
  cases bE:ys[j]? with
  |none=>rw[bE]at e2;simp at e2
  |some y0=>
   rw[hj]at e1;rw[bE]at e2;simp at e1 e2;subst e1;subst e2;exact Cz he (h2 j x0 y0 hj bE) hp (hf x0 (Jh hj))
theorem Qa6n(hm:o.op=.call { callee:=.value (.func f),args:=as,argTypes:=ats })(hx:mOs xs as.toList=true)
  (hs:Sat H g w) (he:EnvOk w g e a) (hp:p=true) (hf:∀x∈xs,x.fine p e) (hc:Qu P f (xs.map λx=>x.v e) H K):EOk P H g w a o K:=by
 obtain⟨h1,h2⟩:=LM he hp hx hf;refine Od hc hs h1 h2 ?_;have eN:as.map a.eval=(as.toList.map a.eval).toArray:=by apply Jae;simp
 simp only[execOp,hm,resolve,Deferred.ofValue,Act.eval,Sem.run_bind,Sem.run_pure,Result.andThen_ok,invoke];have:(#[]++as.map a.eval++#[]:Array Value)=(as.toList.map a.eval).toArray:=by rw[eN];simp
 rw[this];exact Sm hc.1 _ w
theorem Qa3g {x:Opd}(hm:o.op=.call { callee:=.value y,args:=as,argTypes:=ats })(hy:mO x y=true)(hx:mOs xs as.toList=true)
  (hs:Sat H g w) (he:EnvOk w g e a) (hp:p=true) (ho:(EOp.fN x xs).eff P p e H K):EOk P H g w a o K:=by
 simp only[EOp.eff]at ho;obtain⟨q1,hf,q2⟩:=ho;have hr:=Cz he hy hp q1;split at q2
 ·rename_i n caps hv
  rw[hv]at hr;obtain⟨cv,hq,cL,lR⟩:=hr.aN.fn_inv;obtain⟨h1,h2⟩:=LM he hp hx hf;refine Od (vs:=as.toList.map a.eval++cv) q2 hs (by rw[Jaf,Jaf,h1];simp[cL]) (λj z u e1 e2=>?_) ?_
  ·by_cases hj:j<(xs.map λx=>x.v e).length
   ·rw[Ji hj]at e1;rw[Ji (by rw[h1];exact hj)]at e2;exact h2 j z u e1 e2
   ·rw[Jk ZA]at e1 e2;rw[h1]at e2;simp only[Jn]at e1
    cases hc:caps[j-(xs.map λx=>x.v e).length]? with
    |none=>rw[hc]at e1;simp at e1
    |some c=>
     rw[hc]at e1;simp at e1;subst e1;exact .c _ _ (lR _ c u hc e2)
  ·have eN:as.map a.eval=(as.toList.map a.eval).toArray:=by apply Jae;simp
   simp only[execOp,hm,resolve,hq,Deferred.ofValue,Sem.run_bind,Sem.run_pure,Result.andThen_ok,invoke];have:(#[]++as.map a.eval++cv.toArray:Array Value)=(as.toList.map a.eval++cv).toArray:=by rw[eN];simp
   rw[this];exact Sm q2.1 _ w
 ·exact q2.elim
theorem Qad8(h:P.underlying t=some (.slice el))(d:Nat)(b:Option Addr)(n c:Nat)(w:World):(Op.equalIn (d+1) t (.slice b n c) (.slice none 0 0)).run P w=.ok b.isNone w:=by
 cases b <;> simp[Op.equalIn,C1 h]
theorem On {α:Type}:∀(l:List α) (i:Nat) (h:i<l.length),(l[i]::l.eraseIdx i).Perm l
 |x::l,0,_=>ZC
 |x::l,i+1,h=>by
  simp only[List.getElem_cons_succ,Jar];exact (List.Perm.swap x _ _).trans ((On l i ZI).cons x)
theorem Qa6p {x:Opd}{t':TypeId}(hm:o.op=.binOp .eql t x' y' t')(hu:P.underlying t=some (.slice el))(hx:mO x x'=true)(hy:a.eval y'=.slice none 0 0)
  (hs:Sat H g w) (he:EnvOk w g e a) (hp:p=true) (ho:(EOp.nilq x).eff P p e H K):EOk P H g w a o K:=by
 simp only[EOp.eff]at ho;obtain⟨q1,q2⟩:=ho;have hr:=Cz he hx hp q1;split at q2
 ·rename_i fl sz rows hv
  rw[hv]at hr;have lR:=hr.aN;generalize hq:a.eval x'=xv at lR;have kF:(execOp a.eval o).run P w=((binOp .eql t xv (.slice none 0 0)).run P w).andThen λv w'=>.ok (.value v) w':=by
   simp only[execOp,hm,hq,hy,Sem.run_bind];rw[De]
   ·simp
   ·intro cs ds h;simp at h
   ·intro h;simp at h
  have iM:∀b:Option Addr,∀n c,(Op.equal t (.slice b n c) (.slice none 0 0)).run P w=.ok b.isNone w:=by
   intro b n c;exact Qad8 hu 9999 b n c w
  cases lR with
  |ce _ _ ad=>
   refine EOk.value (g':=g) (v:=.bool ad.isNone) (w':=w) ?_ (q2 ad.isNone (λ_=>rfl)) (.refl hs) (.c _ _ (.bool _));rw[kF];simp only[binOp,Sem.run_bind,iM,Result.andThen_ok,Sem.run_pure]
  |sl=>
   refine EOk.value (g':=g) (v:=.bool false) (w':=w) ?_ (q2 false ZC) (.refl hs) (.c _ _ (.bool _));rw[kF];simp only[binOp,Sem.run_bind,iM,Result.andThen_ok,Sem.run_pure];rfl
 ·exact q2.elim
theorem Qa8r {x:Opd}{kt et:TypeId}(hm:o.op=.range t x')(hu:P.underlying t=some (.map kt et))(hx:mO x x'=true)
  (hs:Sat H g w) (he:EnvOk w g e a) (hp:p=true) (ho:(EOp.rng x).eff P p e H K):EOk P H g w a o K:=by
 simp only[EOp.eff]at ho;obtain⟨q1,q2⟩:=ho;have hr:=Cz he hx hp q1;obtain⟨l',dq,jA⟩:=hs.newName;split at q2
 ·rename_i l hv
  rw[hv]at hr;split at q2
  ·rename_i n es hH
   obtain⟨c1,c2⟩:=q2;obtain⟨b,hq,bK⟩:=Hd (c:=.unk) hr.aN;have bf:=hs.objs l;rw[hH]at bf;obtain⟨b',ms,clock,r1,r2,r3,r4,r5,r6,r7,r8⟩:=bf;rw[bK]at r1;simp only[Jb,Jo,and_true]at r1;subst r1;have cO:(getObj b).run P w=.ok (.map ms clock) w:=Zao
   have jJ:l≠l':=λh=>by subst h;rw[dq]at bK;simp at bK
   have aI:=F7 hs dq 0 0 (.mapIter (some b) clock #[] clock) (.iter (some (l,n)) es none) (λg' hg=>by
    subst hg;refine⟨w.heap.size,b,clock,#[],ZK,ZK,EA _ _,by simp[G.newObj,jJ,bK],λv es' iS=>?_⟩;rw[Heap.aj _ _ jJ,hH]at iS;simp only[Obj.map.injEq]at iS;obtain⟨rfl,rfl⟩:=iS;refine⟨Jw _,λ_=>⟨ms,(FH _ _ (G3 r3)).trans r3,r4,c1,c1,λx=>⟨λhx=>?_,λhx=>?_⟩,ZC⟩⟩
    ·obtain⟨i,hi⟩:=J2 hx;have af:i<ms.size:=by
      rw[r4];rcases Jg i es.length with h|h
      ·exact h
      ·rw[Jf h]at hi;simp at hi
     exact⟨i,ms[i],hi,Jc af,ZC⟩
    ·obtain⟨i,m,h1,_⟩:=hx;exact Jh h1)
   refine EOk.value (v:=.pointer (some ⟨w.heap.size,0,none⟩)) (w':=w.alloc (.mapIter (some b) clock #[] clock)) ?_ (c2 l' jA) aI (.c _ _ (.itr l' w.heap.size ZK));simp[execOp,hm,hq,Instr.range,C1 hu,cO]
  ·exact q2.elim
 ·rename_i hv
  rw[hv]at hr;have hq:a.eval x'=.map none:=by
   have:=hr.aN;generalize a.eval x'=xv at this;cases this;rfl
  have aI:=F7 hs dq 0 0 (.mapIter none 0 #[] 0) (.iter none [] none) (λg' hg=>by
   subst hg;exact⟨w.heap.size,0,#[],0,ZK,ZK,EA _ _,rfl⟩)
  refine EOk.value (v:=.pointer (some ⟨w.heap.size,0,none⟩)) (w':=w.alloc (.mapIter none 0 #[] 0)) ?_ (q2 l' jA) aI (.c _ _ (.itr l' w.heap.size ZK));simp[execOp,hm,hq,Instr.range,C1 hu]
 ·exact q2.elim
theorem KF {v:Value}{l:Nat}(h:RepC w g (.itr l) v):∃b,v=.pointer (some ⟨b,0,none⟩)/\g.io l=some (b,0,0):=by
 cases h with
 |itr _ b bK=>exact⟨b,rfl,bK⟩
theorem Qari {r mb since:Nat}{seen:Array Nat}{ms:Array MapEntry}(hr:w.heap[r]? = some (.mapIter (some mb) since seen since))(iW:w.heap[mb]? = some (.map ms since))
  (af:∀(i:Nat) (m:MapEntry),ms[i]? = some m->m.born<since) :
  ((∀(i:Nat) (m:MapEntry),ms[i]? = some m->m.born∈seen)/\(Instr.next (.pointer (some ⟨r,0,none⟩)) false t).run P w=.ok (.tuple #[.bool false]) w)\/
  ∃(w1:World) (i:Nat) (m:MapEntry),ms[i]? = some m/\m.born∉seen/\(w1=w\/w1=w.drew)/\
   (Instr.next (.pointer (some ⟨r,0,none⟩)) false t).run P w=.ok (.tuple #[.bool true,m.key,m.val]) (World.putObj' w1 r (.mapIter (some mb) since (seen.push m.born) since)):=by
 have g1:(getObj r).run P w=.ok (.mapIter (some mb) since seen since) w:=by simp[getObj,Sem.run,hr]
 have g2:(getObj mb).run P w=.ok (.map ms since) w:=by simp[getObj,Sem.run,iW]
 have ke:∀m∈ms,m.born<since:=by
  intro m hm;obtain⟨i,hi⟩:=Jaj hm;exact af i m hi
 have Ad:(!seen.isEmpty&&!ms.isEmpty&&ms.all (λm=>decide (m.born≥since)))=false:=by
  by_cases h:ms=#[]
  ·subst h;simp
  ·have be:0<ms.size:=by
    rcases Jag ms.size with h0|h0
    ·exact absurd (Jaw.1 h0) h
    ·exact h0
   have:ms.all (λm=>decide (m.born≥since))=false:=by
    rw[Bool.eq_false_iff];intro cd;rw[Array.all_eq_true]at cd;have:=cd 0 be;simp at this;have:=ke ms[0] (Jbc be);omega
   rw[this];simp
 generalize qd:ms.filter (λm=>!seen.contains m.born)=left;have cr:∀m,m∈left↔m∈ms/\m.born∉seen:=by
  intro m;rw[<-qd];simp[Array.mem_filter]
 have u0:left.filter (λm=>decide (m.born<since))=left:=by
  rw[Array.filter_eq_self];intro m hm;simpa using ke m ((cr m).1 hm).1
 have u7:left.filter (λm=>decide (m.born≥since))=#[]:=by
  rw[Array.filter_eq_empty_iff];intro m hm;have:=ke m ((cr m).1 hm).1;simp;omega
 have cg:(Instr.next (.pointer (some ⟨r,0,none⟩)) false t).run P w =
   ((choose (.mapNext ((if left.isEmpty then #[none]else #[])++left.map some).size)).run P w).andThen λk w'=>
    (match ((if left.isEmpty then #[none]else #[])++left.map some)[k]? with
     |some (some e)=>(do setObj r (.mapIter (some mb) since (seen.push e.born) since);pure (.tuple #[.bool true,e.key,e.val]):Sem Value)
     |some none=>pure (.tuple #[.bool false])
     | none => stuck "Next: no such candidate").run P w' := by
  simp only[Instr.next,Sem.run_bind,g1,Result.andThen_ok,g2];simp only[Ad,Jr,if_false,qd,u0,u7,Array.append_empty];simp only[Sem.run_bind]
  first|rfl|(congr 1;funext k w';split <;> simp)
 by_cases wz:left=#[]
 ·left;refine⟨λi m hm=>?_,?_⟩
  ·by_cases hc:m.born∈seen
   ·exact hc
   ·have:m∈left:=(cr m).2 ⟨Jax hm,hc⟩;rw[wz]at this;simp at this
  ·rw[cg,wz];simp[Question.forced]
 ·right;have mL:0<left.size:=by
   rcases Jag left.size with h0|h0
   ·exact absurd (Jaw.1 h0) wz
   ·exact h0
  have iZ:left.isEmpty=false:=by simpa using wz
  have hk:∃(k:Nat) (w1:World),k<left.size/\(w1=w\/w1=w.drew)/\(choose (.mapNext left.size)).run P w=.ok k w1:=by
   by_cases h1:left.size<=1
   ·exact⟨0,w,mL,.inl rfl,by simp[Question.forced,h1]⟩
   ·refine⟨w.tape w.drawn (.mapNext left.size) % left.size,w.drew,Jbh _ mL,.inr rfl,?_⟩;simp[Question.forced,h1,Question.cut]
  obtain⟨k,w1,k1,k2,k3⟩:=hk;have uN:left[k]? = some left[k]:=Jc k1;obtain⟨m1,m2⟩:=(cr left[k]).1 (Jbc k1);obtain⟨i,hi⟩:=Jaj m1;refine⟨w1,i,left[k],hi,m2,k2,?_⟩;rw[cg];simp only[iZ,Jr,if_false,Array.empty_append,Array.size_map,k3,Result.andThen_ok,Jan,uN,Jq,Sem.run_bind];have cN:w1.heap[r]? = some (.mapIter (some mb) since seen since):=by rcases k2 with rfl|rfl <;> exact hr
  rw[IK cN ZC];rfl
theorem Qa8q {x:Opd}(hm:o.op=.next x' false)(hx:mO x x'=true)
  (hs:Sat H g w) (he:EnvOk w g e a) (hp:p=true) (ho:(EOp.nxt x).eff P p e H K):EOk P H g w a o K:=by
 simp only[EOp.eff]at ho;obtain⟨q1,q2⟩:=ho;have hr:=Cz he hx hp q1;split at q2
 ·rename_i i hv
  rw[hv]at hr;obtain⟨b,hq,bK⟩:=KF hr.aN;have bf:=hs.objs i;split at q2
  ·rename_i left cur hH
   rw[hH]at bf;obtain⟨b',si,se,la,r1,r2,r3,r4⟩:=bf;rw[bK]at r1;simp only[Jb,Jo,and_true]at r1;subst r1;have cO:(getObj b).run P w=.ok (.mapIter none si se la) w:=Zao
   refine EOk.value (g':=g) (v:=.tuple #[.bool false]) (w':=w) (by simp[execOp,hm,hq,Instr.next,cO]) q2 (.refl hs) (.tup _ [.bool false] rfl λj x u e1 e2=>?_)
   cases j with
   |zero=>simp at e1 e2;subst e1;subst e2;exact .c _ _ (.bool _)
   |succ j=>simp at e1
  ·rename_i l n left cur hH
   obtain⟨⟨es,sd⟩,c1,c2⟩:=q2;rw[hH]at bf;obtain⟨b',mb,si,se,r1,r2,r3,r4,r5⟩:=bf;rw[bK]at r1;simp only[Jb,Jo,and_true]at r1;subst r1;obtain⟨_,h5⟩:=r5 n es sd;obtain⟨ms,f1,f2,f3,f4,f5,f6⟩:=h5 rfl;have eF:=hs.objs l;rw[sd]at eF;obtain⟨mb',ms',clock,d1,d2,d3,d4,d5,d6,d7,d8⟩:=eF;rw[r4]at d1;simp only[Jb,Jo,and_true]at d1;subst d1;rw[f1]at d3;simp only[Jb,Go.Obj.map.injEq]at d3;obtain⟨rfl,rfl⟩:=d3;have cZ:(execOp a.eval o).run P w=((Instr.next (.pointer (some ⟨b,0,none⟩)) false o.type).run P w).andThen λv w'=>.ok (.value v) w':=by
    simp[execOp,hm,hq]
   rcases Qari (P:=P) (t:=o.type) r3 f1 d7 with ⟨k1,k2⟩|⟨w1,ix,m,k1,k2,k3,k4⟩
   ·have iX:left=[]:=by
     cases left with
     |nil=>rfl
     |cons y r=>
      obtain⟨iy,my,a1,a2,a3⟩:=(f5 y).1 ZC;exact absurd (k1 iy my a2) a3
    refine EOk.value (g':=g) (v:=.tuple #[.bool false]) (w':=w) (by rw[cZ,k2];rfl) (c1 iX) (.refl hs) (.tup _ [.bool false] rfl λj x u e1 e2=>?_)
    cases j with
    |zero=>simp at e1 e2;subst e1;subst e2;exact .c _ _ (.bool _)
    |succ j=>simp at e1
   ·have gH:ix<es.length:=by
     rw[<-f2];rcases Jg ix ms.size with h|h
     ·exact h
     ·rw[Jj h]at k1;simp at k1
    have jh:=Jd gH;generalize hxx:es[ix]=xx at jh;have eZ:xx∈left:=(f5 xx).2 ⟨ix,m,jh,k1,k2⟩;obtain⟨q,rq,mA⟩:=List.getElem_of_mem eZ;have mM:=On left q rq;rw[mA]at mM;have df:(xx::left.eraseIdx q).Nodup:=mM.nodup_iff.2 f4;have pZ:∀y,y∈left.eraseIdx q↔y∈left/\y≠xx:=by
     intro y;rw[<-mM.mem_iff];rw[Ja2]at df;constructor
     ·intro hy;exact⟨by simp[hy],λh=>df.1 (h▸hy)⟩
     ·rintro⟨hy,be⟩;simp at hy;exact hy.resolve_left be
    have hk:=c2 xx (left.eraseIdx q) eZ pZ (Ja2.1 df).2 (by rw[Ja4,if_pos rq];omega);have cE:Stp H g w H g w1:=by
     rcases k3 with rfl|rfl
     ·exact .refl hs
     ·exact La hs
    have ir:∀bb:Nat,w1.heap[bb]? = w.heap[bb]?:=(by intro bb;rcases k3 with rfl|rfl <;> rfl);have rM:l≠i:=λh=>(by subst h;rw[sd]at hH;simp at hH);have yT:mb≠b:=λh=>(by subst h;rw[f1]at r3;simp at r3);have aI:Stp H g w1 (H.set i (.iter (some (l,n)) (left.eraseIdx q) (some xx))) g (World.putObj' w1 b (.mapIter (some mb) si (se.push m.born) si)):=by
     have af:b<w1.heap.size:=G3 ((ir b).trans r3);refine Q0k cE.sat r2 (by simp[World.putObj']) (λb' h=>Si h) (λT' k hk=>?_) rfl rfl rfl _ Zav (λaS=>?_) ZC
     ·simp[World.shape?,ir,r3]at hk
     ·refine⟨b,mb,si,se.push m.born,bK,r2,Q6o af,r4,λv es' iS=>?_⟩;rw[Heap.aj _ _ rM,sd]at iS;simp only[Obj.map.injEq]at iS;obtain⟨rfl,rfl⟩:=iS;refine⟨Jw _,λ_=>⟨ms,?_,f2,f3,(Ja2.1 df).2,λy=>?_,λy hy=>?_⟩⟩
      ·rw[Si yT,ir];exact f1
      ·rw[pZ y,f5 y];constructor
       ·rintro⟨⟨iy,my,a1,a2,a3⟩,be⟩;refine⟨iy,my,a1,a2,λbT=>?_⟩;rw[Jbn]at bT;rcases bT with bT|bT
        ·exact a3 bT
        ·have:=d8 iy ix my m a2 k1 (.inl bT);subst this;rw[jh]at a1;simp at a1;exact be a1.symm
       ·rintro⟨iy,my,a1,a2,a3⟩;rw[Jbn,not_or]at a3;refine⟨⟨iy,my,a1,a2,a3.1⟩,λh=>?_⟩;subst h;have By:iy<es.length:=by
         rcases Jg iy es.length with h|h
         ·exact h
         ·rw[Jf h]at a1;simp at a1
        have:iy=ix:=(List.getElem_inj (h₀:=By) (h₁:=gH) f3).1 (by
         rw[Jd By]at a1;simp at a1;rw[a1,hxx])
        subst this;rw[k1]at a2;simp at a2;subst a2;exact a3.2 rfl
      ·simp at hy;subst hy;exact⟨ix,m,jh,k1,ZC⟩
    have vI:=d6 ix xx m jh k1;refine EOk.value (v:=.tuple #[.bool true,m.key,m.val]) (by rw[cZ,k4];rfl) hk (cE.trans aI) (.tup _ [.bool true,m.key,m.val] rfl λj y u e1 e2=>?_);have uK:=(cE.trans aI).le
    match j with
    |0=>simp at e1 e2;subst e1;subst e2;exact .c _ _ (.bool _)
    |1=>simp at e1 e2;subst e1;subst e2;exact .c _ _ (vI.1.mono uK)
    |2=>simp at e1 e2;subst e1;subst e2;exact vI.2.mono uK
    |j+3=>simp at e1
  ·exact q2.elim
 ·exact q2.elim
theorem Qa8n {x:Opd}(hm:o.op=.entry x')(hx:mO x x'=true)
  (hs:Sat H g w) (he:EnvOk w g e a) (hp:p=true) (ho:(EOp.ent x).eff P p e H K):EOk P H g w a o K:=by
 simp only[EOp.eff]at ho;obtain⟨q1,q2⟩:=ho;have hr:=Cz he hx hp q1;split at q2
 ·rename_i i hv
  rw[hv]at hr;obtain⟨b,hq,bK⟩:=KF hr.aN;have bf:=hs.objs i;split at q2
  ·rename_i l n left xx hH
   obtain⟨⟨es,sd⟩,c1⟩:=q2;rw[hH]at bf;obtain⟨b',mb,si,se,r1,r2,r3,r4,r5⟩:=bf;rw[bK]at r1;simp only[Jb,Jo,and_true]at r1;subst r1;obtain⟨_,h5⟩:=r5 n es sd;obtain⟨ms,f1,f2,f3,f4,f5,f6⟩:=h5 rfl;obtain⟨ix,m,k1,k2,k3⟩:=f6 xx rfl;have eF:=hs.objs l;rw[sd]at eF;obtain⟨mb',ms',clock,d1,d2,d3,d4,d5,d6,d7,d8⟩:=eF;rw[r4]at d1;simp only[Jb,Jo,and_true]at d1;subst d1;rw[f1]at d3;simp only[Jb,Go.Obj.map.injEq]at d3;obtain⟨rfl,rfl⟩:=d3;have g1:(getObj b).run P w=.ok (.mapIter (some mb) si se si) w:=Zao
   have g2:(getObj mb).run P w=.ok (.map ms si) w:=by simp[getObj,Sem.run,f1]
   have vn:ms.find? (λx=>x.born == m.born)=some m:=by
    cases hf:ms.find? (λx=>x.born == m.born)with
    |none=>
     rw[Array.find?_eq_none]at hf;have:=hf m (Jax k2);simp at this
    |some m'=>
     have h1:=Array.find?_some hf;obtain⟨i',bZ⟩:=Jaj (Array.mem_of_find?_eq_some hf);have:i'=ix:=d8 i' ix m' m bZ k2 (.inl ZX);subst this;rw[k2]at bZ;exact bZ.symm
   refine EOk.value (g':=g) (v:=.tuple #[m.key,m.val]) (w':=w) ?_ c1 (.refl hs) (.tup _ [m.key,m.val] rfl λj y u e1 e2=>?_)
   ·simp[execOp,hm,hq,Instr.entry,g1,k3,g2,vn]
   ·have vI:=d6 ix xx m k1 k2
    match j with
    |0=>simp at e1 e2;subst e1;subst e2;exact .c _ _ vI.1
    |1=>simp at e1 e2;subst e1;subst e2;exact vI.2
    |j+2=>simp at e1
  ·exact q2.elim
 ·exact q2.elim
theorem Qa6o {sz:Nat}{x:Opd}{i:TypeInfo}
  (hm:o.op=.call { callee:=.builtin .clear,args:=#[x'],argTypes:=ats }) (bu:ats[0]? = some t) (hu:P.underlying t=some (.slice el))
  (hi:P.info? el=some i) (hz:i.zero=some z) (iR:D6 zero z=true) (iq:zero.length=sz) (hx:mO x x'=true)
  (hs:Sat H g w) (he:EnvOk w g e a) (hp:p=true) (ho:(EOp.clrs sz zero x).eff P p e H K):EOk P H g w a o K:=by
 simp only[EOp.eff]at ho;obtain⟨q1,q2⟩:=ho;have ge:=Cz he hx hp q1;split at q2
 ·rename_i l z' st n hv
  obtain⟨rfl,q2⟩:=q2;split at q2
  ·rename_i y rows hH
   obtain⟨rfl,q3,q4⟩:=q2;rw[hv]at ge;have dB:=ge.aN;generalize hq:a.eval x'=xv at dB;have hr:=Iy (w:=w) (g:=g) iR;have cM:z.cells.size=y:=hr.1.trans iq;by_cases hn:n=0
   ·subst hn;have e0:rows.take st++List.replicate 0 zero++rows.drop (st+0)=rows:=ZC;rw[e0,Heap.set_self _ _ _ hH]at q4;refine EOk.value (g':=g) (v:=.tuple #[]) (w':=w) ?_ q4 (.refl hs) (.unk _)
    cases dB with
    |bO _ _ _ ad=>cases ad <;> simp[execOp,hm,resolve,invoke,builtin,hq,Builtin.clear_,bu,C1 hu]
    |ah=>simp[execOp,hm,resolve,invoke,builtin,hq,Builtin.clear_,bu,C1 hu]
   ·cases dB with
    |bO=>exact absurd rfl hn
    |ah _ _ _ _ cap b base T mm bK hn' iU eG=>
     have bf:=hs.objs l;rw[hH]at bf;obtain⟨b',base',T',cs,val,r1,r2,r3,r4,r5,r6,r7,r8⟩:=SatVec.of bf bK;rw[bK]at r1;simp only[Jb,Jo,true_and]at r1;obtain⟨rfl,rfl⟩:=r1;have bC:∀(q:Nat) (v:Value),(Builtin.zeroCells z.cells n)[q]? = some v->q<n * y/\z.cells[q % y]? = some v:=by
      intro q v h;simp only[Builtin.zeroCells,cM,Jan]at h;by_cases mB:q<n * y
      ·rw[Jak,if_pos mB]at h;have sM:0<y:=by
        rcases Jag y with h0|h0
        ·subst h0;simp at mB
        ·exact h0
       have af:q % y<z.cells.size:=(by rw[cM];exact Jbh _ sM);refine⟨mB,?_⟩;rw[Jc af];simp only[Jq,Jb]at h;rw[<-h];simp[af]
      ·rw[Jak,if_neg mB]at h;simp at h
     have ak:(Builtin.zeroCells z.cells n).toList.length=n * y:=(by simp[Builtin.zeroCells,cM]);have kd:∀v∈(Builtin.zeroCells z.cells n).toList,v.oneCell'=true:=by
      intro v hv;obtain⟨j,hj⟩:=J2 hv;obtain⟨h1,h2⟩:=bC j v ZS;have af:j % y<zero.length:=by
       rcases Jg (j % y) z.cells.size with h|h
       ·rw[hr.1]at h;exact h
       ·rw[Jj h]at h2;simp at h2
      exact (hr.2 _ _ v (Jd af) h2).one
     have aT:(st+n) * y<=rows.length * y:=Jm _ q3;rw[Jl]at aT;have hf:=λj=>It (base+st * y) (Builtin.zeroCells z.cells n).toList 0 cs j ZU;have cH:=Ko (P:=P) (Builtin.zeroCells z.cells n).toList 0 w b (base+st * y) cs T' r3 ZU kd;generalize sk:((Builtin.zeroCells z.cells n).toList.zipIdx 0).foldl (λ(cs:Array Value) (x:Value×Nat)=>cs.setIfInBounds (base+st * y+x.2) x.1) cs=cs' at hf cH;refine EOk.value (g':=g) (v:=.tuple #[]) (w':=World.aB w b cs' T') ?_ q4 ?_ (.unk _)
     ·obtain⟨n',rfl⟩:∃n',n=n'+1:=⟨n-1,ZA⟩;simp[execOp,hm,resolve,invoke,builtin,hq,Builtin.clear_,bu,C1 hu,Eu hi hz,cH]
     ·refine IB hs r2 r3 (hf 0).1 _ Zav (λaS f8=>?_) ZC;have aD:∀(i2:Nat) (row:List C),(rows.take st++List.replicate n zero++rows.drop (st+n))[i2]? = some row->
        (st<=i2/\i2<st+n/\row=zero)\/((i2<st\/st+n<=i2)/\rows[i2]? = some row):=by
       intro i2 row h;by_cases h1:i2<st
       ·rw[Jz,Ji ZF,Jp,if_pos h1]at h;exact .inr ⟨.inl h1,h⟩
       ·by_cases h2:i2<st+n
        ·rw[Ji ZF,Jk ZF,Jas]at h;split at h
         ·exact .inl ⟨ZA,h2,by simpa using h.symm⟩
         ·simp at h
        ·rw[Jk ZF,Js]at h;refine .inr ⟨.inr ZA,?_⟩;rw[<-h];congr 1;simp;omega
      have eT:∀(i2:Nat) (row:List C) (j:Nat) (c:C),(rows.take st++List.replicate n zero++rows.drop (st+n))[i2]? = some row->row[j]? = some c->
        ∃v,cs'[base+i2 * y+j]? = some v/\RepO (World.aB w b cs' T') g l [i2,j] c v:=by
       intro i2 row j c e1 e2;have dU:j<row.length:=(Jac.1 e2).1;rcases aD i2 row e1 with ⟨a1,a2,rfl⟩|⟨a1,a2⟩
       ·rw[iq]at dU;have yj:(i2-st) * y+j<n * y:=GN ZA dU;have uQ:j<z.cells.size:=(by rw[cM];exact dU);refine⟨z.cells[j],?_,.plain _ _ _ _ ((hr.2 j c _ e2 (Jc uQ)).mono aS)⟩;have jc:i2 * y=st * y+(i2-st) * y:=(by rw[<-Jl];congr 1;omega);rw[(hf _).2,if_pos ZU,jc];have:base+(st * y+(i2-st) * y)+j-(base+st * y+0)=(i2-st) * y+j:=ZA;rw[this];have aP:(i2-st) * y+j<(Builtin.zeroCells z.cells n).toList.length:=(by rw[ak];exact yj);rw[Jd aP];have h3:=bC ((i2-st) * y+j) _ (by rw[<-Ju];exact Jd aP);have rK:((i2-st) * y+j) % y=j:=(by rw[Ja3,Jbm];exact Jbk dU);rw[rK,Jc uQ]at h3;exact h3.2.symm
       ·refine⟨val i2 j,?_,Km r2 aS (λb' h=>GB h) ZC (r8 _ _ _ _ a2 e2)⟩;have hjy:j<y:=(by rw[<-r6 _ _ a2];exact dU);rw[(hf _).2,if_neg ?_]
        ·exact r7 _ _ _ _ a2 e2
        ·rw[ak];intro ig;rcases a1 with h|h
         ·have:(i2+1) * y<=st * y:=Jm _ ZA;rw[Jl,Jai]at this;omega
         ·have:(st+n) * y<=i2 * y:=Jm _ h;rw[Jl]at this;omega
      refine .inr ⟨b,base,T',cs',λi2 j=>cs'.getD (base+i2 * y+j) undef,bK,r2,f8,?_,?_,λi2 row h=>?_,λi2 row j c e1 e2=>?_,λi2 row j c e1 e2=>?_⟩
      ·rw[(hf 0).1];have:(rows.take st++List.replicate n zero++rows.drop (st+n)).length=rows.length:=ZF;rw[this];exact r4
      ·have:(rows.take st++List.replicate n zero++rows.drop (st+n)).length=rows.length:=ZF;rw[this];exact r5
      ·rcases aD i2 row h with ⟨_,_,rfl⟩|⟨_,a2⟩
       ·exact iq
       ·exact r6 _ _ a2
      ·obtain⟨v,h1,h2⟩:=eT i2 row j c e1 e2;rw[h1];simp[Je,h1]
      ·obtain⟨v,h1,h2⟩:=eT i2 row j c e1 e2;have e0:cs'.getD (base+i2 * y+j) undef=v:=(by simp[Je,h1]);show RepO _ _ _ _ _ (cs'.getD (base+i2 * y+j) undef);rw[e0];exact h2
  ·exact q2.elim
 ·exact q2.elim
theorem Qa8l {sz:Nat}{x y:Opd}{i:TypeInfo}
  (hm:o.op=.call { callee:=.builtin .copy,args:=#[x',y'],argTypes:=ats }) (bu:ats[0]? = some t) (hu:P.underlying t=some (.slice el))
  (hi:P.info? el=some i) (hz:i.size=sz) (hx:mO x x'=true) (hy:mO y y'=true)
  (hs:Sat H g w) (he:EnvOk w g e a) (hp:p=true) (ho:(EOp.cpy sz x y).eff P p e H K):EOk P H g w a o K:=by
 simp only[EOp.eff]at ho;obtain⟨q1,q2,q3,q4,q5,q6,q7⟩:=ho;have ge:=Cz he hx hp q1;have jV:=Cz he hy hp q2;rw[Dh q4]at jV;have sV:=jV.aN;generalize (y.v e).c1=sx at *;rw[Dh q3]at ge;have dB:=ge.aN;generalize (x.v e).c1=cx at *;generalize yh:a.eval x'=xv at dB;generalize wi:a.eval y'=yv at sV;split at q7
 ·rename_i l z' st n
  split at q7
  ·rename_i y2 rows hH
   obtain⟨rfl,rfl,k3,k4,k5,k6⟩:=q7;obtain⟨f,f1,f2,f3⟩:=GI (P:=P) hs sV q5 q6 k5;obtain⟨ad,cap2,rfl,r1',r2',r3',_⟩:=GP hs sV q5;rw[q6]at r3';have yR:Nat.min (ay sx) n=ay sx:=Nat.min_eq_left k4;generalize kh:ay sx=m at *;by_cases te:m=0
   ·subst te;have bI:rowsOf H sx=[]:=Jx.1 ZA;have e0:rows.take st++rowsOf H sx++rows.drop (st+0)=rows:=(by rw[bI];simp);rw[e0,Heap.set_self _ _ _ hH]at k6;refine EOk.value (g':=g) (v:=.int .i64 0) (w':=w) ?_ k6 (.refl hs) (.c _ _ (.int _ _));simp at f1
    cases dB with
    |bO _ _ _ ad2=>cases ad2 <;> simp[execOp,hm,resolve,invoke,builtin,yh,wi,Builtin.copy_,Builtin.lenOf,bu,C1 hu,Dm hi,hz,f1,storeCells,goInt]
    |ah=>simp[execOp,hm,resolve,invoke,builtin,yh,wi,Builtin.copy_,Builtin.lenOf,bu,C1 hu,Dm hi,hz,f1,storeCells,goInt]
   ·cases dB with
    |bO=>exact absurd (Nat.le_zero.1 k4) te
    |ah _ _ _ _ cap b base T mm bK hn' iU eG=>
     have bf:=hs.objs l;rw[hH]at bf;obtain⟨b',base',T',cs,val,r1,r2,r3,r4,r5,r6,r7,r8⟩:=SatVec.of bf bK;rw[bK]at r1;simp only[Jb,Jo,true_and]at r1;obtain⟨rfl,rfl⟩:=r1;have ak:((List.range (m * y2)).map f).length=m * y2:=ZC;have kd:∀v∈(List.range (m * y2)).map f,v.oneCell'=true:=by
      intro v hv;obtain⟨q,hq,rfl⟩:=Jbi.1 hv;exact f2 q (Jbo.1 hq)
     have aT:(st+n) * y2<=rows.length * y2:=Jm _ k3;have B0:m * y2<=n * y2:=Jm _ k4;rw[Jl]at aT;have hf:=λj=>It (base+st * y2) ((List.range (m * y2)).map f) 0 cs j ZU;have cH:=Ko (P:=P) ((List.range (m * y2)).map f) 0 w b (base+st * y2) cs T' r3 ZU kd;generalize sk:(((List.range (m * y2)).map f).zipIdx 0).foldl (λ(cs:Array Value) (x:Value×Nat)=>cs.setIfInBounds (base+st * y2+x.2) x.1) cs=cs' at hf cH;refine EOk.value (g':=g) (v:=.int .i64 m) (w':=World.aB w b cs' T') ?_ k6 ?_ (.c _ _ (.int _ _))
     ·simp[execOp,hm,resolve,invoke,builtin,yh,wi,Builtin.copy_,Builtin.lenOf,bu,C1 hu,Dm hi,hz,yR,f1,cH,goInt]
     ·refine IB hs r2 r3 (hf 0).1 _ Zav (λaS f8=>?_) ZC;have aD:∀(i2:Nat) (row:List C),(rows.take st++rowsOf H sx++rows.drop (st+m))[i2]? = some row->
        (st<=i2/\i2<st+m/\(rowsOf H sx)[i2-st]? = some row)\/((i2<st\/st+m<=i2)/\rows[i2]? = some row):=by
       intro i2 row h;by_cases h1:i2<st
       ·rw[Jz,Ji ZF,Jp,if_pos h1]at h;exact .inr ⟨.inl h1,h⟩
       ·by_cases h2:i2<st+m
        ·rw[Ji ZF,Jk ZF]at h;refine .inl ⟨ZA,h2,?_⟩;have e:i2-(rows.take st).length=i2-st:=ZF;rw[e]at h;exact h
        ·rw[Jk ZF,Js]at h;refine .inr ⟨.inr ZA,?_⟩;rw[<-h];congr 1;simp;omega
      have eT:∀(i2:Nat) (row:List C) (j:Nat) (c:C),(rows.take st++rowsOf H sx++rows.drop (st+m))[i2]? = some row->row[j]? = some c->
        ∃v,cs'[base+i2 * y2+j]? = some v/\RepO (World.aB w b cs' T') g l [i2,j] c v:=by
       intro i2 row j c e1 e2;have dU:j<row.length:=(Jac.1 e2).1;rcases aD i2 row e1 with ⟨a1,a2,a3⟩|⟨a1,a2⟩
       ·rw[r3' _ _ a3]at dU;have yj:(i2-st) * y2+j<m * y2:=GN ZA dU;refine⟨f ((i2-st) * y2+j),?_,.plain _ _ _ _ ((f3 _ _ _ _ a3 e2).mono aS)⟩;have jc:i2 * y2=st * y2+(i2-st) * y2:=(by rw[<-Jl];congr 1;omega);rw[(hf _).2,if_pos ZU,jc];have:base+(st * y2+(i2-st) * y2)+j-(base+st * y2+0)=(i2-st) * y2+j:=ZA;rw[this,Jn,Jad yj];rfl
       ·refine⟨val i2 j,?_,Km r2 aS (λb' h=>GB h) ZC (r8 _ _ _ _ a2 e2)⟩;have hjy:j<y2:=(by rw[<-r6 _ _ a2];exact dU);rw[(hf _).2,if_neg ?_]
        ·exact r7 _ _ _ _ a2 e2
        ·rw[ak];intro ig;rcases a1 with h|h
         ·have:(i2+1) * y2<=st * y2:=Jm _ ZA;rw[Jl,Jai]at this;omega
         ·have:(st+m) * y2<=i2 * y2:=Jm _ h;rw[Jl]at this;omega
      have jJ:(rows.take st++rowsOf H sx++rows.drop (st+m)).length=rows.length:=ZF;refine .inr ⟨b,base,T',cs',λi2 j=>cs'.getD (base+i2 * y2+j) undef,bK,r2,f8,?_,?_,λi2 row h=>?_,λi2 row j c e1 e2=>?_,λi2 row j c e1 e2=>?_⟩
      ·rw[(hf 0).1,jJ];exact r4
      ·rw[jJ];exact r5
      ·rcases aD i2 row h with ⟨_,_,a3⟩|⟨_,a2⟩
       ·exact r3' _ _ a3
       ·exact r6 _ _ a2
      ·obtain⟨v,h1,h2⟩:=eT i2 row j c e1 e2;rw[h1];simp[Je,h1]
      ·obtain⟨v,h1,h2⟩:=eT i2 row j c e1 e2;have e0:cs'.getD (base+i2 * y2+j) undef=v:=(by simp[Je,h1]);show RepO _ _ _ _ _ (cs'.getD (base+i2 * y2+j) undef);rw[e0];exact h2
  ·exact q7.elim
 ·exact q7.elim
def FK (P:Program)(el:TypeId)(sz:Nat):Bool:=
 match P.info? el with
 |some i=>i.size == sz&&decide (i.bytes<=128)&&decide (i.bytes≠0)&&(match i.zero with
  |some z=>z.cells.size == sz
  |none=>false)
 |none=>false
theorem NZ{sz:Nat}(h:FK P el sz=true):∃i z,P.info? el=some i/\i.size=sz/\i.zero=some z/\z.cells.size=sz/\i.bytes<=128/\i.bytes≠0:=by
 unfold FK at h;split at h
 ·rename_i i hi
  simp only[Ja,decide_eq_true_eq,beq_iff_eq]at h;obtain⟨⟨⟨h1,h2⟩,h3⟩,h4⟩:=h;split at h4
  ·rename_i z hz;exact⟨i,z,hi,h1,hz,by simpa using h4,h2,h3⟩
  ·simp at h4
 ·simp at h
def mMap (P:Program)(t:TypeId)(tag:Nat):Bool:=
 match P.underlying t with
 |some (.map kt _)=>(match P.underlying kt with
  |some d=>Fh d tag
  |none=>false)
 |_=>false
theorem Q54(h:mMap P t tag=true):∃kt et,P.underlying t=some (.map kt et)/\P.underlying kt=some (tagD tag):=by
 unfold mMap at h;split at h
 ·rename_i kt et hu
  split at h
  ·rename_i d hd;have:=R0 h;subst this;exact⟨kt,et,hu,hd⟩
  ·simp at h
 ·simp at h
def mE (P:Program)(o:Oper):EOp->Bool
 |.alloc cells=>match o.op with
  |.alloc t=>EH P t cells
  |_=>false
 |.boxm x=>match o.op with
  |.box _ x'=>mO x x'
  |_=>false
 |.sto n x y=>match o.op with
  |.store t x' y'=>D7 P t n&&mO x x'&&mO y y'
  |_=>false
 |.app sz x y=>match o.op with
  |.call { callee:=.builtin .append,args:=⟨[x',y']⟩,argTypes:=ats }=>mO x x'&&mO y y'&&(match ats[0]?,ats[1]? with
   |some t,some t2=>(match P.underlying t,P.underlying t2 with
    |some (.slice el),some (.slice _)=>FK P el sz
    |_,_=>false)
   |_,_=>false)
  |_=>false
 |.mks sz zero x=>match o.op with
  |.makeSlice t x' y'=>mO x x'&&mO x y'&&zero.length == sz&&decide (sz≠0)&&(match P.underlying t with
   |some (.slice el)=>FK P el sz&&EH P el zero
   |_=>false)
  |_=>false
 |.mkm=>match o.op with
  |.makeMap _ none=>true
  |_=>false
 |.upd tag x k y=>match o.op with
  |.mapUpdate t x' k' y'=>mO x x'&&mO k k'&&mO y y'&&mMap P t tag
  |.insert t x' k' y'=>mO x x'&&mO k k'&&mO y y'&&mMap P t tag
  |_=>false
 |.del tag x k=>match o.op with
  |.call { callee:=.builtin .delete,args:=⟨[x',k']⟩,argTypes:=ats }=>mO x x'&&mO k k'&&o.dst.isNone&&(match ats[0]? with
   |some t=>mMap P t tag
   |none=>false)
  |_=>false
 |.clrm x=>false
 |.clrs sz zero x=>match o.op with
  |.call { callee:=.builtin .clear,args:=⟨[x']⟩,argTypes:=ats }=>mO x x'&&zero.length == sz&&(match ats[0]? with
   |some t=>(match P.underlying t with
    |some (.slice el)=>EH P el zero
    |_=>false)
   |none=>false)
  |_=>false
 |.call f xs=>match o.op with
  |.call { callee:=.value (.func f'),args:=as,argTypes:=_ }=>f == f'&&mOs xs as.toList
  |_=>false
 |.fN x xs=>match o.op with
  |.call { callee:=.value y,args:=as,argTypes:=_ }=>mO x y&&mOs xs as.toList
  |_=>false
 |.rng x=>match o.op with
  |.range t x'=>mO x x'&&(match P.underlying t with
   |some (.map _ _)=>true
   |_=>false)
  |_=>false
 |.rngs x=>false
 |.nxts x=>false
 |.nxt x=>match o.op with
  |.next x' false=>mO x x'
  |_=>false
 |.ent x=>match o.op with
  |.entry x'=>mO x x'
  |_=>false
 |.nilq x=>match o.op with
  |.binOp .eql t x' (.const (.slice none 0 0)) _=>mO x x'&&(match P.underlying t with
   |some (.slice _)=>true
   |_=>false)
  |_=>false
 |.cpy sz x y=>match o.op with
  |.call { callee:=.builtin .copy,args:=⟨[x',y']⟩,argTypes:=ats }=>mO x x'&&mO y y'&&(match ats[0]? with
   |some t=>(match P.underlying t with
    |some (.slice el)=>D7 P el sz
    |_=>false)
   |none=>false)
  |_=>false
 |.bslm sz parts=>match o.op with
  |.buildSlice t n parts'=>n == parts'.size&&decide (n * sz<=2 ^ 24)&&mRow 0 parts parts'.toList&&decide (sz≠0)&&(match P.underlying t with
   |some (.slice el)=>D7 P el sz&&(match P.info? el with
    |some i=>i.zero.isSome
    |none=>false)
   |_=>false)
  |_=>false
theorem Q5c {op:EOp}(hm:mE P o op=true)(hs:Sat H g w)(he:EnvOk w g e a)(hp:p=true)(ho:op.eff P p e H K):EOk P H g w a o K:=by
 cases op with
 |alloc cells=>
  simp only[mE]at hm;split at hm
  ·obtain⟨i,z,h1,h2,h3⟩:=Kc hm;exact Qa3f ‹_› h1 h2 h3 hs ho
  ·simp at hm
 |boxm x=>
  simp only[mE]at hm;split at hm
  ·exact Qa6l ‹_› hm hs he hp ho
  ·simp at hm
 |sto n x y=>
  simp only[mE]at hm;split at hm
  ·simp only[Ja]at hm;obtain⟨i,h1,h2⟩:=GW hm.1.1;exact Qa8s ‹_› h1 h2 hm.1.2 hm.2 hs he hp ho
  ·simp at hm
 |app sz x y=>
  simp only[mE]at hm;split at hm
  ·rename_i x' y' ats bB
   simp only[Ja]at hm;obtain⟨⟨h1,h2⟩,h3⟩:=hm;split at h3
   ·rename_i t t2 ht cQ
    split at h3
    ·rename_i el el2 hu eV
     obtain⟨i,z,k1,k2,k3,k4,k5,k6⟩:=NZ h3;exact Qa8k bB ht cQ hu eV k1 k2 k3 k4 k5 k6 h1 h2 hs he hp ho
    ·simp at h3
   ·simp at h3
  ·simp at hm
 |bslm sz parts=>
  simp only[mE]at hm;split at hm
  ·rename_i t n parts' bB
   simp only[Ja,decide_eq_true_eq,beq_iff_eq]at hm;obtain⟨⟨⟨⟨h1,h2⟩,h3⟩,h4⟩,h5⟩:=hm;split at h5
   ·rename_i el gJ
    rw[Ja]at h5;obtain⟨i,hi,hz⟩:=GW h5.1;have h6:=h5.2;rw[hi]at h6;obtain⟨z,dt⟩:=J3.1 h6;obtain⟨k1,k2⟩:=Q56 _ _ _ h3;exact Qa6m bB gJ hi dt hz h4 h1 h2 (by simpa using k1) (λj x y e1 e2=>by
     have:=k2 j x y e1 Zaf;exact⟨by simpa using this.1,this.2⟩) hs he hp ho
   ·simp at h5
  ·simp at hm
 |mks sz zero x=>
  simp only[mE]at hm;split at hm
  ·rename_i t x' y' bB
   simp only[Ja,decide_eq_true_eq,beq_iff_eq]at hm;obtain⟨⟨⟨⟨h1,h2⟩,h3⟩,h4⟩,h5⟩:=hm;split at h5
   ·rename_i el hu
    rw[Ja]at h5;obtain⟨i,z,k1,k2,k3,k4,k5,k6⟩:=NZ h5.1;obtain⟨i',z',l1,l2,l3⟩:=Kc h5.2;rw[k1]at l1;simp at l1;subst l1;exact Qa8p bB hu k1 k2 h4 l2 l3 h3 k5 h1 h2 hs he hp ho
   ·simp at h5
  ·simp at hm
 |mkm=>
  simp only[mE]at hm;split at hm
  ·exact Qa8o ‹_› hs ho
  ·simp at hm
 |upd tag x k y=>
  simp only[mE]at hm;split at hm
  ·simp only[Ja]at hm;obtain⟨kt,et,h1,h2⟩:=Q54 hm.2;exact O3 (.inl ‹_›) h1 h2 hm.1.1.1 hm.1.1.2 hm.1.2 hs he hp ho
  ·simp only[Ja]at hm;obtain⟨kt,et,h1,h2⟩:=Q54 hm.2;exact O3 (.inr ‹_›) h1 h2 hm.1.1.1 hm.1.1.2 hm.1.2 hs he hp ho
  ·simp at hm
 |del tag x k=>
  simp only[mE]at hm;split at hm
  ·rename_i x' k' ats bB
   simp only[Ja]at hm;obtain⟨⟨⟨h1,h2⟩,h3⟩,h4⟩:=hm;split at h4
   ·rename_i t ht
    obtain⟨kt,et,k1,k2⟩:=Q54 h4;exact Qa8m bB ht (by simpa using h3) k1 k2 h1 h2 hs he hp ho
   ·simp at h4
  ·simp at hm
 |clrm x=>
  simp[mE]at hm
 |clrs sz zero x=>
  simp only[mE]at hm;split at hm
  ·rename_i x' ats bB
   rw[Ja,Ja,beq_iff_eq]at hm;obtain⟨⟨h1,h3⟩,h2⟩:=hm;split at h2
   ·rename_i t ht
    split at h2
    ·rename_i el hu
     obtain⟨i,z,l1,l2,l3⟩:=Kc h2;exact Qa6o bB ht hu l1 l2 l3 h3 h1 hs he hp ho
    ·simp at h2
   ·simp at h2
  ·simp at hm
 |call f xs=>
  simp only[mE]at hm;split at hm
  ·simp only[Ja,beq_iff_eq]at hm;obtain⟨rfl,h2⟩:=hm;simp only[EOp.eff]at ho;exact Qa6n ‹_› h2 hs he hp ho.1 ho.2
  ·simp at hm
 |fN x xs=>
  simp only[mE]at hm;split at hm
  ·simp only[Ja]at hm;exact Qa3g ‹_› hm.1 hm.2 hs he hp ho
  ·simp at hm
 |rng x=>
  simp only[mE]at hm;split at hm
  ·rename_i t x' bB
   rw[Ja]at hm;obtain⟨h1,h2⟩:=hm;split at h2
   ·exact Qa8r bB ‹_› h1 hs he hp ho
   ·simp at h2
  ·simp at hm
 |rngs x=>
  simp[mE]at hm
 |nxts x=>
  simp[mE]at hm
 |nxt x=>
  simp only[mE]at hm;split at hm
  ·exact Qa8q ‹_› hm hs he hp ho
  ·simp at hm
 |ent x=>
  simp only[mE]at hm;split at hm
  ·exact Qa8n ‹_› hm hs he hp ho
  ·simp at hm
 |cpy sz x y=>
  simp only[mE]at hm;split at hm
  ·rename_i x' y' ats bB
   rw[Ja,Ja]at hm;obtain⟨⟨h1,h3⟩,h2⟩:=hm;split at h2
   ·rename_i t ht
    split at h2
    ·rename_i el hu
     obtain⟨i,l1,l2⟩:=GW h2;exact Qa8l bB ht hu l1 l2 h1 h3 hs he hp ho
    ·simp at h2
   ·simp at h2
  ·simp at hm
 |nilq x=>
  simp only[mE]at hm;split at hm
  ·rename_i t x' t' bB
   rw[Ja]at hm;obtain⟨h1,h2⟩:=hm;split at h2
   ·exact Qa6p bB ‹_› h1 rfl hs he hp ho
   ·simp at h2
  ·simp at hm
def mG (ops:Array Oper):Option (Nat×Bool)->Option (Nat×Bool)->Bool
 |none,none=>true
 |some (j,b),some (t,b')=>(match ops[j]? with
  |some o=>o.dst == some t
  |none=>false)&&b == b'
 |_,_=>false
def mDst (n:Nat)(d d':Option Nat):Bool:=
 d == d'&&(match d with
  |some t=>decide (t<n)
  |none=>true)
def Do (P:Program)(n:Nat)(ops:Array Oper)(o:Oper):Item->Bool
 |.f d g op=>mDst n o.dst d&&mG ops o.guard g&&mF P o op
 |.p d g f xs=>mDst n o.dst d&&mG ops o.guard g&&mE P o (.call f xs)
 |.e d g op=>mDst n o.dst d&&mG ops o.guard g&&mE P o op
 |.chk _ _ _=>false
def mIts (P:Program)(n:Nat)(ops:Array Oper):Nat->List Item->Bool
 |i,[]=>i == ops.size
 |i,x::r=>(match ops[i]? with
  |some o=>Do P n ops o x
  |none=>false)&&mIts P n ops (i+1) r
def Post (n:Nat)(H:Heap)(g:G)(w:World)(K:Env->Heap->Prop)(a:Act)(w':World):Prop:=
 ∃e' H' g',K e' H'/\Stp H g w H' g' w'/\EnvOk w' g' e' a/\a.defers=[]/\a.tmps.size=n
theorem EnvOk.mono {g':G}{w':World}(aS:Le g w g' w')(h:EnvOk w g e a):EnvOk w' g' e a:=λt=>(h t).mono aS
theorem EnvOk.put {n:Nat}{d:Option Nat}{x:V}{v:Value}(h:EnvOk w g e a)(hv:RepV w g x v)(hn:a.tmps.size=n)(hd:∀t,d=some t->t<n):EnvOk w g (Df d x e) (a.put d v):=by
 intro t
 cases d with
 |none=>exact h t
 |some s=>
  have hs:=hd s rfl;simp only[Df,lk,Act.put];by_cases ht:t=s
  ·subst ht;rw[if_pos rfl];have:(a.tmps.setIfInBounds t v).getD t undef=v:=by
    rw[Je,Jaa ZA];rfl
   rw[this];exact hv
  ·rw[if_neg ht];have:(a.tmps.setIfInBounds s v).getD t undef=a.tmps.getD t undef:=by
    rw[Je,Jt (Ne.symm ht),<-Je]
   rw[this];exact h t
theorem DJ (a:Act)(d:Option Nat)(v:Value):(a.put d v).tmps.size=a.tmps.size/\(a.put d v).defers=a.defers:=by
 cases d <;> simp[Act.put]
theorem Iz {n:Nat}{gd:Option (Nat×Bool)}(hm:mG ops o.guard gd=true)(he:EnvOk w g e a)(ho:gdO e gd):Region.wanted o (yielded ops a.tmps)=gdB e gd:=by
 unfold Region.wanted
 cases hg:o.guard with
 |none=>
  cases gd with
  |none=>rfl
  |some x=>rw[hg]at hm;simp[mG]at hm
 |some jb=>
  obtain⟨j,b⟩:=jb
  cases gd with
  |none=>rw[hg]at hm;simp[mG]at hm
  |some tb=>
   obtain⟨t,b'⟩:=tb;rw[hg]at hm;simp only[mG,Ja,beq_iff_eq]at hm;obtain⟨h1,rfl⟩:=hm;split at h1
   ·rename_i oj hoj
    simp at h1;simp only[yielded,hoj,Option.bind_some,h1];have hv:=he t;simp only[gdO]at ho;simp only[gdB];have bC:∀c,a.tmps.getD t undef=.bool c->a.tmps[t]? = some (.bool c):=by
     intro c hc;rw[Je]at hc
     cases hx:a.tmps[t]? with
     |none=>rw[hx]at hc;simp[undef]at hc
     |some y=>rw[hx]at hc;simp at hc;rw[hc]
    have b7:a.tmps.getD t undef=undef->∀c,a.tmps[t]?≠some (.bool c):=by
     intro hu c hc;rw[Je,hc]at hu;simp[undef]at hu
    split at ho
    ·rename_i c gG
     rw[gG]at hv;have:=bC _ hv.aN.bA;simp only[gG];simp[this]
    ·rename_i q c gG
     rw[gG]at hv;simp only[gG]
     cases hv with
     |gd _ _ _ k1 k2=>
      cases q with
      |true=>
       have:=bC _ (k1 rfl).aN.bA;simp[this]
      |false=>
       have:=b7 (k2 rfl);simp only[Bool.false_and]
       cases hx:a.tmps[t]? with
       |none=>simp
       |some y=>cases y <;> simp_all
    ·rename_i q v oM gG
     rw[gG]at hv;subst ho;have e0:gdB e (some (t,b))=false:=by
      simp only[gdB,gG]
      cases v with
      |c x=>cases x <;> simp
      |_=>rfl
     refine Eq.trans ?_ e0.symm
     cases hv with
     |gd _ _ _ k1 k2=>
      have:=b7 (k2 rfl)
      cases hx:a.tmps[t]? with
      |none=>simp
      |some y=>cases y <;> simp_all
    ·exact ho.elim
   ·simp at h1
theorem F5 {n:Nat}{d d':Option Nat}(h:mDst n d d'=true):d=d'/\∀t,d=some t->t<n:=by
 unfold mDst at h;rw[Ja]at h;refine⟨by simpa using h.1,λt ht=>?_⟩;subst ht;simpa using h.2
theorem LL{r:V}(hm:mE P o (.call f xs)=true)(hs:Sat H g w)(he:EnvOk w g e a)(hp:p=true)(hf:∀x∈xs,x.fine p e)(hc:FM P f (xs.map λx=>x.v e) r) :
  EOk P H g w a o (λv H'=>v=r/\H'=H):=
 Q5c (op:=.call f xs) hm hs he hp ⟨hf,hc.2 H _ ⟨rfl,rfl⟩⟩
theorem Ma{x:V}{v:Value}(h:DQ KP K x H)(hr:RepV w g x v):K x H:=by
 cases hr <;> exact h
theorem Qaqj {n:Nat}{i:Nat}{x:Item}{rest:List Item}{K:Env->Heap->Prop}{Q:Exit->Act->World->Prop}{next:Act->World->Prop}(sY:ops[i]? = some o)(hm:Do P n ops o x=true)
  (hs:Sat H g w) (he:EnvOk w g e a) (hn:a.tmps.size=n) (hd:a.defers=[]) (hr:regT P (x::rest) e H KP K)
  (jY:∀v H' g' w',KP v H'->Stp H g w H' g' w'->Q (.panic [{ v:=v,recovered:=false }]) a w')
  (cg:∀e' H' g' a' w',regT P rest e' H' KP K->Stp H g w H' g' w'->EnvOk w' g' e' a'->a'.tmps.size=n->a'.defers=[]->next a' w') :
  (if Region.wanted o (yielded ops a.tmps)then o.wp P a w next Q\/(o.asks P a w/\LetsOut Q)else next (a.put o.dst undef) w):=by
 cases x with
 |f d gd op=>
  simp only[Do,Ja]at hm;obtain⟨⟨h1,h2⟩,h3⟩:=hm;obtain⟨di,fi⟩:=F5 h1;simp only[regT]at hr;obtain⟨r1,r2,r3⟩:=hr;rw[Iz (n:=n) h2 he r1];by_cases hg:gdB e gd=true
  ·rw[if_pos hg];obtain⟨v,w',g',k1,k2,k3,k4⟩:=MM h3 hs he hg (r2 hg);left;unfold Oper.wp;rw[k1,Oper.upon_value,di];refine cg _ _ _ _ _ (r3 λ_=>k4) k2 (((he.mono k2.le).put (n:=n) ?_ hn (di▸fi))) Zal Zam
   cases gd with
   |none=>exact k3
   |some tb=>exact .gd _ _ _ (λ_=>k3) (λh=>by rw[hg]at h;simp at h)
  ·rw[if_neg hg];have nk:gdB e gd=false:=Zak
   rw[di];refine cg _ _ _ _ _ (r3 λh=>absurd h hg) (.refl hs) (he.put (n:=n) ?_ hn (di▸fi)) Zal Zam
   cases gd with
   |none=>simp[gdB]at nk
   |some tb=>exact .gd _ _ _ (λh=>absurd h hg) (λ_=>rfl)
 |p d gd f xs=>
  simp only[Do,Ja]at hm;obtain⟨⟨h1,h2⟩,h3⟩:=hm;obtain⟨di,fi⟩:=F5 h1;simp only[regT]at hr;obtain⟨r1,v0,r2,r3⟩:=hr;rw[Iz (n:=n) h2 he r1];by_cases hg:gdB e gd=true
  ·rw[if_pos hg];obtain⟨s1,s2⟩:=r2 hg;left;refine LL h3 hs he hg s1 s2 Q next (λx v w' H' g' hk aI dA=>?_) λv w' H' g' hk _=>absurd hk.1.symm (s2.1 v);obtain⟨rfl,rfl⟩:=hk;rw[di];refine cg _ _ _ _ _ r3 aI (((he.mono aI.le).put (n:=n) ?_ hn (di▸fi))) Zal Zam
   cases gd with
   |none=>exact dA
   |some tb=>exact .gd _ _ _ (λ_=>dA) (λh=>by rw[hg]at h;simp at h)
  ·rw[if_neg hg];have nk:gdB e gd=false:=Zak
   rw[di];refine cg _ _ _ _ _ r3 (.refl hs) (he.put (n:=n) ?_ hn (di▸fi)) Zal Zam
   cases gd with
   |none=>simp[gdB]at nk
   |some tb=>exact .gd _ _ _ (λh=>absurd h hg) (λ_=>rfl)
 |e d gd op=>
  simp only[Do,Ja]at hm;obtain⟨⟨h1,h2⟩,h3⟩:=hm;obtain⟨di,fi⟩:=F5 h1;simp only[regT]at hr;obtain⟨r1,r2,r3⟩:=hr;rw[Iz (n:=n) h2 he r1];by_cases hg:gdB e gd=true
  ·rw[if_pos hg];left;refine Q5c h3 hs he hg (r2 hg) Q next (λx v w' H' g' hk aI dA=>?_) λv w' H' g' hk aI=>jY v H' g' w' hk aI;rw[di];exact cg _ _ _ _ _ (Ma hk dA) aI (((he.mono aI.le).put (n:=n) dA hn (di▸fi))) Zal Zam
  ·rw[if_neg hg];have nk:gdB e gd=false:=Zak
   rw[di];exact cg _ _ _ _ _ (r3 nk) (.refl hs) (he.put (n:=n) (.unk _) hn (di▸fi)) Zal Zam
 |chk d gd op=>simp[Do]at hm
theorem Q1l {n:Nat}{ops:Array Oper}{KP:Value->Heap->Prop}{K:Env->Heap->Prop}{Q:Exit->Act->World->Prop}{H0:Heap}{g0:G}{w0:World}(hQ:∀a' w',Post n H0 g0 w0 K a' w'->Q .normal a' w')
  (hP:∀v a' w',Post n H0 g0 w0 (λ_ H'=>KP v H') a' w'->Q (.panic [{ v:=v,recovered:=false }]) a' w') :
  ∀(its:List Item) (i:Nat) (e:Env) (H:Heap) (g:G) (w:World) (a:Act),mIts P n ops i its=true->Stp H0 g0 w0 H g w->EnvOk w g e a->a.tmps.size=n->a.defers=[]->regT P its e H KP K->
   wpOps P ops Q (List.range' i its.length) a w
 |[],i,e,H,g,w,a,_,aI,he,hn,hd,hr=>hQ a w ⟨e,H,g,hr,aI,he,hd,hn⟩
 |x::rest,i,e,H,g,w,a,hm,aI,he,hn,hd,hr=>by
  simp only[mIts,Ja]at hm;obtain⟨h1,h2⟩:=hm;split at h1
  ·rename_i o ho
   simp only[J8,List.range'_succ,wpOps,ho];have:=Qaqj (Q:=Q) (next:=wpOps P ops Q (List.range' (i+1) rest.length)) ho h1 aI.sat he hn hd hr (λv H' g' w' k1 k2=>hP v a w' ⟨e,H',g',k1,aI.trans k2,he.mono k2.le,hd,hn⟩) λe' H' g' a' w' k1 k2 k3 k4 k5=>
    Q1l hQ hP rest (i+1) e' H' g' w' a' h2 (aI.trans k2) k3 k4 k5 k1
   simpa using this
  ·simp at h1
theorem Ls {n:Nat}{ops:Array Oper}:∀(its:List Item) (i:Nat),mIts P n ops i its=true->i+its.length=ops.size
 |[],i,h=>by simpa[mIts]using h
 |x::r,i,h=>by
  simp only[mIts,Ja]at h;have:=Ls r (i+1) h.2;simp only[J8];omega
end
def optL:Option Opd->List Opd
 |none=>[]
 |some x=>[x]
def FOp.opds:FOp->List Opd
 |.mv x=>[x]
 |.pick c a b=>[c,a,b]
 |.bin _ _ a b=>[a,b]
 |.not a=>[a]
 |.fad _ a=>[a]
 |.iad _ a i=>[a,i]
 |.ld _ _ a=>[a]
 |.nck a=>[a]
 |.len a=>[a]
 |.lenx a=>[a]
 |.lens a=>[a]
 |.lensx a=>[a]
 |.lenm a=>[a]
 |.sli _ a lo hi=>a::(optL lo++optL hi)
 |.slis a lo hi=>a::(optL lo++optL hi)
 |.ext a _=>[a]
 |.asl _ a=>[a]
 |.aslp _ a hi=>a::optL hi
 |.ldg _ _ _=>[]
 |.ldo _ _=>[]
 |.aslg _ _ _=>[]
 |.iax _ _ a i=>[a,i]
 |.slm _ a hi=>[a,hi]
 |.iaa _ _ a i=>[a,i]
 |.fld _ _ _ a=>[a]
 |.idx a i=>[a,i]
 |.bld _ parts=>parts.map λp=>p.2.2
 |.lz _ parts=>parts
 |.box a=>[a]
 |.cvt _ a=>[a]
 |.mkf _ caps=>caps
 |.lup _ _ m k=>[m,k]
 |.lup2 _ _ m k=>[m,k]
 |.mx a b=>[a,b]
 |.mn a b=>[a,b]
def EOp.opds:EOp->List Opd
 |.alloc _=>[]
 |.boxm a=>[a]
 |.sto _ a v=>[a,v]
 |.app _ a b=>[a,b]
 |.mks _ _ n=>[n]
 |.mkm=>[]
 |.upd _ m k v=>[m,k,v]
 |.del _ m k=>[m,k]
 |.clrm m=>[m]
 |.clrs _ _ m=>[m]
 |.call _ args=>args
 |.fN f args=>f::args
 |.rng m=>[m]
 |.nxt it=>[it]
 |.rngs m=>[m]
 |.nxts it=>[it]
 |.ent it=>[it]
 |.nilq a=>[a]
 |.bslm _ parts=>parts
 |.cpy _ a b=>[a,b]
def FOp.hfree:FOp->Bool
 |.iad _ _ _=>false
 |.ld _ _ _=>false
 |.len _=>false
 |.lenx _=>false
 |.lenm _=>false
 |.sli _ _ _ _=>false
 |.lup _ _ _ _=>false
 |.asl _ _=>false
 |.ldg _ _ _=>false
 |.ldo _ _=>false
 |.aslg _ _ _=>false
 |.lup2 _ _ _ _=>false
 |_=>true
theorem Opd.aU {e:Env}{x:Opd}(h:x.raw e'=x.raw e):x.v e'=x.v e:=by
 simp only[Opd.v,h]
theorem Opd.aE {e:Env}{x:Opd}{p:Bool}(h:x.raw e'=x.raw e):x.fine p e'↔x.fine p e:=by
 simp only[Opd.fine,h]
theorem IW {e:Env}{x:Option Opd}{p:Bool}(h:∀y∈optL x,y.raw e'=y.raw e) :
  (x.map λy=>Ct (y.v e'))=(x.map λy=>Ct (y.v e))/\(optF p x e'↔optF p x e)/\(optI x e'↔optI x e):=by
 cases x with
 |none=>exact⟨rfl,Jbe,Jbe⟩
 |some y=>
  have:=h y (by simp[optL]);simp only[Jq,optF,optI,Opd.aU this,Opd.aE this,and_self]
theorem FOp.congr {op:FOp}{e:Env}{H:Heap}{p:Bool}(h:∀x∈op.opds,x.raw e'=x.raw e) :
  op.val e' H=op.val e H/\(op.obl p e' H↔op.obl p e H):=by
 cases op <;> simp only[FOp.opds,Jat,Jbj,or_false,forall_eq_or_imp,forall_eq,List.mem_append,Jbi,forall_exists_index,and_imp]at h
 case sli sz a lo hi=>
  have h1:=Opd.aU h.1;have h2:=IW (x:=lo) (p:=p) λy hy=>h.2 y (.inl hy);have h3:=IW (x:=hi) (p:=p) λy hy=>h.2 y (.inr hy);simp only[FOp.val,FOp.obl,h1,h2.1,h3.1,h2.2.1,h3.2.1,h2.2.2,h3.2.2,Opd.aE h.1,and_self]
 case ldg n b l=>exact⟨rfl,Jbe⟩
 case ldo b l=>exact⟨rfl,Jbe⟩
 case aslg n b l=>exact⟨rfl,Jbe⟩
 case aslp n a hi=>
  have h1:=Opd.aU h.1;have h3:=IW (x:=hi) (p:=p) λy hy=>h.2 y hy;simp only[FOp.val,FOp.obl,h1,h3.1,h3.2.1,h3.2.2,Opd.aE h.1,and_self]
 case slis a lo hi=>
  have h1:=Opd.aU h.1;have h2:=IW (x:=lo) (p:=p) λy hy=>h.2 y (.inl hy);have h3:=IW (x:=hi) (p:=p) λy hy=>h.2 y (.inr hy);simp only[FOp.val,FOp.obl,h1,h2.1,h3.1,h2.2.1,h3.2.1,h2.2.2,h3.2.2,Opd.aE h.1,and_self]
 case bld zero parts=>
  have h1:∀x∈parts,x.2.2.raw e'=x.2.2.raw e:=λx hx=>h _ x hx rfl;refine⟨?_,?_⟩
  ·simp only[FOp.val];have:(parts.map λp=>(p.1,(p.2.2.v e').cells))=parts.map λp=>(p.1,(p.2.2.v e).cells):=
    J7 λx hx=>by rw[Opd.aU (h1 x hx)]
   rw[this]
  ·simp only[FOp.obl];exact forall_congr' λx=>forall_congr' λhx=>by rw[Opd.aE (h1 x hx),Opd.aU (h1 x hx)]
 case lz sz parts=>
  refine⟨?_,?_⟩
  ·simp only[FOp.val];have:(parts.map λx=>(x.v e').cells)=parts.map λx=>(x.v e).cells:=
    J7 λx hx=>Za0
   rw[this]
  ·simp only[FOp.obl];exact forall_congr' λx=>forall_congr' λhx=>ZaN
 case mkf f caps=>
  refine⟨?_,?_⟩
  ·simp only[FOp.val];have:(caps.map λx=>(x.v e').c1)=caps.map λx=>(x.v e).c1:=
    J7 λx hx=>Za0
   rw[this]
  ·simp only[FOp.obl];exact forall_congr' λx=>forall_congr' λhx=>ZaN
 case pick c a b=>
  simp only[FOp.val,FOp.obl,Opd.aU h.1,Opd.aU h.2.1,Opd.aU h.2.2,Opd.aE h.1,true_and];constructor <;> rintro⟨k1,k2⟩ <;> refine⟨k1,?_⟩ <;> split at k2 <;> first|exact k2.elim|skip
  ·rw[Opd.aE h.2.1,Opd.aE h.2.2]at k2;exact k2
  ·rw[Opd.aE h.2.1,Opd.aE h.2.2];exact k2
 all_goals first
  |(have h1:=Opd.aU h;simp only[FOp.val,FOp.obl,h1,Opd.aE h,and_self])
  |(have h1:=Opd.aU h.1;have h2:=Opd.aU h.2;simp only[FOp.val,FOp.obl,h1,h2,Opd.aE h.1,Opd.aE h.2,and_self])
theorem FOp.hcongr {op:FOp}{e:Env}{H:Heap}{p:Bool}(h:op.hfree=true):op.val e H'=op.val e H/\(op.obl p e H'↔op.obl p e H):=by
 cases op <;> first|(simp[FOp.hfree]at h;done)|exact⟨rfl,Jbe⟩
theorem RB {e:Env}(h:∀x∈xs,x.raw e'=x.raw e):(xs.map λx=>x.v e')=(xs.map λx=>x.v e):=
 J7 λx hx=>Opd.aU (h x hx)
theorem RQ {e:Env}{p:Bool}(h:∀x∈xs,x.raw e'=x.raw e):(∀x∈xs,x.fine p e')↔(∀x∈xs,x.fine p e):=
 forall_congr' λx=>forall_congr' λhx=>Opd.aE (h x hx)
theorem EOp.congr {op:EOp}{e:Env}{H:Heap}{p:Bool}(h:∀x∈op.opds,x.raw e'=x.raw e)(he:op.eff P p e H K):op.eff P p e' H K:=by
 cases op
 case call f xs=>
  simp only[EOp.opds]at h;simp only[EOp.eff]at he⊢;rw[RB h,RQ h];exact he
 case fN f xs=>
  simp only[EOp.opds,Jat,forall_eq_or_imp]at h;simp only[EOp.eff]at he⊢;rw[RB h.2,RQ h.2,Opd.aE h.1,Opd.aU h.1];exact he
 case bslm sz parts=>
  simp only[EOp.opds]at h;simp only[EOp.eff]at he⊢;have:(parts.map λx=>(x.v e').cells)=parts.map λx=>(x.v e).cells:=
   J7 λx hx=>Za0
  rw[this];exact⟨λx hx=>by rw[Opd.aE (h x hx),Opd.aU (h x hx)];exact he.1 x hx,he.2⟩
 all_goals simp only[EOp.opds,Jat,Jbj,or_false,forall_eq_or_imp,forall_eq]at h
 all_goals first
  |exact he
  |(simp only[EOp.eff,Opd.aU h,Opd.aE h]at he⊢;exact he)
  |(simp only[EOp.eff,Opd.aU h.1,Opd.aE h.1,Opd.aU h.2,Opd.aE h.2]at he⊢;exact he)
  |(simp only[EOp.eff,Opd.aU h.1,Opd.aE h.1,Opd.aU h.2.1,Opd.aE h.2.1,Opd.aU h.2.2,Opd.aE h.2.2]at he⊢;exact he)
def Item.dst:Item->Option Nat
 |.f d _ _=>d
 |.p d _ _ _=>d
 |.e d _ _=>d
 |.chk _ _ _=>none
def Item.gd:Item->Option (Nat×Bool)
 |.f _ g _=>g
 |.p _ g _ _=>g
 |.e _ g _=>g
 |.chk _ g _=>g
def Item.opds:Item->List Opd
 |.f _ _ op=>op.opds
 |.p _ _ _ xs=>xs
 |.e _ _ op=>op.opds
 |.chk _ _ op=>op.opds
def Opd.tm:Opd->List Nat
 |.t n=>[n]
 |_=>[]
def Item.looks (x:Item):List Nat:=x.opds.flatMap Opd.tm++(match x.gd with
 |some (t,_)=>[t]
 |none=>[])
theorem Xz {e:Env}{x:Opd}(h:∀t∈x.tm,lk t e'=lk t e):x.raw e'=x.raw e:=by
 cases x with
 |t n=>simpa[Opd.raw,Opd.tm]using h
 |k v=>rfl
theorem MB {e:Env}{x:Item}(h:∀t∈x.looks,lk t e'=lk t e):∀y∈x.opds,y.raw e'=y.raw e:=λy hy=>
 Xz λt ht=>h t (Ja5 _ (List.mem_flatMap.2 ⟨y,hy,ht⟩))
theorem Vj {e:Env}{gd:Option (Nat×Bool)}(h:∀t b,gd=some (t,b)->lk t e'=lk t e):gdB e' gd=gdB e gd/\(gdO e' gd↔gdO e gd):=by
 cases gd with
 |none=>exact⟨rfl,Jbe⟩
 |some x=>
  obtain⟨t,b⟩:=x;have:=h t b rfl;simp only[gdB,gdO,this,and_self]
theorem Lt {e:Env}{x:Item}(h:∀t∈x.looks,lk t e'=lk t e):gdB e' x.gd=gdB e x.gd/\(gdO e' x.gd↔gdO e x.gd):=
 Vj λt b hg=>h t (Ja1 _ (by rw[hg];simp))
theorem Gj (ks:List Nat)(e:Env)(t:Nat):lk t (trim ks e)=if t∈ks then lk t e else .unk:=by
 unfold trim
 induction ks with
 |nil=>simp[lk]
 |cons k ks ih=>
  simp only[Jbp,lk,ih,Jat];by_cases h:t=k
  ·subst h;simp
  ·simp[h]
abbrev Ui (n:Int):C:=.int .i64 n
abbrev Uv (n:Int):V:=.c (.int .i64 n)
abbrev Up (x:Nat):V:=.c (.ptr x 0)
abbrev Ul:=List (Nat×Obj)
abbrev Uk:=V->Heap->Prop
end Go.AE
