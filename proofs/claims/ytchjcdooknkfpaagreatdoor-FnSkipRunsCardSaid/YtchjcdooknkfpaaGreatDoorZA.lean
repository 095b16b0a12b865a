/- Part 1 of the proof: the engine, codes, walks and plain laws, each named where it stands. -/
import Derived.Laws.RangeAny
import Derived.MapKept
import Derived.WalkKit
open Nat (reduceEqDiff reduceAdd reduceLeDiff reduceLT)
set_option linter.unusedVariables false
set_option linter.unusedSimpArgs false
set_option maxRecDepth 4000
open Array renaming getElem?_eq_getElem->Jc,getD_eq_getD_getElem?->Je,getElem?_eq_none->Jm,getElem?_setIfInBounds_ne->Js,getElem?_toList->Ju,getElem?_push->J6,getElem?_modify->J9,getElem?_setIfInBounds_self_of_lt->Jaa,ext'->Jae,getElem?_of_mem->Jaj,getElem?_range->Jak,getElem?_append_left->Jal,append_assoc->Jam,getElem?_map->Jan,size_eq_zero_iff->Jav,mem_of_getElem?->Jaw,toList_zipIdx->Ja5,foldl_toList->Ja7,getElem_mem->Jba,mem_push->Jbl
open Bool renaming and_eq_true->Ja,false_eq_true->Jt,eq_iff_iff->Jbj
open ByteArray renaming ext->Ja8
open ByteArray.mk renaming injEq->Jbp
open Function renaming comp_def->Jbb
open Iff renaming rfl->Jbc
open Int renaming toNat_natCast->Jap,natCast_nonneg->Ja9
open List renaming getElem?_eq_getElem->Jd,getElem?_eq_none->Jf,mem_of_getElem?->Jg,getElem?_append_left->Ji,getElem?_append_right->Jj,getElem?_map->Jn,getElem?_take->Jp,getElem?_drop->Jr,length_eq_zero_iff->Jx,append_assoc->Jz,getD_eq_getElem?_getD->J1,getElem?_of_mem->J2,map_congr_left->J7,length_cons->J8,extract_eq_take_drop->Jab,getElem?_eq_some_iff->Jac,getElem?_range->Jad,length_append->Jaf,getElem?_zip_eq_some->Jao,getElem?_set->Jaq,getElem?_replicate->Jar,mem_cons->Jas,all_eq_true->Jau,append_nil->Jax,getElem?_toArray->Jay,length_nil->Jaz,mem_append_right->Ja0,nodup_cons->Ja1,mem_append_left->Ja3,drop_take->Ja4,ext_getElem?->Jbd,length_range->Jbe,mem_map->Jbg,not_mem_nil->Jbh,mem_range->Jbm,map_cons->Jbn,map_map->Jbo
open Nat renaming lt_or_ge->Jh,add_mul->Jk,mul_le_mul_right->Jl,le_refl->Jw,add_zero->J0,zero_add->J5,eq_zero_or_pos->Jag,one_mul->Jai,add_assoc->Jat,mul_comm->Ja2,mul_le_mul_left->Ja6,mod_lt->Jbf,mod_eq_of_lt->Jbi,mul_add_mod->Jbk
open Option renaming map_some->Jq,getD_some->Jv,getD_none->Jy,isSome_iff_exists->J3,map_none->J4,isSome_none->Jah
open Option.some renaming injEq->Jb
open Prod.mk renaming injEq->Jo
namespace Go.AE
theorem Wa{G g:Prop}(h:g)(e:g->G:=by intro h;refine Q1 (Qa ?_);simp only[go_sem];exact h):G:=e h
theorem Wb{G g:Prop}(h:g)(e:g->G:=by intro h;refine Zb ?_;refine Za ?_;exact h):G:=e h
theorem Wc{G g:Prop}(h:g)(e:g->G:=by intro h;refine Zd ?_;refine Qh (Qe ?_);exact h):G:=e h
theorem Wd{G g:Prop}(h:g)(e:g->G:=by intro h;refine Za ?_;refine Za ?_;exact h):G:=e h
theorem We{G g:Prop}(h:g)(e:g->G:=by intro h;refine Za ?_;refine Zi ?_;exact h):G:=e h
theorem Wf{G g:Prop}(h:g)(e:g->G:=by intro h;refine Za ?_;refine Qa ?_;exact h):G:=e h
theorem Wg{G g:Prop}(h:g)(e:g->G:=by intro h;refine Qh (Qe ?_);refine Za ?_;exact h):G:=e h
theorem Wh{G g:Prop}(h:g)(e:g->G:=by intro h;refine Za ?_;refine Q1 (Qa ?_);exact h):G:=e h
theorem Wi{G g:Prop}(h:g)(e:g->G:=by intro h;refine Qh (Qe ?_);refine Qa ?_;exact h):G:=e h
theorem Wj{G g:Prop}(h:g)(e:g->G:=by intro h;refine Za ?_;refine Wa ?_;exact h):G:=e h
theorem Wk{G g:Prop}(h:g)(e:g->G:=by intro h;refine Zd ?_;refine Zg ?_;exact h):G:=e h
theorem Wl{G g:Prop}(h:g)(e:g->G:=by intro h;refine Zd ?_;refine Qh (Qe (BY ?_));exact h):G:=e h
theorem Wm{G g:Prop}(h:g)(e:g->G:=by intro h;refine Wc ?_;refine Qa ?_;exact h):G:=e h
theorem Wn{G g:Prop}(h:g)(e:g->G:=by intro h;refine Za ?_;refine Zn ?_;exact h):G:=e h
theorem Wo{G g:Prop}(h:g)(e:g->G:=by intro h;refine Wb ?_;refine Zf ?_;exact h):G:=e h
theorem Wp{G g:Prop}(h:g)(e:g->G:=by intro h;refine Qh (Qe ?_);refine BY ?_;exact h):G:=e h
theorem Wq{G g:Prop}(h:g)(e:g->G:=by intro h;refine Qe (Qa ?_);simp only[go_sem];exact h):G:=e h
theorem Wr{G g:Prop}(h:g)(e:g->G:=by intro h;refine Za ?_;refine Ze ?_;exact h):G:=e h
theorem Ws{G g:Prop}(h:g)(e:g->G:=by intro h;refine Wd ?_;refine Q1 (Qa ?_);exact h):G:=e h
theorem Wt{G g:Prop}(h:g)(e:g->G:=by intro h;refine Qh (Qe ?_);refine Qp ?_;exact h):G:=e h
theorem Wu{G a b:Prop}(h:a)(k:b)(e:a->b->G:=by intro h k;exact Qh (Qf rfl h k)):G:=e h k
theorem Wv{G a b:Prop}(h:a)(k:b)(e:a->b->G:=by intro h k;exact Qf rfl h k):G:=e h k
theorem Za{G g:Prop}(h:g)(e:g->G:=by intro h;refine Qa ?_;simp only[go_sem];exact h):G:=e h
theorem Zb{G g:Prop}(h:g)(e:g->G:=by intro h;refine Qu ?_;simp only[go_sem,X.next];exact h):G:=e h
theorem Zc{G g:Prop}(h:g)(e:g->G:=by intro h;refine Qi ?_;(try simp only[go_sem]);exact h):G:=e h
theorem Zd{G g:Prop}(h:g)(e:g->G:=by intro h;refine Qi ?_;simp only[go_sem];exact h):G:=e h
theorem Ze{G g:Prop}(h:g)(e:g->G:=by intro h;refine Ql ?_;simp only[go_sem,Q4,BE,Ja,forall_eq,RS.op];exact h):G:=e h
theorem Zf{G g:Prop}(h:g)(e:g->G:=by intro h;refine Ql ?_;simp only[go_sem,Q4,BE,Jb,forall_eq,RS.op];exact h):G:=e h
theorem Zg{G g:Prop}(h:g)(e:g->G:=by intro h;refine Qp ?_;simp only[go_sem,X.next];exact h):G:=e h
theorem Zh{G g:Prop}(h:g)(e:g->G:=by intro h;refine Qp ?_;simp only[go_sem];exact h):G:=e h
theorem Zi{G g:Prop}(h:g)(e:g->G:=by intro h;refine Ql ?_;simp only[go_sem];exact h):G:=e h
theorem Zj{G g P0:Prop}(p0:P0)(h:g)(e:P0->g->G:=by intro p0 h;refine Qa ?_;simp only[go_sem,p0];exact h):G:=e p0 h
theorem Zk{G g:Prop}(h:g)(e:g->G:=by intro h;refine Ql ?_;simp only[go_sem,Q4,BE,Jc,forall_eq,RS.op];exact h):G:=e h
theorem Zl{G g P0:Prop}(p0:P0)(h:g)(e:P0->g->G:=by intro p0 h;refine Ql ?_;simp only[go_sem,Q4,BE,Jc,forall_eq,RS.op,p0];exact h):G:=e p0 h
theorem Zm{G g P0 P1:Prop}(p0:P0)(p1:P1)(h:g)(e:P0->P1->g->G:=by intro p0 p1 h;refine Qa ?_;simp only[go_sem,p0,p1];exact h):G:=e p0 p1 h
theorem Zn{G g:Prop}(h:g)(e:g->G:=by intro h;refine Ql ?_;simp only[go_sem,X.next];exact h):G:=e h
theorem Zo{G g P0:Prop}(p0:P0)(h:g)(e:P0->g->G:=by intro p0 h;refine Ql ?_;simp only[go_sem,Q4,BE,Ja,forall_eq,RS.op,p0];exact h):G:=e p0 h
theorem Zp{G g P0:Prop}(p0:P0)(h:g)(e:P0->g->G:=by intro p0 h;refine Ql ?_;simp only[go_sem,Q4,BE,Jn,Jy,RS.op,p0];exact h):G:=e p0 h
theorem Zq{G g P0 P1 P2:Prop}(p0:P0)(p1:P1)(p2:P2)(h:g)(e:P0->P1->P2->g->G:=by intro p0 p1 p2 h;refine Qa ?_;simp only[go_sem,p0,p1,p2];exact h):G:=e p0 p1 p2 h
theorem Zr{G g P0 P1:Prop}(p0:P0)(p1:P1)(h:g)(e:P0->P1->g->G:=by intro p0 p1 h;refine Ql ?_;simp only[go_sem,Q4,BE,Ja,forall_eq,RS.op,p0,p1];exact h):G:=e p0 p1 h
theorem Zs{G g:Prop}(h:g)(e:g->G:=by intro h;refine Ql ?_;simp only[go_sem,Q4,BE,Jf,forall_eq,RS.op];exact h):G:=e h
theorem Zt{G g:Prop}(h:g)(e:g->G:=by intro h;refine Ql ?_;simp only[go_sem,X.next,Q4,BE,Jb,forall_eq,RS.op];exact h):G:=e h
theorem Zu{G g P0:Prop}(p0:P0)(h:g)(e:P0->g->G:=by intro p0 h;refine Ql ?_;simp only[go_sem,Q4,BE,Jb,forall_eq,RS.op,p0];exact h):G:=e p0 h
theorem Zv{G g P0 P1:Prop}(p0:P0)(p1:P1)(h:g)(e:P0->P1->g->G:=by intro p0 p1 h;refine Qa ?_;simp only[go_sem,Cv,E6 _ _ af,InsD.cells,p0,p1];exact h):G:=e p0 p1 h
theorem Zw{G g:Prop}(h:g)(e:g->G:=by intro h;refine BM ?_;simp only[go_sem];exact h):G:=e h
theorem Zx{G g:Prop}(h:g)(e:g->G:=by intro h;refine Qa ?_;simp only[go_sem,x.aG];exact h):G:=e h
theorem Zy{G g:Prop}(h:g)(e:g->G:=by intro h;refine Ql ?_;simp only[go_sem,X.next,Q4,BE,Ja,forall_eq,RS.op];exact h):G:=e h
theorem Zz{G g:Prop}(h:g)(e:g->G:=by intro h;refine Qa ?_;simp only[go_sem,InsD.cells];exact h):G:=e h
theorem ZA{G g:Prop}(h:g)(e:g->G:=by intro h;refine Qu ?_;simp only[go_sem,Go.AE.X.next];exact h):G:=e h
theorem ZB{P:Prop}(h:P:=by omega):P:=h
theorem ZC{P:Prop}(h:P:=by simp[lk]):P:=h
theorem ZD{P:Prop}(h:P:=by simp):P:=h
theorem ZE{P:Prop}(h:P:=by simpa using hc):P:=h
theorem ZF{P:Prop}(h:P:=by kernel_rfl):P:=h
theorem ZG{P:Prop}(h:P:=by simp;omega):P:=h
theorem ZH{P:Prop}(h:P:=by simpa using aD):P:=h
theorem ZI{P:Prop}(h:P:=by simp at h):P:=h
theorem ZJ{P:Prop}(h:P:=by simp[lk];rfl):P:=h
theorem ZK{P:Prop}(h:P:=by simp[G.newObj]):P:=h
theorem ZL{P:Prop}(h:P:=by simpa using h):P:=h
theorem ZM{P:Prop}(h:P:=by simpa using kn):P:=h
theorem ZN{P:Prop}(h:P:=by rw[hc a [b,c,d],hc b [c,d],hc c [d]];omega):P:=h
theorem ZO{P:Prop}(h:P:=by decide):P:=h
theorem ZP{P:Prop}(h:P:=by simp only[Jf,Jk,Jn,LIM];omega):P:=h
theorem ZQ{P:Prop}(h:P:=by rw[hc a [b,c,d,e],hc b [c,d,e],hc c [d,e],hc d [e]];omega):P:=h
theorem ZR{P:Prop}(h:P:=by rw[am];omega):P:=h
theorem ZS{P:Prop}(h:P:=by rw[Qc];omega):P:=h
theorem ZT{P:Prop}(h:P:=by simpa using bA):P:=h
theorem ZU{P:Prop}(h:P:=by simp only[LIM];omega):P:=h
theorem ZV{P:Prop}(h:P:=by simpa using hj):P:=h
theorem ZW{P:Prop}(h:P:=by simp only[FOp.val,hv];exact .c _ _ (.int _ _)):P:=h
theorem ZX{P:Prop}(h:P:=by rw[hc a [b,c],hc b [c]];omega):P:=h
theorem ZY{P:Prop}(h:P:=by rw[hI.split];simp[hz]):P:=h
theorem ZZ{P:Prop}(h:P:=by simpa using h1):P:=h
theorem Zaa{P:Prop}(h:P:=by simpa using hb):P:=h
theorem Zab{P:Prop}(h:P:=by rw[h2];simp):P:=h
theorem Zac{P:Prop}(h:P:=by simp only[World.shape?];rw[show w.heap.size=w.drew.heap.size from rfl,DR]):P:=h
theorem Zad{P:Prop}(h:P:=by simpa using e2):P:=h
theorem Zae{P:Prop}(h:P:=by simpa using h2):P:=h
theorem Zaf{P:Prop}(h:P:=by simpa using hi):P:=h
theorem Zag{P:Prop}(h:P:=by simp at hc;simp[Cq,hc]):P:=h
theorem Zah{P:Prop}(h:P:=by simpa using hr):P:=h
theorem Zai{P:Prop}(h:P:=by simp[Ja,af]):P:=h
theorem Zaj{P:Prop}(h:P:=by simpa using hl):P:=h
theorem Zak{P:Prop}(h:P:=by simpa using hg):P:=h
theorem Zal{P:Prop}(h:P:=by rw[(Dg _ _ _).1,hn]):P:=h
theorem Zam{P:Prop}(h:P:=by rw[(Dg _ _ _).2,hd]):P:=h
theorem Zan{P:Prop}(h:P:=by rw[Q3];omega):P:=h
theorem Zao{P:Prop}(h:P:=by simp only[Qc,LIM,Jn,Jo];omega):P:=h
theorem Zap{P:Prop}(h:P:=by simp only[Jb,LIM,Jo,Jj];omega):P:=h
theorem Zaq{P:Prop}(h:P:=by simp[Qb]):P:=h
theorem Zar{P:Prop}(h:P:=by simp only[EOp.eff,CV]):P:=h
theorem Zas{P:Prop}(h:P:=by rw[<-hx];simp[Jc,cC,OIns.row,OInts.c]):P:=h
theorem Zat{P:Prop}(h:P:=by simp[lk];exact of_decide_eq_true hc):P:=h
theorem Zau{P:Prop}(h:P:=by simp[G.handOver]):P:=h
theorem Zav{P:Prop}(h:P:=by rw[ho];rfl):P:=h
theorem Zaw{P:Prop}(h:P:=by rw[hH];simp):P:=h
theorem Zax{P:Prop}(h:P:=by rw[stI];simp[h]):P:=h
theorem Zay{P:Prop}(h:P:=by simp[getObj,Sem.run,r3]):P:=h
theorem Zaz{P:Prop}(h:P:=by rw[hI.lsz];exact (Jm.1 ho.op).1):P:=h
theorem ZaA{P:Prop}(h:P:=by simp only[Qc,LIM,Jk,Jn];omega):P:=h
theorem ZaB{P:Prop}(h:P:=by simp only[Q8,LIM,Jk,Jl];omega):P:=h
theorem ZaC{P:Prop}(h:P:=by rw[Jd];simpa using cC):P:=h
theorem ZaD{P:Prop}(h:P:=by rw[ip.1];exact FrzKL.st (.cons fM rp .nil)):P:=h
theorem ZaE{P:Prop}(h:P:=by rw[skG,hF];simp[hv]):P:=h
theorem ZaF{P:Prop}(h:P:=by simp[k1]):P:=h
theorem ZaG{P:Prop}(h:P:=by simpa using ha):P:=h
theorem ZaH{P:Prop}(h:P:=by simp[hp]):P:=h
theorem ZaI{P:Prop}(h:P:=by rw[ho];exact OBlk.inM (Jh _ (o.aM af))):P:=h
theorem ZaJ{P:Prop}(h:P:=by rw[hF.injDst (fu _ dx) jr fg bS dc h]):P:=h
theorem ZaK{P:Prop}(h:P:=by simp only[Ju,decide_eq_true_eq];omega):P:=h
theorem ZaL{P:Prop}(h:P:=by subst h;exact oi (hs.none_of_io dm)):P:=h
theorem ZaM{P:Prop}(h:P:=by rw[Opd.aE (h x hx),Opd.aU (h x hx)]):P:=h
theorem ZaN{P:Prop}(h:P:=by simp[OIns.lg,OInts.lg]):P:=h
theorem ZaO{P:Prop}(h:P:=by rw[s.c];exact bN):P:=h
theorem ZaP{P:Prop}(h:P:=by rw[kn.chg 0 bd (by simp)];exact dM):P:=h
theorem ZaQ{P:Prop}(h:P:=by simp[hn]):P:=h
theorem ZaR{P:Prop}(h:P:=by rw[hI.size];exact Tt ho.item t ht):P:=h
theorem ZaS{P:Prop}(h:P:=by rw[<-hp]at sG⊢;exact Mu hs.J ba sG):P:=h
theorem ZaT{P:Prop}(h:P:=by simp only[Q5,Qc,LIM,Jn,Jo];omega):P:=h
theorem ZaU{P:Prop}(h:P:=by rw[Je,hI.n]):P:=h
theorem ZaV{P:Prop}(h:P:=by simpa using e1):P:=h
theorem ZaW{P:Prop}(h:P:=by simpa using hz):P:=h
theorem ZaX{P:Prop}(h:P:=by simpa using hx):P:=h
theorem ZaY{P:Prop}(h:P:=by simpa using bH):P:=h
theorem ZaZ{P:Prop}(h:P:=by simpa using hk):P:=h
theorem Za0{P:Prop}(h:P:=by simpa using hv):P:=h
theorem Za1{P:Prop}(h:P:=by rw[Opd.aU (h x hx)]):P:=h
theorem Za2{P:Prop}(h:P:=by rw[<-hx];exact Jb cC):P:=h
theorem Za3{P:Prop}(h:P:=by simp[hl]):P:=h
theorem Za4{P:Prop}(h:P:=by simp[hz]):P:=h
theorem Za5{P:Prop}(h:P:=by rw[hI.split];simp):P:=h
theorem Za6{P:Prop}(h:P:=by rw[<-h.n];exact hr):P:=h
theorem Za7{P:Prop}(h:P:=by rw[Jk];omega):P:=h
theorem Za8{P:Prop}(h:P:=by rw[x.aG];rfl):P:=h
theorem Za9{P:Prop}(h:P:=by rw[<-hX];simp):P:=h
theorem Zba{P:Prop}(h:P:=by simp[BV,h.c]):P:=h
theorem Zbb{P:Prop}(h:P:=by simp only[Dw,hM]):P:=h
theorem Zbc{P:Prop}(h:P:=by simp only[Cl,hM]):P:=h
theorem Zbd{P:Prop}(h:P:=by rw[h.n];exact h2):P:=h
theorem Zbe{P:Prop}(h:P:=by rw[<-e1];exact hx):P:=h
theorem Zbf{P:Prop}(h:P:=by simp[Jc,br]):P:=h
theorem Zbg{P:Prop}(h:P:=by rw[hz];simp):P:=h
theorem Zbh{P:Prop}(h:P:=by rw[<-gI];rfl):P:=h
theorem Zbi{P:Prop}(h:P:=by rw[<-hd];rfl):P:=h
theorem Zbj{P:Prop}(h:P:=by simp[hx]):P:=h
theorem Zbk{P:Prop}(h:P:=by simp[h1]):P:=h
theorem Zbl{P:Prop}(h:P:=by simp[Qm]):P:=h
theorem Zbm{P:Prop}(h:P:=by simp[Dj]):P:=h
theorem Zbn{P:Prop}(h:P:=by rw[h1];rfl):P:=h
theorem Zbo{P:Prop}(h:P:=by simp at hc):P:=h
theorem Zbp{P:Prop}(h:P:=by rw[hH];rfl):P:=h
theorem Zbq{P:Prop}(h:P:=by simp[ih.1]):P:=h
theorem Zbr{P:Prop}(h:P:=by simp[h]):P:=h
end Go.AE
namespace Go.AE
def LIM:Nat:=549755813888
inductive C where
 |int (k:IntKind) (n:Int)
 |bool (b:Bool)
 |str (s:List UInt8)
 |sl (full:Bool) (sz:Nat) (rows:List (List C))
 |pp (cells:List C)
 |ep (s:C) (sz i k:Nat)
 |pnil
 |ptr (l k:Nat)
 |ah (l sz st n:Nat)
 |mp (l:Nat)
 |mnil
 |slb (n:Nat)
 |stb (n:Nat)
 |cm (agg:Bool) (ks:List C) (rows:List (List C))
 |fn (f:Nat) (caps:List C)
 |fnil
 |itr (l:Nat)
 |ow (sz:Nat) (rows:List (List C))
 |unk
 deriving Inhabited
inductive V where
 |c (x:C)
 |ag (cs:List C)
 |tup (vs:List V)
 |gd (p:Bool) (v:V)
 |unk
 |pn (v:Value)
 |asl (l k n:Nat)
 deriving Inhabited
inductive Obj where
 |none
 |st (cells:List C)
 |vec (sz:Nat) (rows:List (List C))
 |map (ver:Nat) (es:List (C×V))
 |iter (m:Option (Nat×Nat)) (left:List (C×V)) (cur:Option (C×V))
 |gl (b:Nat) (cells:List C)
 |sit (s:List UInt8) (q:Nat)
abbrev Heap:=Nat->Obj
def Heap.set (H:Heap)(l:Nat)(o:Obj):Heap:=λx=>if x=l then o else H x
theorem Heap.aF (H:Heap)(l:Nat)(o:Obj):H.set l o l=o:=by simp[Heap.set]
theorem Heap.aj (H:Heap){l x:Nat}(o:Obj)(h:x≠l):H.set l o x=H x:=by simp[Heap.set,h]
theorem Heap.set_self (H:Heap)(l:Nat)(o:Obj)(h:H l=o):H.set l o=H:=by
 funext x;simp only[Heap.set];split
 ·subst_vars;rfl
 ·rfl
structure G where
 per:Nat->Bool
 own:Nat->Option (Nat×List Nat)
 io:Nat->Option (Nat×Nat×Nat)
def C.aP:C->Nat
 |.sl _ sz _=>sz
 |.ah _ sz _ _=>sz
 |_=>0
inductive RepC (w:World)(g:G):C->Value->Prop
 |int (k n):RepC w g (.int k n) (.int k n)
 |bool (b):RepC w g (.bool b) (.bool b)
 |str (s:List UInt8) (h:s.length<=LIM):RepC w g (.str s) (.string ⟨s.toArray⟩)
 |bV (fl sz a):RepC w g (.sl fl sz []) (.slice a 0 0)
 |sl (fl:Bool) (sz:Nat) (rows:List (List C)) (b off cap:Nat) (val:Nat->Nat->Value) (hl:rows.length<=LIM) (hf:fl=true->cap=rows.length) (fm:rows.length<=cap)
   (hp:g.per b=true) (hr:∀(i:Nat) (row:List C),rows[i]? = some row->row.length=sz)
   (hc:∀(i:Nat) (row:List C) (j:Nat) (c:C),rows[i]? = some row->row[j]? = some c->w.cell? ⟨b,off+i * sz+j,none⟩=some (val i j))
   (hv:∀(i:Nat) (row:List C) (j:Nat) (c:C),rows[i]? = some row->row[j]? = some c->RepC w g c (val i j)) :
   RepC w g (.sl fl sz rows) (.slice (some ⟨b,off,none⟩) rows.length cap)
 |pp (cells:List C) (b off:Nat) (val:Nat->Value) (hp:g.per b=true)
   (hc:∀(j:Nat) (c:C),cells[j]? = some c->w.cell? ⟨b,off+j,none⟩=some (val j))
   (hv:∀(j:Nat) (c:C),cells[j]? = some c->RepC w g c (val j)) :
   RepC w g (.pp cells) (.pointer (some ⟨b,off,none⟩))
 |ep (s sz i k b off n cap) (hs:RepC w g s (.slice (some ⟨b,off,none⟩) n cap)) (hz:s.aP=sz) (hi:i<n) :
   RepC w g (.ep s sz i k) (.pointer (some ⟨b,off+i * sz+k,none⟩))
 |pnil:RepC w g .pnil (.pointer none)
 |ptr (l k b sz base) (h:g.io l=some (b,sz,base)):RepC w g (.ptr l k) (.pointer (some ⟨b,base+k,none⟩))
 |bK (l sz st a):RepC w g (.ah l sz st 0) (.slice a 0 0)
 |ah (l sz st n cap b base T m) (h:g.io l=some (b,sz,base)) (hn:n<=cap) (hs:w.shape? b=some (T,m))
   (hm:base+(st+cap) * sz<=m) :
   RepC w g (.ah l sz st n) (.slice (some ⟨b,base+st * sz,none⟩) n cap)
 |mp (l b) (h:g.io l=some (b,0,0)):RepC w g (.mp l) (.map (some b))
 |mnil:RepC w g .mnil (.map none)
 |slb (n a cap) (h:n<2 ^ 63):RepC w g (.slb n) (.slice a n cap)
 |stb (s:ByteArray) (h:s.size<2 ^ 63):RepC w g (.stb s.size) (.string s)
 |cm (agg:Bool) (ks:List C) (rows:List (List C)) (b:Nat) (ms:Array MapEntry) (clock:Nat) (val:Nat->Nat->Value) (hp:g.per b=true) (hb:w.heap[b]? = some (.map ms clock))
   (bp:ms.size=ks.length) (cA:rows.length=ks.length) (hl:ks.length<=LIM)
   (hd:∀(i j:Nat) (m m':MapEntry),ms[i]? = some m->ms[j]? = some m'->(m.born=m'.born\/m.key=m'.key)->i=j)
   (hm:∀(i:Nat) (row:List C) (m:MapEntry),rows[i]? = some row->ms[i]? = some m->m.val=(if agg then .agg ((List.range row.length).map (val i)).toArray else val i 0)/\(agg=false->row.length=1))
   (hk:∀(i:Nat) (k:C) (m:MapEntry),ks[i]? = some k->ms[i]? = some m->RepC w g k m.key)
   (hv:∀(i:Nat) (row:List C) (j:Nat) (c:C),rows[i]? = some row->row[j]? = some c->RepC w g c (val i j)) :
   RepC w g (.cm agg ks rows) (.map (some b))
 |fn (f:Nat) (caps:List C) (vs:List Value) (hl:vs.length=caps.length)
   (hv:∀(j:Nat) (c:C) (u:Value),caps[j]? = some c->vs[j]? = some u->RepC w g c u) :
   RepC w g (.fn f caps) (.func (.func f) #[] vs.toArray)
 |fnil:RepC w g .fnil .nilFunc
 |itr (l b) (h:g.io l=some (b,0,0)):RepC w g (.itr l) (.pointer (some ⟨b,0,none⟩))
 |unk (v) (h:v.oneCell'=true):RepC w g .unk v
inductive RepV (w:World)(g:G):V->Value->Prop
 |c (x v) (h:RepC w g x v):RepV w g (.c x) v
 |ag (cs:List C) (vs:List Value) (hl:vs.length=cs.length) (h:∀(j:Nat) (c:C) (u:Value),cs[j]? = some c->vs[j]? = some u->RepC w g c u) :
   RepV w g (.ag cs) (.agg vs.toArray)
 |tup (xs:List V) (vs:List Value) (hl:vs.length=xs.length) (h:∀(j:Nat) (x:V) (u:Value),xs[j]? = some x->vs[j]? = some u->RepV w g x u) :
   RepV w g (.tup xs) (.tuple vs.toArray)
 |gd (p:Bool) (x v) (h:p=true->RepV w g x v) (h':p=false->v=undef):RepV w g (.gd p x) v
 |unk (v):RepV w g .unk v
 |asl (l k n b sz) (h:g.io l=some (b,sz,0)):RepV w g (.asl l k n) (.slice (some ⟨b,k,none⟩) n n)
inductive RepO (w:World)(g:G):Nat->List Nat->C->Value->Prop
 |plain (l p c v) (h:RepC w g c v):RepO w g l p c v
 |ownil (l p sz a):RepO w g l p (.ow sz []) (.slice a 0 0)
 |ow (l:Nat) (p:List Nat) (sz:Nat) (rows:List (List C)) (b off cap:Nat) (T:TypeId) (cs:Array Value) (val:Nat->Nat->Value) (hl:rows.length<=LIM) (fm:rows.length<=cap)
   (jD:g.own b=some (l,p)) (hb:w.heap[b]? = some (.cells cs T (0,0))) (bp:off+cap * sz<=cs.size)
   (hr:∀(i:Nat) (row:List C),rows[i]? = some row->row.length=sz)
   (hc:∀(i:Nat) (row:List C) (j:Nat) (c:C),rows[i]? = some row->row[j]? = some c->cs[off+i * sz+j]? = some (val i j))
   (hv:∀(i:Nat) (row:List C) (j:Nat) (c:C),rows[i]? = some row->row[j]? = some c->RepO w g l (p++[i,j]) c (val i j)) :
   RepO w g l p (.ow sz rows) (.slice (some ⟨b,off,none⟩) rows.length cap)
structure Le (g:G)(w:World)(g':G)(w':World):Prop where
 per:∀b,g.per b=true->g'.per b=true/\w'.heap[b]? = w.heap[b]?
 io:∀l x,g.io l=some x->g'.io l=some x
 size:w.heap.size<=w'.heap.size
 shp:∀b T n,w.shape? b=some (T,n)->w'.shape? b=some (T,n)
 tape:w'.tape=w.tape
 os:w'.os=w.os
 output:w'.output=w.output
theorem Le.refl (g:G)(w:World):Le g w g w:=⟨λ_ h=>⟨h,rfl⟩,λ_ _ h=>h,Jw _,λ_ _ _ h=>h,rfl,rfl,rfl⟩
theorem Le.trans {g g' g'':G}{w w' w'':World}(h:Le g w g' w')(k:Le g' w' g'' w''):Le g w g'' w'':=
 ⟨λb hb=>⟨(k.per b (h.per b hb).1).1,((k.per b (h.per b hb).1).2).trans (h.per b hb).2⟩,λl x hx=>k.io l x (h.io l x hx),
  Nat.le_trans h.size k.size,λb T n hn=>k.shp b T n (h.shp b T n hn),k.tape.trans h.tape,k.os.trans h.os,k.output.trans h.output⟩
theorem Vg {w w':World}{a:Addr}(h:w'.heap[a.block]? = w.heap[a.block]?):w'.cell? a=w.cell? a:=by
 simp only[World.cell?,h]
theorem RepC.mono {g g':G}{w w':World}(aS:Le g w g' w'){c:C}{v:Value}(h:RepC w g c v):RepC w' g' c v:=by
 induction h with
 |int k n=>exact .int k n
 |bool b=>exact .bool b
 |str s h=>exact .str s h
 |bV fl sz a=>exact .bV fl sz a
 |sl fl sz rows b off cap val hl hf fm hp hr hc hv ih=>
  refine .sl fl sz rows b off cap val hl hf fm (aS.per b hp).1 hr (λi row j c h1 h2=>?_) ih;rw[Vg (w:=w) (aS.per b hp).2];exact hc i row j c h1 h2
 |pp cells b off val hp hc hv ih=>
  refine .pp cells b off val (aS.per b hp).1 (λj c h1=>?_) ih;rw[Vg (w:=w) (aS.per b hp).2];exact hc j c h1
 |ep s sz i k b off n cap hs hz hi ih=>exact .ep s sz i k b off n cap ih hz hi
 |pnil=>exact .pnil
 |ptr l k b sz base h=>exact .ptr l k b sz base (aS.io _ _ h)
 |bK l sz st a=>exact .bK l sz st a
 |ah l sz st n cap b base T m h hn hs hm=>exact .ah l sz st n cap b base T m (aS.io _ _ h) hn (aS.shp _ _ _ hs) hm
 |mp l b h=>exact .mp l b (aS.io _ _ h)
 |mnil=>exact .mnil
 |slb n a cap h=>exact .slb n a cap h
 |stb s h=>exact .stb s h
 |cm agg ks rows b ms clock val hp hb bp cA hl hd hm hk hv ihk ihv=>exact .cm agg ks rows b ms clock val (aS.per b hp).1 ((aS.per b hp).2.trans hb) bp cA hl hd hm ihk ihv
 |fn f caps vs hl hv ih=>exact .fn f caps vs hl ih
 |fnil=>exact .fnil
 |itr l b h=>exact .itr l b (aS.io _ _ h)
 |unk v h=>exact .unk v h
theorem RepV.mono {g g':G}{w w':World}(aS:Le g w g' w'){x:V}{v:Value}(h:RepV w g x v):RepV w' g' x v:=by
 induction h with
 |c x v h=>exact .c x v (h.mono aS)
 |ag cs vs hl h=>exact .ag cs vs hl λj c u h1 h2=>(h j c u h1 h2).mono aS
 |tup xs vs hl h ih=>exact .tup xs vs hl ih
 |gd p x v h h' ih=>exact .gd p x v ih h'
 |asl l k n b sz h=>exact .asl l k n b sz (aS.io _ _ h)
 |unk v=>exact .unk v
theorem RepC.one {w:World}{g:G}{c:C}{v:Value}(h:RepC w g c v):v.oneCell'=true:=by
 cases h <;> first|rfl|assumption
theorem RepO.move {g g':G}{w w':World}(aS:Le g w g' w'){l:Nat}{p:List Nat}{c:C}{v:Value}(h:RepO w g l p c v) :
  ∀{l':Nat} {p':List Nat},(∀q b,g.own b=some (l,p++q)->g'.own b=some (l',p'++q)/\w'.heap[b]? = w.heap[b]?)->
  RepO w' g' l' p' c v:=by
 induction h with
 |plain p c v h=>exact λ_=>.plain _ _ c v (h.mono aS)
 |ownil p sz a=>exact λ_=>.ownil _ _ sz a
 |ow p sz rows b off cap T cs val hl fm jD hb bp hr hc hv ih=>
  intro l' p' hk;have h0:=hk [] b (by simpa using jD);refine .ow l' p' sz rows b off cap T cs val hl fm (by simpa using h0.1) (h0.2.trans hb) bp hr hc λi row j c h1 h2=>?_;refine ih i row j c h1 h2 λq b hq=>?_;have:=hk ([i,j]++q) b (by rw[<-Jz];exact hq);rw[Jz];exact this
theorem RepO.plain_of {w:World}{g:G}{l:Nat}{p:List Nat}{c:C}{v:Value}(h:RepO w g l p c v)(hn:∀sz rows,c≠.ow sz rows):RepC w g c v:=by
 cases h with
 |plain _ _ _ h=>exact h
 |ownil=>exact absurd rfl (hn _ _)
 |ow=>exact absurd rfl (hn _ _)
def RepE (w:World)(g:G)(e:C×V)(m:MapEntry):Prop:=RepC w g e.1 m.key/\RepV w g e.2 m.val
def SatVec (g:G)(w:World)(l sz:Nat)(rows:List (List C)):Prop:=
 ∃(b base:Nat) (T:TypeId) (cs:Array Value) (val:Nat->Nat->Value),g.io l=some (b,sz,base)/\g.own b=some (l,[])/\
   w.heap[b]? = some (.cells cs T (0,0))/\base+rows.length * sz<=cs.size/\rows.length<=LIM/\
   (∀(i:Nat) (row:List C),rows[i]? = some row->row.length=sz)/\
   (∀(i:Nat) (row:List C) (j:Nat) (c:C),rows[i]? = some row->row[j]? = some c->cs[base+i * sz+j]? = some (val i j))/\
   ∀(i:Nat) (row:List C) (j:Nat) (c:C),rows[i]? = some row->row[j]? = some c->RepO w g l [i,j] c (val i j)
theorem SatVec.of {g:G}{w:World}{l sz:Nat}{rows:List (List C)}{b base:Nat}(h:(rows=[]/\∃x,g.io l=some x/\x.2.1≠sz)\/SatVec g w l sz rows)(bP:g.io l=some (b,sz,base)):SatVec g w l sz rows:=by
 rcases h with ⟨_,x,h1,h2⟩|h
 ·rw[bP]at h1;simp at h1;subst h1;exact absurd rfl h2
 ·exact h
def SatObj (H:Heap)(g:G)(w:World)(l:Nat):Obj->Prop
 |.none=>True
 |.st cells=>∃(b sz:Nat) (T:TypeId) (cs:Array Value),g.io l=some (b,sz,0)/\g.own b=some (l,[])/\w.heap[b]? = some (.cells cs T (0,0))/\
   cs.size=cells.length/\∀(k:Nat) (c:C) (v:Value),cells[k]? = some c->cs[k]? = some v->RepO w g l [k] c v
 |.vec sz rows=>(rows=[]/\∃x,g.io l=some x/\x.2.1≠sz)\/SatVec g w l sz rows
 |.map _ es=>∃(b:Nat) (ms:Array MapEntry) (clock:Nat),g.io l=some (b,0,0)/\g.own b=some (l,[])/\w.heap[b]? = some (.map ms clock)/\
   ms.size=es.length/\es.length<=LIM/\(∀(i:Nat) (e:C×V) (m:MapEntry),es[i]? = some e->ms[i]? = some m->RepE w g e m)/\
   (∀(i:Nat) (m:MapEntry),ms[i]? = some m->m.born<clock)/\(∀(i j:Nat) (m m':MapEntry),ms[i]? = some m->ms[j]? = some m'->(m.born=m'.born\/m.key=m'.key)->i=j)
 |.iter none left cur=>∃(b since:Nat) (seen:Array Nat) (last:Nat),g.io l=some (b,0,0)/\g.own b=some (l,[])/\
   w.heap[b]? = some (.mapIter none since seen last)/\left=[]
 |.iter (some (m,ver)) left cur=>∃(b mb since:Nat) (seen:Array Nat),g.io l=some (b,0,0)/\g.own b=some (l,[])/\
   w.heap[b]? = some (.mapIter (some mb) since seen since)/\g.io m=some (mb,0,0)/\
   ∀v es,H m=.map v es->ver<=v/\(v=ver->∃(ms:Array MapEntry),w.heap[mb]? = some (.map ms since)/\ms.size=es.length/\
    es.Nodup/\left.Nodup/\(∀e,e∈left↔∃i:Nat,∃m:MapEntry,es[i]? = some e/\ms[i]? = some m/\m.born∉seen)/\
    (∀e,cur=some e->∃i:Nat,∃m:MapEntry,es[i]? = some e/\ms[i]? = some m/\seen.back? = some m.born))
 |.sit s q=>∃b:Nat,g.io l=some (b,0,0)/\g.own b=some (l,[])/\w.heap[b]? = some (.stringIter ⟨s.toArray⟩ q)/\s.length<=LIM
 |.gl b cells=>∃(sz:Nat) (val:Nat->Value),g.io l=some (b,sz,0)/\g.per b=true/\(∀(j:Nat) (c:C),cells[j]? = some c->w.cell? ⟨b,j,none⟩=some (val j))/\
   ∀(j:Nat) (c:C),cells[j]? = some c->RepC w g c (val j)
structure Sat (H:Heap)(g:G)(w:World):Prop where
 fresh:∀b,w.heap.size<=b->g.per b=false/\g.own b=none
 names:∃N,∀l,N<=l->g.io l=none
 excl:∀b x,g.own b=some x->g.per b=false
 named:∀b l p,g.own b=some (l,p)->g.io l≠none
 objs:∀l,SatObj H g w l (H l)
def Fr (H:Heap)(g:G)(w:World)(H':Heap)(g':G)(w':World):Prop:=
 ∀l,g.io l≠none->H l=.none->H' l=.none/\∀b p,g.own b=some (l,p)->g'.own b=some (l,p)/\w'.heap[b]? = w.heap[b]?
theorem Fr.refl (H:Heap)(g:G)(w:World):Fr H g w H g w:=λ_ _ h=>⟨h,λ_ _ h=>⟨h,rfl⟩⟩
theorem Fr.trans {H H' H'':Heap}{g g' g'':G}{w w' w'':World}(aS:Le g w g' w')(h:Fr H g w H' g' w')(k:Fr H' g' w' H'' g'' w''):Fr H g w H'' g'' w'':=by
 intro l hl hn;obtain⟨h1,h2⟩:=h l hl hn;have dm:g'.io l≠none:=by
  cases hx:g.io l with
  |none=>exact absurd hx hl
  |some x=>rw[aS.io l x hx];simp
 obtain⟨k1,k2⟩:=k l dm h1;refine⟨k1,λb p hb=>?_⟩;obtain⟨a1,a2⟩:=h2 b p hb;obtain⟨b1,b2⟩:=k2 b p a1;exact⟨b1,b2.trans a2⟩
structure Stp (H:Heap)(g:G)(w:World)(H':Heap)(g':G)(w':World):Prop where
 le:Le g w g' w'
 fr:Fr H g w H' g' w'
 sat:Sat H' g' w'
theorem Stp.refl {H:Heap}{g:G}{w:World}(h:Sat H g w):Stp H g w H g w:=⟨.refl _ _,.refl _ _ _,h⟩
theorem Stp.trans {H H' H'':Heap}{g g' g'':G}{w w' w'':World}(h:Stp H g w H' g' w')(k:Stp H' g' w' H'' g'' w''):Stp H g w H'' g'' w'':=
 ⟨h.le.trans k.le,h.fr.trans h.le k.fr,k.sat⟩
theorem Sat.io_some {H:Heap}{g:G}{w:World}(h:Sat H g w){l:Nat}(hl:H l≠.none):g.io l≠none:=by
 have:=h.objs l
 cases ho:H l with
 |none=>exact absurd ho hl
 |st cells=>rw[ho]at this;obtain⟨b,sz,T,cs,h1,_⟩:=this;rw[h1];simp
 |vec sz rows=>
  rw[ho]at this;rcases this with ⟨_,x,h1,_⟩|⟨b,sz,T,cs,v,h1,_⟩
  ·rw[h1];simp
  ·rw[h1];simp
 |map v es=>rw[ho]at this;obtain⟨b,ms,clock,h1,_⟩:=this;rw[h1];simp
 |gl b cells=>rw[ho]at this;obtain⟨sz,val,h1,_⟩:=this;rw[h1];simp
 |sit s q=>rw[ho]at this;obtain⟨b,h1,_⟩:=this;rw[h1];simp
 |iter m left cur=>
  rw[ho]at this
  cases m with
  |none=>obtain⟨b,s,se,la,h1,_⟩:=this;rw[h1];simp
  |some m=>obtain⟨m,v⟩:=m;obtain⟨b,mb,s,se,h1,_⟩:=this;rw[h1];simp
theorem Sat.none_of_io {H:Heap}{g:G}{w:World}(h:Sat H g w){l:Nat}(hl:g.io l=none):H l=.none:=by
 cases ho:H l with
 |none=>rfl
 |_=>exact absurd hl (h.io_some (by rw[ho];simp))
abbrev Env:=List (Nat×V)
def lk (t:Nat):Env->V
 |[]=>.unk
 |(s,v)::e=>if t=s then v else lk t e
inductive Opd where
 |t (n:Nat)
 |k (v:V)
 deriving Inhabited
def V.bare:V->V
 |.gd _ v=>v
 |v=>v
def V.fine (p:Bool):V->Prop
 |.gd q _=>p=true->q=true
 |_=>True
def Opd.raw (e:Env):Opd->V
 |.t n=>lk n e
 |.k v=>v
def Opd.v (e:Env)(o:Opd):V:=(o.raw e).bare
def Opd.fine (p:Bool)(e:Env)(o:Opd):Prop:=(o.raw e).fine p
def C.ai:C->Bool
 |.ow _ _=>true
 |_=>false
def rowsOf (H:Heap):C->List (List C)
 |.sl _ _ rows=>rows
 |.ah l _ st n=>match H l with
  |.vec _ rows=>(rows.drop st).take n
  |_=>[]
 |_=>[]
def aZ (H:Heap):C->Prop
 |.sl _ _ _=>True
 |.ah l sz st n=>match H l with
  |.vec z rows=>z=sz/\st+n<=rows.length
  |_=>False
 |_=>False
def ay:C->Nat
 |.sl _ _ rows=>rows.length
 |.ah _ _ _ n=>n
 |_=>0
def lenX:C->Nat
 |.slb n=>n
 |c=>ay c
def Mi:C->Prop
 |.slb _=>True
 |_=>False
def inR (k:IntKind)(n:Int):Prop:=k.min<=n/\n<=k.max
def DY (op:BinOp)(k:IntKind)(a b:Int):Int:=
 match op with
 |.and=>k.wrap (BitVec.ofInt k.bits a&&& BitVec.ofInt k.bits b).toNat
 |.or=>k.wrap (BitVec.ofInt k.bits a ||| BitVec.ofInt k.bits b).toNat
 |_=>k.wrap (BitVec.ofInt k.bits a ^^^ BitVec.ofInt k.bits b).toNat
def C.isPtr:C->Bool
 |.pp _|.ep _ _ _ _|.ptr _ _=>true
 |_=>false
def binC:BinOp->C->C->C
 |.add,.int k a,.int _ b=>.int k (a+b)
 |.sub,.int k a,.int _ b=>.int k (a-b)
 |.mul,.int k a,.int _ b=>.int k (a * b)
 |.quo,.int k a,.int _ b=>.int k (a.tdiv b)
 |.rem,.int k a,.int _ b=>.int k (a.tmod b)
 |.and,.int k a,.int _ b=>.int k (DY .and k a b)
 |.or,.int k a,.int _ b=>.int k (DY .or k a b)
 |.xor,.int k a,.int _ b=>.int k (DY .xor k a b)
 |.eql,.int _ a,.int _ b=>.bool (decide (a=b))
 |.neq,.int _ a,.int _ b=>.bool (!decide (a=b))
 |.lss,.int _ a,.int _ b=>.bool (decide (a<b))
 |.leq,.int _ a,.int _ b=>.bool (decide (a<=b))
 |.gtr,.int _ a,.int _ b=>.bool (decide (b<a))
 |.geq,.int _ a,.int _ b=>.bool (decide (b<=a))
 |.eql,.bool a,.bool b=>.bool (a == b)
 |.neq,.bool a,.bool b=>.bool (!(a == b))
 |.add,.str a,.str b=>.str (a++b)
 |.eql,.str a,.str b=>.bool (decide (a=b))
 |.neq,.str a,.str b=>.bool (!decide (a=b))
 |.eql,x,.pnil=>.bool (!x.isPtr)
 |.neq,x,.pnil=>.bool x.isPtr
 |_,_,_=>.unk
def binO (tag:Nat):BinOp->C->C->Prop
 |.add,.int k a,.int k' b=>k=k'/\inR k (a+b)
 |.sub,.int k a,.int k' b=>k=k'/\inR k (a-b)
 |.mul,.int k a,.int k' b=>k=k'/\inR k (a * b)
 |.quo,.int k a,.int k' b=>k=k'/\b≠0/\inR k (a.tdiv b)
 |.rem,.int k a,.int k' b=>k=k'/\b≠0
 |.and,.int k _,.int k' _=>k=k'
 |.or,.int k _,.int k' _=>k=k'
 |.xor,.int k _,.int k' _=>k=k'
 |.eql,.int k _,.int k' _=>k=k'
 |.neq,.int k _,.int k' _=>k=k'
 |.lss,.int k _,.int k' _=>k=k'
 |.leq,.int k _,.int k' _=>k=k'
 |.gtr,.int k _,.int k' _=>k=k'
 |.geq,.int k _,.int k' _=>k=k'
 |.eql,.bool _,.bool _=>tag=1
 |.neq,.bool _,.bool _=>tag=1
 |.add,.str a,.str b=>a.length+b.length<=LIM
 |.eql,.str _,.str _=>True
 |.neq,.str _,.str _=>True
 |.eql,x,.pnil=>tag=2/\(x.isPtr=true\/x=.pnil)
 |.neq,x,.pnil=>tag=2/\(x.isPtr=true\/x=.pnil)
 |_,_,_=>False
def DE (H:Heap):C->List C
 |.pp cells=>cells
 |.ptr l k=>match H l with
  |.st cells=>cells.drop k
  |_=>[]
 |.ep s _ i k=>((rowsOf H s).getD i []).drop k
 |_=>[]
def DW (H:Heap):C->Prop
 |.pp _=>True
 |.ptr l _=>match H l with
  |.st _=>True
  |_=>False
 |.ep s sz i _=>aZ H s/\i<ay s/\s.aP=sz
 |_=>False
def ak (cs:List C):Bool:=cs.all λc=>!c.ai
def E8 (c:Bool):V->V->V
 |.c (.bool a),.c (.bool b)=>.c (.bool (bif c then a else b))
 |x,y=>if c then x else y
def V.cells:V->List C
 |.c x=>[x]
 |.ag cs=>cs
 |_=>[]
def CC:C->C->Bool
 |.int _ a,.int _ b=>decide (a=b)
 |.str a,.str b=>decide (a=b)
 |.bool a,.bool b=>a == b
 |_,_=>false
def Dk (tag:Nat)(k:C)(es:List (C×V)):Prop:=
 match tag,k with
 |0,.int .i64 _=>∀e∈es,∃n,e.1=.int .i64 n
 |1,.str _=>∀e∈es,∃s,e.1=.str s
 |2,.bool _=>∀e∈es,∃b,e.1=.bool b
 |_,_=>False
def Df (k:C):List (C×V)->Option V
 |[]=>none
 |e::es=>if CC k e.1 then some e.2 else Df k es
def D7 (agg:Bool)(cs:List C):V:=if agg then .ag cs else .c (cs.headD .unk)
def Cl (H:Heap):C->List (C×V)
 |.mp l=>match H l with
  |.map _ es=>es
  |_=>[]
 |.cm agg ks rows=>(ks.zip rows).map λe=>(e.1,D7 agg e.2)
 |_=>[]
def Dw (H:Heap):C->Prop
 |.mp l=>match H l with
  |.map _ _=>True
  |_=>False
 |.mnil=>True
 |.cm _ _ _=>True
 |_=>False
def RY (cells:List C):List (Nat×List C)->List C
 |[]=>cells
 |(o,p)::r=>RY (cells.take o++p++cells.drop (o+p.length)) r
inductive FOp where
 |mv (x:Opd)
 |pick (c a b:Opd)
 |bin (tag:Nat) (op:BinOp) (a b:Opd)
 |not (a:Opd)
 |fad (off:Nat) (a:Opd)
 |iad (sz:Nat) (a i:Opd)
 |ld (n:Nat) (agg:Bool) (a:Opd)
 |nck (a:Opd)
 |len (a:Opd)
 |lenx (a:Opd)
 |lens (a:Opd)
 |lensx (a:Opd)
 |lenm (a:Opd)
 |sli (sz:Nat) (a:Opd) (lo hi:Option Opd)
 |slis (a:Opd) (lo hi:Option Opd)
 |ext (a:Opd) (i:Nat)
 |fld (off n:Nat) (agg:Bool) (a:Opd)
 |idx (a i:Opd)
 |bld (zero:List C) (parts:List (Nat×Nat×Opd))
 |kQ (sz:Nat) (parts:List Opd)
 |box (a:Opd)
 |cvt (k:IntKind) (a:Opd)
 |mkf (f:Nat) (caps:List Opd)
 |lup (tag:Nat) (zero:V) (m k:Opd)
 |lup2 (tag:Nat) (zero:V) (m k:Opd)
 |iaa (sz n:Nat) (a i:Opd)
 |asl (n:Nat) (a:Opd)
 |aslp (n:Nat) (a:Opd) (hi:Option Opd)
 |slm (sz:Nat) (a hi:Opd)
 |ldg (n b l:Nat)
 |ldo (b l:Nat)
 |aslg (n b l:Nat)
 |iax (sz n:Nat) (a i:Opd)
 |mx (a b:Opd)
 |mn (a b:Opd)
def BL:V->Int
 |.c (.int _ n)=>n
 |_=>0
def Dv:V->Prop
 |.c (.int k _)=>k=.i64
 |_=>False
def fadC (off:Nat):C->C
 |.pp cells=>.pp (cells.drop off)
 |.ptr l k=>.ptr l (k+off)
 |.ep s sz i k=>.ep s sz i (k+off)
 |_=>.unk
def V.c1:V->C
 |.c x=>x
 |_=>.unk
def V.isC:V->Prop
 |.c _=>True
 |_=>False
def V.isAg:V->Prop
 |.ag _=>True
 |_=>False
def sliC (lo hi:Option Int):C->C
 |.sl fl sz rows=>.sl (fl&&(hi.isNone || rows.isEmpty)) sz ((rows.take (hi.getD rows.length).toNat).drop (lo.getD 0).toNat)
 |.ah l sz st n=>.ah l sz (st+(lo.getD 0).toNat) ((hi.getD n).toNat-(lo.getD 0).toNat)
 |_=>.unk
def FOp.val (e:Env)(H:Heap):FOp->V
 |.mv x=>x.v e
 |.pick c a b=>match c.v e with
  |.c (.bool t)=>E8 t (a.v e) (b.v e)
  |_=>.unk
 |.bin _ op a b=>.c (binC op (a.v e).c1 (b.v e).c1)
 |.not a=>match a.v e with
  |.c (.bool t)=>.c (.bool (!t))
  |_=>.unk
 |.fad off a=>.c (fadC off (a.v e).c1)
 |.iad sz a i=>.c (.ep (a.v e).c1 sz (BL (i.v e)).toNat 0)
 |.ld n agg a=>D7 agg ((DE H (a.v e).c1).take n)
 |.nck a=>a.v e
 |.len a=>.c (.int .i64 (ay (a.v e).c1))
 |.lenx a=>.c (.int .i64 (lenX (a.v e).c1))
 |.lens a=>match a.v e with
  |.c (.str s)=>.c (.int .i64 s.length)
  |_=>.unk
 |.lensx a=>match a.v e with
  |.c (.str s)=>.c (.int .i64 s.length)
  |.c (.stb n)=>.c (.int .i64 n)
  |_=>.unk
 |.lenm a=>.c (.int .i64 (Cl H (a.v e).c1).length)
 |.sli _ a lo hi=>.c (sliC (lo.map λx=>BL (x.v e)) (hi.map λx=>BL (x.v e)) (a.v e).c1)
 |.slis a lo hi=>match a.v e with
  |.c (.str s)=>.c (.str ((s.take ((hi.map λx=>BL (x.v e)).getD s.length).toNat).drop ((lo.map λx=>BL (x.v e)).getD 0).toNat))
  |_=>.unk
 |.ext a i=>match a.v e with
  |.tup vs=>vs.getD i .unk
  |_=>.unk
 |.fld off n agg a=>D7 agg (((a.v e).cells.drop off).take n)
 |.idx a i=>match a.v e with
  |.c (.str s)=>.c (.int .u8 ((s.getD (BL (i.v e)).toNat 0).toNat))
  |_=>.unk
 |.bld zero parts=>.ag (RY zero (parts.map λp=>(p.1,(p.2.2.v e).cells)))
 |.kQ sz parts=>.c (.sl true sz (parts.map λx=>(x.v e).cells))
 |.box a=>.c (.pp (a.v e).cells)
 |.cvt k a=>.c (.int k (BL (a.v e)))
 |.mkf f caps=>.c (.fn f (caps.map λx=>(x.v e).c1))
 |.lup _ zero m k=>(Df (k.v e).c1 (Cl H (m.v e).c1)).getD zero
 |.lup2 _ zero m k=>.tup [(Df (k.v e).c1 (Cl H (m.v e).c1)).getD zero,.c (.bool (Df (k.v e).c1 (Cl H (m.v e).c1)).isSome)]
 |.iaa sz _ a i=>match a.v e with
  |.c (.ptr l k)=>.c (.ptr l (k+(BL (i.v e)).toNat * sz))
  |_=>.unk
 |.asl n a=>match a.v e with
  |.c (.ptr l k)=>.asl l k n
  |_=>.unk
 |.aslp n a hi=>match a.v e with
  |.c (.pp cells)=>.c (.sl hi.isNone 1 ((cells.take ((hi.map λx=>BL (x.v e)).getD n).toNat).map λc=>[c]))
  |_=>.unk
 |.slm _ a hi=>match a.v e with
  |.c (.sl _ sz rows)=>.c (.sl true sz (rows.take (BL (hi.v e)).toNat))
  |_=>.unk
 |.ldg n _ l=>match H l with
  |.gl _ cells=>.ag (cells.take n)
  |_=>.unk
 |.ldo _ l=>match H l with
  |.gl _ cells=>.c (cells.headD .unk)
  |_=>.unk
 |.aslg n _ l=>match H l with
  |.gl _ cells=>.c (.sl true 1 ((cells.take n).map λc=>[c]))
  |_=>.unk
 |.iax sz _ a i=>.ag (((a.v e).cells.drop ((BL (i.v e)).toNat * sz)).take sz)
 |.mx a b=>.c (.int .i64 (if BL (b.v e) > BL (a.v e)then BL (b.v e)else BL (a.v e)))
 |.mn a b=>.c (.int .i64 (if BL (b.v e)<BL (a.v e)then BL (b.v e)else BL (a.v e)))
def Fo:V->Prop
 |.c (.int _ _)=>True
 |_=>False
def optI (x:Option Opd)(e:Env):Prop:=
 match x with
 |none=>True
 |some o=>Dv (o.v e)
def optF (p:Bool)(x:Option Opd)(e:Env):Prop:=
 match x with
 |none=>True
 |some o=>o.fine p e
def bnds (lo hi:Option Int)(n:Nat):Prop:=
 0<=lo.getD 0/\lo.getD 0<=hi.getD n/\hi.getD n<=n
def FOp.obl (p:Bool)(e:Env)(H:Heap):FOp->Prop
 |.mv x=>x.fine p e
 |.pick c a b=>c.fine p e/\match c.v e with
  |.c (.bool t)=>a.fine (p&&t) e/\b.fine (p&&!t) e
  |_=>False
 |.bin tag op a b=>a.fine p e/\b.fine p e/\(a.v e).isC/\(b.v e).isC/\binO tag op (a.v e).c1 (b.v e).c1
 |.not a=>a.fine p e/\match a.v e with
  |.c (.bool _)=>True
  |_=>False
 |.fad _ a=>a.fine p e/\match a.v e with
  |.c (.pp _)=>True
  |.c (.ptr _ _)=>True
  |.c (.ep _ _ _ _)=>True
  |_=>False
 |.iad sz a i=>a.fine p e/\i.fine p e/\(a.v e).isC/\aZ H (a.v e).c1/\(a.v e).c1.aP=sz/\Dv (i.v e)/\
   0<=BL (i.v e)/\(BL (i.v e)).toNat<ay (a.v e).c1
 |.ld n _ a=>a.fine p e/\(a.v e).isC/\DW H (a.v e).c1/\n<=(DE H (a.v e).c1).length/\ak ((DE H (a.v e).c1).take n)=true
 |.nck a=>a.fine p e/\match a.v e with
  |.c (.pp _)=>True
  |.c (.ptr _ _)=>True
  |.c (.ep _ _ _ _)=>True
  |.c (.fn _ _)=>True
  |_=>False
 |.len a=>a.fine p e/\(a.v e).isC/\aZ H (a.v e).c1
 |.lenx a=>a.fine p e/\(a.v e).isC/\(aZ H (a.v e).c1\/Mi (a.v e).c1)
 |.lens a=>a.fine p e/\match a.v e with
  |.c (.str _)=>True
  |_=>False
 |.lensx a=>a.fine p e/\match a.v e with
  |.c (.str _)=>True
  |.c (.stb _)=>True
  |_=>False
 |.lenm a=>a.fine p e/\(a.v e).isC/\Dw H (a.v e).c1
 |.sli sz a lo hi=>a.fine p e/\optF p lo e/\optF p hi e/\optI lo e/\optI hi e/\(a.v e).isC/\aZ H (a.v e).c1/\(a.v e).c1.aP=sz/\
   bnds (lo.map λx=>BL (x.v e)) (hi.map λx=>BL (x.v e)) (ay (a.v e).c1)
 |.slis a lo hi=>a.fine p e/\optF p lo e/\optF p hi e/\optI lo e/\optI hi e/\match a.v e with
  |.c (.str s)=>bnds (lo.map λx=>BL (x.v e)) (hi.map λx=>BL (x.v e)) s.length
  |_=>False
 |.ext a i=>a.fine p e/\match a.v e with
  |.tup vs=>i<vs.length
  |_=>False
 |.fld off n agg a=>a.fine p e/\(a.v e).isAg/\off+n<=(a.v e).cells.length
 |.idx a i=>a.fine p e/\i.fine p e/\Dv (i.v e)/\match a.v e with
  |.c (.str s)=>0<=BL (i.v e)/\(BL (i.v e)).toNat<s.length
  |_=>False
 |.bld zero parts=>∀x∈parts,x.2.2.fine p e/\(x.2.2.v e).cells.length=x.2.1
 |.kQ sz parts=>∀x∈parts,x.fine p e/\(x.v e).cells.length=sz
 |.box a=>a.fine p e/\(a.v e).cells≠[]
 |.cvt k a=>a.fine p e/\Fo (a.v e)/\inR k (BL (a.v e))
 |.mkf f caps=>∀x∈caps,x.fine p e/\(x.v e).isC
 |.lup tag zero m k=>m.fine p e/\k.fine p e/\(m.v e).isC/\(k.v e).isC/\Dw H (m.v e).c1/\Dk tag (k.v e).c1 (Cl H (m.v e).c1)
 |.lup2 tag zero m k=>m.fine p e/\k.fine p e/\(m.v e).isC/\(k.v e).isC/\Dw H (m.v e).c1/\Dk tag (k.v e).c1 (Cl H (m.v e).c1)
 |.iaa _ n a i=>a.fine p e/\i.fine p e/\Dv (i.v e)/\0<=BL (i.v e)/\BL (i.v e)<n/\match a.v e with
  |.c (.ptr _ _)=>True
  |_=>False
 |.asl _ a=>a.fine p e/\match a.v e with
  |.c (.ptr l _)=>(match H l with
   |.st _=>True
   |_=>False)
  |_=>False
 |.aslp n a hi=>a.fine p e/\optF p hi e/\optI hi e/\bnds none (hi.map λx=>BL (x.v e)) n/\n<=LIM/\match a.v e with
  |.c (.pp cells)=>n<=cells.length
  |_=>False
 |.slm sz a hi=>a.fine p e/\hi.fine p e/\Dv (hi.v e)/\0<=BL (hi.v e)/\match a.v e with
  |.c (.sl _ z rows)=>z=sz/\BL (hi.v e)<=rows.length
  |_=>False
 |.ldg n b l=>match H l with
  |.gl b' cells=>b'=b/\n<=cells.length
  |_=>False
 |.ldo b l=>match H l with
  |.gl b' cells=>b'=b/\0<cells.length
  |_=>False
 |.aslg n b l=>match H l with
  |.gl b' cells=>b'=b/\n<=cells.length/\n<=LIM
  |_=>False
 |.iax sz n a i=>a.fine p e/\i.fine p e/\Dv (i.v e)/\0<=BL (i.v e)/\BL (i.v e)<n/\(a.v e).isAg/\n * sz<=(a.v e).cells.length
 |.mx a b=>a.fine p e/\b.fine p e/\Dv (a.v e)/\Dv (b.v e)
 |.mn a b=>a.fine p e/\b.fine p e/\Dv (a.v e)/\Dv (b.v e)
def FOp.fct (e:Env)(H:Heap):FOp->Prop
 |.len a=>ay (a.v e).c1<=LIM
 |.lenx a=>lenX (a.v e).c1<2 ^ 63
 |.lens a=>match a.v e with
  |.c (.str s)=>s.length<=LIM
  |_=>True
 |.lensx a=>match a.v e with
  |.c (.str s)=>s.length<=LIM
  |.c (.stb n)=>n<2 ^ 63
  |_=>True
 |.lenm a=>(Cl H (a.v e).c1).length<=LIM
 |_=>True
def fnOk (P:Program)(f:FuncId):Bool:=
 match P.funcs[f]? with
 | some fn => fn.body.isSome && fn.name != "runtime.NumGoroutine"
 |none=>false
def Qr (P:Program)(f:FuncId)(args:List V)(H:Heap)(K:V->Heap->Prop):Prop:=
 fnOk P f=true/\∀(g:G) (w:World) (vs:List Value),Sat H g w->vs.length=args.length->
  (∀(j:Nat) (x:V) (u:Value),args[j]? = some x->vs[j]? = some u->RepV w g x u)->
  Calls P f vs.toArray w λe w'=>(∃v x H' g',e=.returned v/\K x H'/\Stp H g w H' g' w'/\RepV w' g' x v)\/
   (∃v H' g',e=.panicked [{ v:=v,recovered:=false }]/\K (.pn v) H'/\Stp H g w H' g' w')
def Fs (P:Program)(f:FuncId)(args:List V)(r:V):Prop:=(∀v,r≠.pn v)/\∀H K,K r H->Qr P f args H K
inductive EOp where
 |alloc (cells:List C)
 |boxm (a:Opd)
 |sto (n:Nat) (a v:Opd)
 |app (sz:Nat) (a b:Opd)
 |mks (sz:Nat) (zero:List C) (n:Opd)
 |mkm
 |upd (tag:Nat) (m k v:Opd)
 |del (tag:Nat) (m k:Opd)
 |clrm (m:Opd)
 |clrs (sz:Nat) (zero:List C) (m:Opd)
 |call (f:Nat) (args:List Opd)
 |f9 (f:Opd) (args:List Opd)
 |rng (m:Opd)
 |nxt (it:Opd)
 |ent (it:Opd)
 |nilq (a:Opd)
 |rngs (a:Opd)
 |nxts (it:Opd)
 |bslm (sz:Nat) (parts:List Opd)
 |cpy (sz:Nat) (a b:Opd)
def EU (row:List C)(k:Nat)(vs:List C):List C:=row.take k++vs++row.drop (k+vs.length)
def D9 (H:Heap)(p:C)(vs:List C)(K:V->Heap->Prop):Prop:=
 match p with
 |.ptr l k=>match H l with
  |.st cells=>k+vs.length<=cells.length/\K .unk (H.set l (.st (EU cells k vs)))
  |_=>False
 |.ep (.ah l sz st n) z i k=>match H l with
  |.vec y rows=>y=sz/\z=sz/\i<n/\st+n<=rows.length/\k+vs.length<=sz/\
    K .unk (H.set l (.vec sz (rows.set (st+i) (EU (rows.getD (st+i) []) k vs))))
  |_=>False
 |_=>False
def appT (H:Heap)(sz:Nat)(a b:C)(K:V->Heap->Prop):Prop:=
 aZ H b/\b.aP=sz/\match a with
 |.sl true z rows=>z=sz/\(rows=[]\/rowsOf H b≠[])/\(∀r∈rows++rowsOf H b,ak r=true)/\rows.length+ay b<=LIM/\
   ∀l,H l=.none->K (.c (.ah l sz 0 (rows.length+ay b))) (H.set l (.vec sz (rows++rowsOf H b)))
 |.ah l z st n=>match H l with
  |.vec y rows=>z=sz/\y=sz/\st+n<=rows.length/\(∀r∈rowsOf H b,ak r=true)/\n+ay b<=LIM/\
    ∀l',(H.set l .none) l'=.none->
     K (.c (.ah l' sz 0 (n+ay b))) ((H.set l .none).set l' (.vec sz ((rows.drop st).take n++rowsOf H b)))
  |_=>False
 |_=>False
def updE (k:C)(v:V):List (C×V)->List (C×V)
 |[]=>[(k,v)]
 |e::es=>if CC k e.1 then (k,v)::es else e::updE k v es
def delE (k:C):List (C×V)->List (C×V)
 |[]=>[]
 |e::es=>if CC k e.1 then es else e::delE k es
def updT (H:Heap)(tag:Nat)(m k:C)(v:V)(K:V->Heap->Prop):Prop:=
 match m with
 |.mp l=>match H l with
  |.map n es=>Dk tag k es/\es.length+1<=LIM/\K .unk (H.set l (.map (n+1) (updE k v es)))
  |_=>False
 |_=>False
def delT (H:Heap)(tag:Nat)(m k:C)(K:V->Heap->Prop):Prop:=
 match m with
 |.mp l=>match H l with
  |.map n es=>Dk tag k es/\K .unk (H.set l (.map (n+1) (delE k es)))
  |_=>False
 |.mnil=>Dk tag k []/\K .unk H
 |_=>False
def cpyT (H:Heap)(sz:Nat)(a b:C)(K:V->Heap->Prop):Prop:=
 aZ H b/\b.aP=sz/\match a with
 |.ah l z st n=>match H l with
  |.vec y rows=>z=sz/\y=sz/\st+n<=rows.length/\ay b<=n/\(∀r∈rowsOf H b,ak r=true)/\
    K (.c (.int .i64 (ay b))) (H.set l (.vec sz (rows.take st++rowsOf H b++rows.drop (st+ay b))))
  |_=>False
 |_=>False
def EOp.eff (P:Program)(p:Bool)(e:Env)(H:Heap)(K:V->Heap->Prop):EOp->Prop
 |.alloc cells=>∀l,H l=.none->K (.c (.ptr l 0)) (H.set l (.st cells))
 |.boxm a=>a.fine p e/\(a.v e).cells≠[]/\∀l,H l=.none->K (.c (.ptr l 0)) (H.set l (.st (a.v e).cells))
 |.sto n a v=>a.fine p e/\v.fine p e/\(a.v e).isC/\(v.v e).cells.length=n/\0<n/\D9 H (a.v e).c1 (v.v e).cells K
 |.app sz a b=>a.fine p e/\b.fine p e/\(a.v e).isC/\(b.v e).isC/\appT H sz (a.v e).c1 (b.v e).c1 K
 |.mks sz zero n=>n.fine p e/\Dv (n.v e)/\0<=BL (n.v e)/\BL (n.v e)<=LIM/\
   ∀l,H l=.none->K (.c (.ah l sz 0 (BL (n.v e)).toNat)) (H.set l (.vec sz (List.replicate (BL (n.v e)).toNat zero)))
 |.mkm=>∀l,H l=.none->K (.c (.mp l)) (H.set l (.map 0 []))
 |.upd tag m k v=>m.fine p e/\k.fine p e/\v.fine p e/\(m.v e).isC/\(k.v e).isC/\(v.v e).cells≠[]/\updT H tag (m.v e).c1 (k.v e).c1 (v.v e) K
 |.del tag m k=>m.fine p e/\k.fine p e/\(m.v e).isC/\(k.v e).isC/\delT H tag (m.v e).c1 (k.v e).c1 K
 |.clrm m=>m.fine p e/\match m.v e with
  |.c (.mp l)=>match H l with
   |.map n _=>K .unk (H.set l (.map (n+1) []))
   |_=>False
  |_=>False
 |.clrs sz zero m=>m.fine p e/\match m.v e with
  |.c (.ah l z st n)=>z=sz/\match H l with
   |.vec y rows=>y=sz/\st+n<=rows.length/\K .unk (H.set l (.vec sz (rows.take st++List.replicate n zero++rows.drop (st+n))))
   |_=>False
  |_=>False
 |.call f args=>(∀x∈args,x.fine p e)/\Qr P f (args.map λx=>x.v e) H K
 |.f9 f args=>f.fine p e/\(∀x∈args,x.fine p e)/\match f.v e with
  |.c (.fn n caps)=>Qr P n ((args.map λx=>x.v e)++caps.map .c) H K
  |_=>False
 |.rng m=>m.fine p e/\match m.v e with
  |.c (.mp l)=>match H l with
   |.map n es=>es.Nodup/\∀i,H i=.none->K (.c (.itr i)) (H.set i (.iter (some (l,n)) es none))
   |_=>False
  |.c .mnil=>∀i,H i=.none->K (.c (.itr i)) (H.set i (.iter none [] none))
  |_=>False
 |.nxt it=>it.fine p e/\match it.v e with
  |.c (.itr i)=>match H i with
   |.iter none left _=>K (.tup [.c (.bool false)]) H
   |.iter (some (l,n)) left cur=>(∃es,H l=.map n es)/\(left=[]->K (.tup [.c (.bool false)]) H)/\
     ∀x left',x∈left->(∀y,y∈left'↔y∈left/\y≠x)->left'.Nodup->left'.length+1=left.length->
      K (.tup [.c (.bool true),.c x.1,x.2]) (H.set i (.iter (some (l,n)) left' (some x)))
   |_=>False
  |_=>False
 |.ent it=>it.fine p e/\match it.v e with
  |.c (.itr i)=>match H i with
   |.iter (some (l,n)) left (some x)=>(∃es,H l=.map n es)/\K (.tup [.c x.1,x.2]) H
   |_=>False
  |_=>False
 |.rngs a=>a.fine p e/\match a.v e with
  |.c (.str s)=>∀i,H i=.none->K (.c (.itr i)) (H.set i (.sit s 0))
  |_=>False
 |.nxts it=>it.fine p e/\match it.v e with
  |.c (.itr i)=>match H i with
   |.sit s q=>(s.length<=q->K (.tup [.c (.bool false)]) H)/\
     ∀(c:Int) (wd:Nat),q<s.length->1<=wd->((s.getD q 0).toNat<128->c=((s.getD q 0).toNat:Int)/\wd=1)->(128<=(s.getD q 0).toNat->128<=c)->
      K (.tup [.c (.bool true),.c (.int .i64 q),.c (.int .i32 c)]) (H.set i (.sit s (q+wd)))
   |_=>False
  |_=>False
 |.nilq a=>a.fine p e/\match a.v e with
  |.c (.sl _ _ rows)=>∀b:Bool,(b=true->rows=[])->K (.c (.bool b)) H
  |_=>False
 |.cpy sz a b=>a.fine p e/\b.fine p e/\(a.v e).isC/\(b.v e).isC/\cpyT H sz (a.v e).c1 (b.v e).c1 K
 |.bslm sz parts=>(∀x∈parts,x.fine p e/\(x.v e).cells.length=sz)/\∀l,H l=.none->K (.c (.ah l sz 0 parts.length)) (H.set l (.vec sz (parts.map λx=>(x.v e).cells)))
inductive Item where
 |f (dst:Option Nat) (g:Option (Nat×Bool)) (op:FOp)
 |p (dst:Option Nat) (g:Option (Nat×Bool)) (f:Nat) (args:List Opd)
 |e (dst:Option Nat) (g:Option (Nat×Bool)) (op:EOp)
 |chk (dst:Nat) (g:Option (Nat×Bool)) (op:FOp)
def Cz (d:Option Nat)(v:V)(e:Env):Env:=
 match d with
 |some t=>(t,v)::e
 |none=>e
def gdB (e:Env):Option (Nat×Bool)->Bool
 |none=>true
 |some (t,w)=>match lk t e with
  |.c (.bool b)=>b == w
  |.gd q (.c (.bool b))=>q&&(b == w)
  |_=>false
def gdO (e:Env):Option (Nat×Bool)->Prop
 |none=>True
 |some (t,_)=>match lk t e with
  |.c (.bool _)=>True
  |.gd _ (.c (.bool _))=>True
  |.gd q _=>q=false
  |_=>False
def gdV (g:Option (Nat×Bool))(p:Bool)(v:V):V:=
 match g with
 |none=>v
 |some _=>.gd p v
def Dm (KP:Value->Heap->Prop)(K:V->Heap->Prop):V->Heap->Prop
 |.pn v,H=>KP v H
 |v,H=>K v H
def regT (P:Program):List Item->Env->Heap->(Value->Heap->Prop)->(Env->Heap->Prop)->Prop
 |[],e,H,KP,K=>K e H
 |.f d g op::r,e,H,KP,K=>gdO e g/\(gdB e g=true->op.obl (gdB e g) e H)/\
   ((gdB e g=true->op.fct e H)->regT P r (Cz d (gdV g (gdB e g) (op.val e H)) e) H KP K)
 |.p d g f args::r,e,H,KP,K=>gdO e g/\∃v,(gdB e g=true->(∀x∈args,x.fine (gdB e g) e)/\Fs P f (args.map λx=>x.v e) v)/\
   regT P r (Cz d (gdV g (gdB e g) v) e) H KP K
 |.e d g op::r,e,H,KP,K=>gdO e g/\
   (gdB e g=true->op.eff P (gdB e g) e H (Dm KP λv H'=>regT P r (Cz d v e) H' KP K))/\
   (gdB e g=false->regT P r (Cz d .unk e) H KP K)
 |.chk _ _ _::_,_,_,_,_=>False
def Cm (P:Program):List Item->Env->Heap->(Value->Heap->Prop)->(Env->Heap->Prop)->Prop
 |[],e,H,KP,K=>K e H
 |.f d g op::r,e,H,KP,K=>gdO e g/\(gdB e g=true->op.obl (gdB e g) e H)/\Cm P r (Cz d (gdV g (gdB e g) (op.val e H)) e) H KP K
 |.p d g f args::r,e,H,KP,K=>gdO e g/\∃v,(gdB e g=true->(∀x∈args,x.fine (gdB e g) e)/\Fs P f (args.map λx=>x.v e) v)/\
   Cm P r (Cz d (gdV g (gdB e g) v) e) H KP K
 |.e d g op::r,e,H,KP,K=>gdO e g/\
   (gdB e g=true->op.eff P (gdB e g) e H (Dm KP λv H'=>Cm P r (Cz d v e) H' KP K))/\
   (gdB e g=false->Cm P r (Cz d .unk e) H KP K)
 |.chk d g op::r,e,H,KP,K=>(gdO e g/\(gdB e g=true->op.obl (gdB e g) e H)/\lk d e=gdV g (gdB e g) (op.val e H))/\Cm P r e H KP K
def trim (ks:List Nat)(e:Env):Env:=ks.map λt=>(t,lk t e)
def Fu (e:Env)(H:Heap)(e':Env)(H':Heap):Prop:=
 ∀(g:G) (w:World) (tmps:Nat->Value),Sat H g w->(∀t,RepV w g (lk t e) (tmps t))->
  ∃g',Stp H g w H' g' w/\∀t,RepV w g' (lk t e') (tmps t)
inductive SC where
 |skip
 |reg (its:List Item) (keep:List Nat)
 |jO (fa:Nat) (ord:List Nat) (its:List Item) (keep:List Nat)
 |seq (a b:SC)
 |cond (t:Opd) (a b:SC)
 |block (id:Nat) (a:SC)
 |loop (a:SC)
 |exit (id:Nat)
 |ret
 |gh
 |scope (a:SC)
inductive X where
 |nrm
 |exit (id:Nat)
 |ret
 |pan (v:Value)
def X.panK (Q:X->Env->Heap->Prop)(v:Value)(H:Heap):Prop:=Q (.pan v) [] H
def X.next (K:Env->Heap->Prop)(Q:X->Env->Heap->Prop):X->Env->Heap->Prop
 |.nrm,e,H=>K e H
 |x,e,H=>Q x e H
def X.inBlock (id:Nat)(Q:X->Env->Heap->Prop):X->Env->Heap->Prop
 |.exit i,e,H=>if i=id then Q .nrm e H else Q (.exit i) e H
 |x,e,H=>Q x e H
def BI (P:Program):SC->(X->Env->Heap->Prop)->Env->Heap->Prop
 |.skip,Q,e,H=>Q .nrm e H
 |.reg its keep,Q,e,H=>regT P its e H (X.panK Q) λe' H'=>Q .nrm (trim keep e') H'
 |.jO _ _ its keep,Q,e,H=>Cm P its e H (X.panK Q) λe' H'=>Q .nrm (trim keep e') H'
 |.seq a b,Q,e,H=>BI P a (X.next (BI P b Q) Q) e H
 |.cond t a b,Q,e,H=>∃c,t.raw e=.c (.bool c)/\(c=true->BI P a Q e H)/\(c=false->BI P b Q e H)
 |.block id a,Q,e,H=>BI P a (X.inBlock id Q) e H
 |.loop a,Q,e,H=>∃(I:Nat->Env->Heap->Prop),(∃n,I n e H)/\
   ∀n e1 H1,I n e1 H1->BI P a (X.next (λe2 H2=>∃m,m<n/\I m e2 H2) Q) e1 H1
 |.exit id,Q,e,H=>Q (.exit id) e H
 |.ret,Q,e,H=>Q .ret e H
 |.gh,Q,e,H=>∃e' H',Fu e H e' H'/\Q .nrm e' H'
 |.scope a,Q,e,H=>BI P a Q e H
inductive RS where
 |tmp (t:Nat)
 |cell (t n:Nat) (agg:Bool)
def RS.op:RS->FOp
 |.tmp t=>.mv (.t t)
 |.cell t n agg=>.ld n agg (.t t)
def BE (rs:List RS)(e:Env)(H:Heap)(K:V->Heap->Prop):Prop:=
 (∀r∈rs,r.op.obl true e H)/\K (match rs with
  |[r]=>r.op.val e H
  |_=>.tup (rs.map λr=>r.op.val e H)) H
def zipE (i:Nat):List V->Env
 |[]=>[]
 |v::r=>(i,v)::zipE (i+1) r
variable {P:Program}
theorem IK {t:TypeId}{i:TypeInfo}(h:P.info? t=some i)(w:World):(typeInfo t).run P w=.ok i w:=by
 simp[typeInfo,h]
theorem CD {t:TypeId}{i:TypeInfo}(h:P.info? t=some i)(w:World):(sizeOf t).run P w=.ok i.size w:=by
 simp[sizeOf,IK h]
theorem BT {t:TypeId}{d:TypeDesc}(h:P.underlying t=some d)(w:World):(underlying t).run P w=.ok d w:=by
 simp[underlying,h]
theorem Qa0v {t:TypeId}{i:TypeInfo}(h:P.info? t=some i):P.cellsOf t=i.size:=by simp[Program.cellsOf,h]
def D1:TypeDesc->Bool
 |.struct _|.array _ _=>true
 |_=>false
theorem FC {t:TypeId}{d:TypeDesc}(h:P.underlying t=some d)(w:World):(isAgg t).run P w=.ok (D1 d) w:=by
 cases d <;> simp[isAgg,BT h,D1]
theorem DI (b o j:Nat):(⟨b,o,none⟩:Addr).add j=⟨b,o+j,none⟩:=by
 unfold Addr.add;split
 ·subst_vars;rfl
 ·rfl
theorem HP {t:TypeId}{d:TypeDesc}{i:TypeInfo}(hd:P.underlying t=some d)(hi:P.info? t=some i)(w:World)(b o n:Nat)(f:Nat->Value)
  (hn:D1 d=true->i.size=n) (h1:D1 d=false->n=1) (hc:∀j,j<n->w.cell? ⟨b,o+j,none⟩=some (f j)) :
  (loadVar t ⟨b,o,none⟩).run P w=.ok (if D1 d then .agg ((List.range n).map f).toArray else f 0) w:=by
 unfold loadVar;simp only[Sem.run_bind,FC hd,Result.andThen_ok]
 cases ha:D1 d with
 |true=>
  simp only[Sem.run_bind,CD hi,Result.andThen_ok,if_true,hn ha];rw[run_loadCells w _ n f (λj hj=>by rw[DI];exact hc j hj)];simp
 |false=>
  have h0:=hc 0 (by have:=h1 ha;omega);simp only[J0]at h0;simp[h0]
def getV (w:World)(b o:Nat)(j:Nat):Value:=(w.cell? ⟨b,o+j,none⟩).getD undef
theorem RepC.ak {w:World}{g:G}{c:C}{v:Value}(h:RepC w g c v):c.ai=false:=by cases h <;> rfl
theorem F8 {w:World}{b o:Nat}{cs:Array Value}{T:TypeId}(h:w.heap[b]? = some (.cells cs T (0,0))):w.cell? ⟨b,o,none⟩=cs[o]?:=by
 simp[World.cell?,h]
theorem RepO.toC {w:World}{g:G}{l:Nat}{p:List Nat}{c:C}{v:Value}(h:RepO w g l p c v)(hn:c.ai=false):RepC w g c v:=
 h.plain_of (λsz rows e=>by subst e;simp[C.ai]at hn)
theorem G7 {H:Heap}{g:G}{w:World}(hs:Sat H g w){s:C}{v:Value}(h:RepC w g s v)(ho:aZ H s) :
  ∃a cap,v=.slice a (ay s) cap/\ay s<=LIM/\(rowsOf H s).length=ay s/\
   (∀(i:Nat) (row:List C),(rowsOf H s)[i]? = some row->row.length=s.aP)/\
   (ay s≠0->∃b off,a=some ⟨b,off,none⟩/\∀(i:Nat) (row:List C) (j:Nat) (c:C),(rowsOf H s)[i]? = some row->row[j]? = some c->c.ai=false->
    ∃u,w.cell? ⟨b,off+i * s.aP+j,none⟩=some u/\RepC w g c u):=by
 cases h with
 |bV fl sz a=>exact⟨a,0,rfl,by simp[ay,LIM],rfl,by simp[rowsOf],by simp[ay]⟩
 |sl fl sz rows b off cap val hl hf fm hp hr hc hv=>
  refine⟨some ⟨b,off,none⟩,cap,rfl,hl,rfl,hr,λ_=>⟨b,off,rfl,λi row j c h1 h2 _=>⟨_,hc i row j c h1 h2,hv i row j c h1 h2⟩⟩⟩
 |bK l sz st a=>
  simp only[aZ]at ho;refine⟨a,0,rfl,by simp[ay,LIM],?_,?_,by simp[ay]⟩
  ·simp only[rowsOf,ay];split <;> simp
  ·intro i row h1;simp only[rowsOf]at h1;split at h1 <;> simp at h1
 |ah l sz st n cap b base T m bP hn iH hm=>
  simp only[aZ]at ho;split at ho
  ·rename_i z rows hH
   obtain⟨rfl,aN⟩:=ho;have bg:=hs.objs l;rw[hH]at bg;obtain⟨b',base',T',cs,val,h1,h2,h3,h4,h5,h6,h7,h8⟩:=SatVec.of bg bP;rw[bP]at h1;simp only[Jb,Jo,true_and]at h1;obtain⟨rfl,rfl⟩:=h1;have aC:∀i row,(rowsOf H (.ah l z st n))[i]? = some row->i<n/\rows[st+i]? = some row:=by
    intro i row hi;simp only[rowsOf,hH,Jp,Jr]at hi;split at hi
    ·rename_i af;exact⟨af,hi⟩
    ·simp at hi
   refine⟨_,cap,rfl,by simp only[ay];omega,?_,?_,λ_=>⟨b,base+st * z,rfl,?_⟩⟩
   ·simp only[rowsOf,hH,ay,List.length_take,List.length_drop];omega
   ·intro i row hi;exact h6 _ _ (aC i row hi).2
   ·intro i row j c hi hj ho;obtain⟨rh,ov⟩:=aC i row hi;have e1:=h7 _ _ _ _ ov hj;refine⟨val (st+i) j,?_,(h8 _ _ _ _ ov hj).toC ho⟩;rw[F8 h3,<-e1];simp only[C.aP];congr 1;rw[Jk];omega
  ·exact ho.elim
 |_=>simp[aZ]at ho
theorem N3 {H:Heap}{g:G}{w:World}(hs:Sat H g w){x:C}{v:Value}(h:RepC w g x v)(ho:DW H x) :
  ∃b o,v=.pointer (some ⟨b,o,none⟩)/\∀(j:Nat) (c:C),(DE H x)[j]? = some c->c.ai=false->∃u,w.cell? ⟨b,o+j,none⟩=some u/\RepC w g c u:=by
 cases h with
 |pp cells b off val hp hc hv=>exact⟨b,off,rfl,λj c h1 _=>⟨_,hc j c h1,hv j c h1⟩⟩
 |ptr l k b sz base bP=>
  simp only[DW]at ho;split at ho
  ·rename_i cells hH
   have bg:=hs.objs l;rw[hH]at bg;obtain⟨b',sz',T,cs,h1,h2,h3,h4,h5⟩:=bg;rw[bP]at h1;simp only[Jb,Jo]at h1;obtain⟨rfl,rfl,rfl⟩:=h1;refine⟨b,0+k,rfl,λj c hj hw=>?_⟩;simp only[DE,hH,Jr]at hj;have af:k+j<cs.size:=by
    rw[h4];rcases Jh (k+j) cells.length with h|h
    ·exact h
    ·rw[Jf h]at hj;simp at hj
   have hv:cs[k+j]? = some cs[k+j]:=Jc af;exact⟨cs[k+j],by rw[F8 h3,show 0+k+j=k+j by omega];exact hv,(h5 _ _ _ hj hv).toC hw⟩
  ·exact ho.elim
 |ep s sz i k b off n cap eK hz hi=>
  simp only[DW]at ho;obtain⟨vB,kZ,ho3⟩:=ho;obtain⟨a,cap',hv,h1,h2,h3,h4⟩:=G7 hs eK vB;simp only[Value.slice.injEq]at hv;obtain⟨rfl,rfl,rfl⟩:=hv;obtain⟨b',off',hb,h5⟩:=h4 ZB;simp only[Jb,Addr.mk.injEq,and_true]at hb;obtain⟨rfl,rfl⟩:=hb;refine⟨b,off+i * sz+k,rfl,λj c hj hw=>?_⟩;simp only[DE,Jr]at hj;have aC:(rowsOf H s)[i]? = some ((rowsOf H s).getD i []):=by
   rw[J1,Jd ZB];rfl
  obtain⟨u,e1,e2⟩:=h5 i _ (k+j) c aC hj hw;refine⟨u,?_,e2⟩;rw[hz]at e1;rw[<-e1];congr 2;omega
 |_=>simp[DW]at ho
def mK:V->Value->Bool
 |.c (.int k n),.int k' n'=>k == k'&&n == n'
 |.c (.bool b),.bool b'=>b == b'
 |.c (.str s),.string b=>decide (s=b.data.toList)&&decide (s.length<=1000000)
 |.c (.sl _ _ []),.slice none 0 0=>true
 |.c .pnil,.pointer none=>true
 |.c .mnil,.map none=>true
 |.c .fnil,.nilFunc=>true
 |_,_=>false
def mO:Opd->Operand->Bool
 |.t n,.tmp m=>n == m
 |.k v,.const c=>mK v c
 |.k (.c (.fn f [])),.func f'=>f == f'
 |_,_=>false
theorem Qb43 {w:World}{g:G}{v:V}{u:Value}(h:mK v u=true):RepV w g v u:=by
 unfold mK at h;split at h
 ·simp at h;obtain⟨rfl,rfl⟩:=h;exact .c _ _ (.int _ _)
 ·simp at h;subst h;exact .c _ _ (.bool _)
 ·rename_i s b
  simp only[Ja,decide_eq_true_eq]at h;obtain⟨rfl,h2⟩:=h;have hb:b=⟨b.data.toList.toArray⟩:=by cases b;rfl
  have:=RepC.str (w:=w) (g:=g) b.data.toList (by unfold LIM;omega);rw[<-hb]at this;exact .c _ _ this
 ·exact .c _ _ (.bV _ _ _)
 ·exact .c _ _ .pnil
 ·exact .c _ _ .mnil
 ·exact .c _ _ .fnil
 ·simp at h
theorem My {w:World}{g:G}{e:Env}{a:Act}(he:∀t,RepV w g (lk t e) (a.tmps.getD t undef)){x:Opd}{y:Operand}(h:mO x y=true) :
  RepV w g (x.raw e) (a.eval y):=by
 unfold mO at h;split at h
 ·simp at h;subst h;exact he _
 ·exact Qb43 h
 ·simp at h;subst h;exact .c _ _ (.fn _ [] [] rfl (by intro j c u h1;simp at h1))
 ·simp at h
theorem BS {w:World}{g:G}{e:Env}{a:Act}(he:∀t,RepV w g (lk t e) (a.tmps.getD t undef)){x:Opd}{y:Operand}(h:mO x y=true)
  {p:Bool} (hp:p=true) (hf:x.fine p e):RepV w g (x.v e) (a.eval y):=by
 have hr:=My he h;unfold Opd.v Opd.fine at *
 cases hx:x.raw e with
 |gd q v=>
  rw[hx]at hr hf;simp only[V.fine]at hf
  cases hr with
  |gd _ _ _ hv _=>exact hv (hf hp)
 |_=>rw[hx]at hr;exact hr
theorem RepV.aO {w:World}{g:G}{x:C}{v:Value}(h:RepV w g (.c x) v):RepC w g x v:=by cases h;assumption
theorem RepC.aH {w:World}{g:G}{k:IntKind}{n:Int}{v:Value}(h:RepC w g (.int k n) v):v=.int k n:=by cases h;rfl
theorem RepC.bx {w:World}{g:G}{b:Bool}{v:Value}(h:RepC w g (.bool b) v):v=.bool b:=by cases h;rfl
theorem RepC.str_inv {w:World}{g:G}{s:List UInt8}{v:Value}(h:RepC w g (.str s) v):v=.string ⟨s.toArray⟩/\s.length<=LIM:=by cases h;exact⟨rfl,by assumption⟩
theorem RepC.pnil_inv {w:World}{g:G}{v:Value}(h:RepC w g .pnil v):v=.pointer none:=by cases h;rfl
theorem RepC.ptr_inv {w:World}{g:G}{x:C}{v:Value}(h:RepC w g x v)(hx:x.isPtr=true):∃b o,v=.pointer (some ⟨b,o,none⟩):=by
 cases h <;> simp[C.isPtr]at hx <;> exact⟨_,_,rfl⟩
theorem RepC.fn_inv {w:World}{g:G}{f:Nat}{caps:List C}{v:Value}(h:RepC w g (.fn f caps) v) :
  ∃vs:List Value,v=.func (.func f) #[] vs.toArray/\vs.length=caps.length/\∀(j:Nat) (c:C) (u:Value),caps[j]? = some c->vs[j]? = some u->RepC w g c u:=by
 cases h with
 |fn f caps vs hl hv=>exact⟨vs,rfl,hl,hv⟩
theorem RepV.tup_inv {w:World}{g:G}{xs:List V}{v:Value}(h:RepV w g (.tup xs) v) :
  ∃vs:List Value,v=.tuple vs.toArray/\vs.length=xs.length/\∀(j:Nat) (x:V) (u:Value),xs[j]? = some x->vs[j]? = some u->RepV w g x u:=by
 cases h with
 |tup xs vs hl hv=>exact⟨vs,rfl,hl,hv⟩
theorem RepV.ag_inv {w:World}{g:G}{cs:List C}{v:Value}(h:RepV w g (.ag cs) v) :
  ∃vs:List Value,v=.agg vs.toArray/\vs.length=cs.length/\∀(j:Nat) (x:C) (u:Value),cs[j]? = some x->vs[j]? = some u->RepC w g x u:=by
 cases h with
 |ag cs vs hl hv=>exact⟨vs,rfl,hl,hv⟩
theorem CH {v:V}(h:v.isC):v=.c v.c1:=by cases v <;> simp_all[V.isC,V.c1]
end Go.AE
namespace Go.AE
variable {P:Program}{H:Heap}{g:G}{w:World}{e:Env}{a:Act}{o:Oper}{p:Bool}
def FOk (P:Program)(H:Heap)(g:G)(w:World)(e:Env)(a:Act)(o:Oper)(op:FOp):Prop:=
 ∃v w' g',(execOp a.eval o).run P w=.ok (.value v) w'/\Stp H g w H g' w'/\RepV w' g' (op.val e H) v/\op.fct e H
abbrev EnvOk (w:World)(g:G)(e:Env)(a:Act):Prop:=∀t,RepV w g (lk t e) (a.tmps.getD t undef)
theorem FOk.mk' {op:FOp}(hs:Sat H g w){v:Value}(h1:(execOp a.eval o).run P w=.ok (.value v) w)(h2:RepV w g (op.val e H) v)(h3:op.fct e H) :
  FOk P H g w e a o op:=⟨v,w,g,h1,.refl hs,h2,h3⟩
def mTag (P:Program)(tag:Nat)(t:TypeId):Bool:=
 match tag with
 |1=>(match P.underlying t with|some .bool=>true|_=>false)
 |2=>(match P.underlying t with|some (.pointer _)=>true|_=>false)
 |_=>true
theorem s_mv {x:Opd}{y:Operand}(hm:o.op=.move y\/o.op=.assign y)(hx:mO x y=true)(hs:Sat H g w)(he:EnvOk w g e a)(hp:p=true)
  (ho:(FOp.mv x).obl p e H):FOk P H g w e a o (.mv x):=by
 refine .mk' hs (v:=a.eval y) ?_ (BS he hx hp ho) trivial;rcases hm with hm|hm <;> simp[execOp,hm]
theorem Qb5r {c x y:Opd}{c' x' y':Operand}(hm:o.op=.pick c' x' y')(hc:mO c c'=true)(hx:mO x x'=true)(hy:mO y y'=true)
  (hs:Sat H g w) (he:EnvOk w g e a) (hp:p=true) (ho:(FOp.pick c x y).obl p e H):FOk P H g w e a o (.pick c x y):=by
 simp only[FOp.obl]at ho;obtain⟨h1,h2⟩:=ho;have hr:=BS he hc hp h1
 cases hv:c.v e with
 |c z=>
  cases z with
  |bool t=>
   rw[hv]at hr h2;simp only at h2;have hb:a.eval c'=.bool t:=hr.aO.bx;refine .mk' hs (v:=if t then a.eval x' else a.eval y') (by simp[execOp,hm,hb,asBool]) ?_ trivial;simp only[FOp.val,hv];have gen:∀(u v:V) (s r:Value),(t=true->RepV w g u s)->(t=false->RepV w g v r)->RepV w g (E8 t u v) (if t then s else r):=by
    intro u v s r hu hv;unfold E8;split
    ·cases t
     ·simpa using hv rfl
     ·simpa using hu rfl
    ·cases t
     ·simpa using hv rfl
     ·simpa using hu rfl
   refine gen _ _ _ _ (λht=>?_) (λht=>?_)
   ·exact BS he hx (p:=p&&t) (by simp[hp,ht]) h2.1
   ·exact BS he hy (p:=p&&!t) (by simp[hp,ht]) h2.2
  |_=>rw[hv]at h2;exact h2.elim
 |_=>rw[hv]at h2;exact h2.elim
theorem I6 {k:IntKind}{n:Int}(h:inR k n):k.wrap n=n:=by
 unfold inR at h;cases k <;> simp[IntKind.min,IntKind.max,IntKind.signed,IntKind.bits]at h <;> simp[IntKind.wrap,IntKind.signed,IntKind.bits] <;> omega
theorem LU (s:List UInt8):(⟨s.toArray⟩:ByteArray).toList=s:=by
 rw[ByteArray.toList_eq]
theorem FA (s:List UInt8):(⟨s.toArray⟩:ByteArray).size=s.length:=by simp[ByteArray.size]
theorem E3:LIM=549755813888:=rfl
theorem C6 (op:BinOp)(t:TypeId)(x y:Operand)(u v:Value)(h:∀cs ds,¬(u=.agg cs/\v=.agg ds))(h':¬(u=.nilIface/\v=.nilIface))(w:World) :
  (eqGuard op t x y u v).run P w=.ok () w:=by
 unfold eqGuard;cases op <;> simp <;> (cases u <;> cases v <;> simp_all)
theorem Qa01 {t:TypeId}(h:P.underlying t=some .bool)(d:Nat)(x y:Bool)(w:World):(Op.equalIn (d+1) t (.bool x) (.bool y)).run P w=.ok (x == y) w:=by
 simp[Op.equalIn,BT h]
theorem Qba7 {t pe:TypeId}(h:P.underlying t=some (.pointer pe))(d:Nat)(x:Addr)(w:World):(Op.equalIn (d+1) t (.pointer (some x)) (.pointer none)).run P w=.ok false w:=by
 simp[Op.equalIn,BT h]
theorem Qba6 {t pe:TypeId}(h:P.underlying t=some (.pointer pe))(d:Nat)(w:World):(Op.equalIn (d+1) t (.pointer none) (.pointer none)).run P w=.ok true w:=by
 simp[Op.equalIn,BT h]
theorem Q75 {t:TypeId}(h:P.underlying t=some .bool)(x y:Bool)(w:World):(Op.equal t (.bool x) (.bool y)).run P w=.ok (x == y) w:=Qa01 h 9999 x y w
theorem Pe {t pe:TypeId}(h:P.underlying t=some (.pointer pe))(x:Addr)(w:World):(Op.equal t (.pointer (some x)) (.pointer none)).run P w=.ok false w:=Qba7 h 9999 x w
theorem Pf {t pe:TypeId}(h:P.underlying t=some (.pointer pe))(w:World):(Op.equal t (.pointer none) (.pointer none)).run P w=.ok true w:=Qba6 h 9999 w
theorem Qb6u {tag:Nat}{bo:BinOp}{x y:Opd}{x' y':Operand}{t t':TypeId}(hm:o.op=.binOp bo t x' y' t')(ht:mTag P tag t=true)(hx:mO x x'=true)(hy:mO y y'=true)
  (hs:Sat H g w) (he:EnvOk w g e a) (hp:p=true) (ho:(FOp.bin tag bo x y).obl p e H):FOk P H g w e a o (.bin tag bo x y):=by
 simp only[FOp.obl]at ho;obtain⟨h1,h2,h3,h4,h5⟩:=ho;have gY:=BS he hx hp h1;have jB:=BS he hy hp h2;rw[CH h3]at gY;rw[CH h4]at jB;have jL:=gY.aO;have gO:=jB.aO;have key:∀(u v:Value) (c d:C),RepC w g c u->RepC w g d v->binO tag bo c d->
   ∃r,(do eqGuard bo t x' y' u v;binOp bo t u v:Sem Value).run P w=.ok r w/\RepC w g (binC bo c d) r:=by
  intro u v c d hu hv hO;unfold binO at hO;split at hO
  case h_1=>
   obtain⟨rfl,hr⟩:=hO;rw[hu.aH,hv.aH];exact⟨_,by simp[C6,binOp,Op.intArith];try rfl,by rw[I6 hr];exact .int _ _⟩
  case h_2=>
   obtain⟨rfl,hr⟩:=hO;rw[hu.aH,hv.aH];exact⟨_,by simp[C6,binOp,Op.intArith];try rfl,by rw[I6 hr];exact .int _ _⟩
  case h_3=>
   obtain⟨rfl,hr⟩:=hO;rw[hu.aH,hv.aH];exact⟨_,by simp[C6,binOp,Op.intArith];try rfl,by rw[I6 hr];exact .int _ _⟩
  case h_4=>
   obtain⟨rfl,h0,hr⟩:=hO;rw[hu.aH,hv.aH];exact⟨_,by simp[C6,binOp,Op.intDiv,h0];try rfl,by rw[I6 hr];exact .int _ _⟩
  case h_5=>
   obtain⟨rfl,h0⟩:=hO;rw[hu.aH,hv.aH];exact⟨_,by simp[C6,binOp,Op.intDiv,h0];try rfl,.int _ _⟩
  case h_6=>
   subst hO;rw[hu.aH,hv.aH];exact⟨_,by simp[C6,binOp,Op.intBits];try rfl,.int _ _⟩
  case h_7=>
   subst hO;rw[hu.aH,hv.aH];exact⟨_,by simp[C6,binOp,Op.intBits];try rfl,.int _ _⟩
  case h_8=>
   subst hO;rw[hu.aH,hv.aH];exact⟨_,by simp[C6,binOp,Op.intBits];try rfl,.int _ _⟩
  case h_9=>
   subst hO;rw[hu.aH,hv.aH];exact⟨_,by simp[C6,binOp,Op.intCmp];try rfl,.bool _⟩
  case h_10=>
   subst hO;rw[hu.aH,hv.aH];refine⟨.bool (!decide (_=_)),?_,.bool _⟩;simp[C6,binOp,Op.intCmp,bne];rfl
  case h_11=>
   subst hO;rw[hu.aH,hv.aH];exact⟨_,by simp[C6,binOp,Op.intCmp];try rfl,.bool _⟩
  case h_12=>
   subst hO;rw[hu.aH,hv.aH];exact⟨_,by simp[C6,binOp,Op.intCmp];try rfl,.bool _⟩
  case h_13=>
   subst hO;rw[hu.aH,hv.aH];exact⟨_,by simp[C6,binOp,Op.intCmp];try rfl,.bool _⟩
  case h_14=>
   subst hO;rw[hu.aH,hv.aH];exact⟨_,by simp[C6,binOp,Op.intCmp];try rfl,.bool _⟩
  case h_15=>
   subst hO;rw[hu.bx,hv.bx];have hb:P.underlying t=some .bool:=by
    simp only[mTag]at ht;split at ht <;> simp_all
   exact⟨_,by simp only[Sem.run_bind,C6 _ _ _ _ (.bool _) (.bool _) ZD ZD,Result.andThen_ok,binOp,Q75 hb];rfl,.bool _⟩
  case h_16=>
   subst hO;rw[hu.bx,hv.bx];have hb:P.underlying t=some .bool:=by
    simp only[mTag]at ht;split at ht <;> simp_all
   exact⟨_,by simp only[Sem.run_bind,C6 _ _ _ _ (.bool _) (.bool _) ZD ZD,Result.andThen_ok,binOp,Q75 hb];rfl,.bool _⟩
  case h_17=>
   rename_i s s'
   rw[hu.str_inv.1,hv.str_inv.1];rw[E3]at hO;refine⟨.string (⟨s.toArray⟩++⟨s'.toArray⟩),?_,?_⟩
   ·simp only[Sem.run_bind,C6 _ _ _ _ (.string _) (.string _) ZD ZD,Result.andThen_ok,binOp,Op.stringOp,FA];rw[if_neg (by simp[IntKind.max,IntKind.signed,IntKind.bits];omega)];rfl
   ·have:(⟨s.toArray⟩++⟨s'.toArray⟩:ByteArray)=⟨(s++s').toArray⟩:=by
     apply Ja8;simp
    rw[this];exact .str _ (by simp[E3];omega)
  case h_18=>
   rw[hu.str_inv.1,hv.str_inv.1];refine⟨_,by simp only[Sem.run_bind,C6 _ _ _ _ (.string _) (.string _) ZD ZD,Result.andThen_ok,binOp,Op.stringOp,LU];rfl,?_⟩
   rename_i s s'
   rw[show (s == s')=decide (s=s') from by rw[Jbj];simp];exact .bool _
  case h_19=>
   rw[hu.str_inv.1,hv.str_inv.1];refine⟨_,by simp only[Sem.run_bind,C6 _ _ _ _ (.string _) (.string _) ZD ZD,Result.andThen_ok,binOp,Op.stringOp,LU];rfl,?_⟩
   rename_i s s'
   rw[show (s == s')=decide (s=s') from by rw[Jbj];simp];exact .bool _
  case h_20=>
   obtain⟨rfl,hO⟩:=hO;rw[hv.pnil_inv];obtain⟨pe,hb⟩:∃pe,P.underlying t=some (.pointer pe):=by
    simp only[mTag]at ht;split at ht <;> simp_all
   rcases hO with hO|rfl
   ·obtain⟨b,of,rfl⟩:=hu.ptr_inv hO;refine⟨_,by simp only[Sem.run_bind,C6 _ _ _ _ (.pointer _) (.pointer _) ZD ZD,Result.andThen_ok,binOp,Pe hb];rfl,?_⟩;cases c <;> simp[C.isPtr]at hO <;> exact .bool _
   ·rw[hu.pnil_inv];exact⟨_,by simp only[Sem.run_bind,C6 _ _ _ _ (.pointer _) (.pointer _) ZD ZD,Result.andThen_ok,binOp,Pf hb];rfl,.bool _⟩
  case h_21=>
   obtain⟨rfl,hO⟩:=hO;rw[hv.pnil_inv];obtain⟨pe,hb⟩:∃pe,P.underlying t=some (.pointer pe):=by
    simp only[mTag]at ht;split at ht <;> simp_all
   rcases hO with hO|rfl
   ·obtain⟨b,of,rfl⟩:=hu.ptr_inv hO;refine⟨_,by simp only[Sem.run_bind,C6 _ _ _ _ (.pointer _) (.pointer _) ZD ZD,Result.andThen_ok,binOp,Pe hb];rfl,?_⟩;cases c <;> simp[C.isPtr]at hO <;> exact .bool _
   ·rw[hu.pnil_inv];exact⟨_,by simp only[Sem.run_bind,C6 _ _ _ _ (.pointer _) (.pointer _) ZD ZD,Result.andThen_ok,binOp,Pf hb];rfl,.bool _⟩
  case h_22=>exact hO.elim
 obtain⟨r,cI,ey⟩:=key _ _ _ _ jL gO h5;refine .mk' hs (v:=r) ?_ ?_ trivial
 ·simp only[execOp,hm,Sem.run_bind]at cI⊢;simp only[cI];rfl
 ·exact .c _ _ ey
theorem Qb7c {x:Opd}{x':Operand}{t:TypeId}(hm:o.op=.unOp .not t x')(hx:mO x x'=true)(hs:Sat H g w)(he:EnvOk w g e a)(hp:p=true)
  (ho:(FOp.not x).obl p e H):FOk P H g w e a o (.not x):=by
 simp only[FOp.obl]at ho;obtain⟨h1,h2⟩:=ho;have hr:=BS he hx hp h1;split at h2
 ·rename_i b hv
  rw[hv]at hr;have hb:=hr.aO.bx;refine .mk' hs (v:=.bool (!b)) (by simp[execOp,hm,hb,Op.unary]) ?_ trivial;simp only[FOp.val,hv];exact .c _ _ (.bool _)
 ·exact h2.elim
theorem LB {α:Type}(l:List α)(i j:Nat):(l.drop i)[j]? = l[i+j]?:=by simp[Jr]
theorem Qb60 {off:Nat}{x:Opd}{x':Operand}{s:TypeId}{k:Nat}{fs:Array Field}{f:Field}{i:TypeInfo}(hm:o.op=.fieldAddr s x' k)(hu:P.underlying s=some (.struct fs))
  (hf:fs[k]? = some f) (nV:f.offset=off) (hi:P.info? f.type=some i) (hz:i.size≠0) (hx:mO x x'=true)
  (hs:Sat H g w) (he:EnvOk w g e a) (hp:p=true) (ho:(FOp.fad off x).obl p e H):FOk P H g w e a o (.fad off x):=by
 simp only[FOp.obl]at ho;obtain⟨h1,h2⟩:=ho;have hr:=BS he hx hp h1;have run:∀b q,a.eval x'=.pointer (some ⟨b,q,none⟩)->(execOp a.eval o).run P w=.ok (.value (.pointer (some ⟨b,q+off,none⟩))) w:=by
  intro b q hq;simp[execOp,hm,hq,Instr.fieldAt,BT hu,hf,Instr.sureAddr,fieldPlace,CD hi,hz,DI,nV]
 generalize hq:a.eval x'=vv at hr;split at h2
 ·rename_i cells hv
  rw[hv]at hr
  cases hr.aO with
  |pp _ b q val df hc jR=>
   refine .mk' hs (run b q hq) ?_ trivial;simp only[FOp.val,hv,V.c1,fadC];refine .c _ _ (.pp _ b (q+off) (λj=>val (off+j)) df (λj c hj=>?_) (λj c hj=>?_))
   ·rw[LB]at hj;rw[Jat];exact hc _ _ hj
   ·rw[LB]at hj;exact jR _ _ hj
 ·rename_i l kk hv
  rw[hv]at hr
  cases hr.aO with
  |ptr _ _ b sz base bP=>
   refine .mk' hs (run b _ hq) ?_ trivial;simp only[FOp.val,hv,V.c1,fadC];rw[Jat];exact .c _ _ (.ptr _ _ b sz base bP)
 ·rename_i sl sz ii kk hv
  rw[hv]at hr
  cases hr.aO with
  |ep _ _ _ _ b q n cap eK dx dH=>
   refine .mk' hs (run b _ hq) ?_ trivial;simp only[FOp.val,hv,V.c1,fadC];rw[Jat];exact .c _ _ (.ep _ _ _ _ b q n cap eK dx dH)
 ·exact h2.elim
theorem YN {v:V}(h:Dv v):v=.c (.int .i64 (BL v)):=by
 unfold Dv at h;split at h
 ·subst h;rfl
 ·exact h.elim
theorem YM {v:V}(h:Fo v):∃k,v=.c (.int k (BL v)):=by
 unfold Fo at h;split at h
 ·exact⟨_,rfl⟩
 ·exact h.elim
theorem DO {x:Opd}{y:Operand}(he:EnvOk w g e a)(h:mO x y=true)(hp:p=true)(hf:x.fine p e)(hi:Dv (x.v e)) :
  a.eval y=.int .i64 (BL (x.v e)):=by
 have hr:=BS he h hp hf;rw[YN hi]at hr;exact hr.aO.aH
theorem Qb63 {sz:Nat}{x y:Opd}{x' y':Operand}{t el:TypeId}{i:TypeInfo}(hm:o.op=.indexAddr t x' y')(hu:P.underlying t=some (.slice el))
  (hi:P.info? el=some i) (hz:i.size=sz) (hx:mO x x'=true) (hy:mO y y'=true)
  (hs:Sat H g w) (he:EnvOk w g e a) (hp:p=true) (ho:(FOp.iad sz x y).obl p e H):FOk P H g w e a o (.iad sz x y):=by
 simp only[FOp.obl]at ho;obtain⟨h1,h2,h3,h4,h5,h6,h7,h8⟩:=ho;have hr:=BS he hx hp h1;have hn:=DO he hy hp h2 h6;rw[CH h3]at hr;obtain⟨b0,cap,hv,r1,r2,r3,r4⟩:=G7 hs hr.aO h4;obtain⟨b,off,rfl,r5⟩:=r4 ZB;refine .mk' hs (v:=.pointer (some ⟨b,off+(BL (y.v e)).toNat * sz+0,none⟩)) ?_ ?_ trivial
 ·simp only[execOp,hm,hv,hn,Instr.indexAt,Sem.run_bind,asIntOf,Sem.run_pure,Result.andThen_ok,BT hu];rw[if_pos ⟨h7,ZB⟩];simp[CD hi,hz,DI]
 ·simp only[FOp.val];refine .c _ _ (.ep _ _ _ _ b off (ay (x.v e).c1) cap ?_ h5 h8);rw[<-hv];exact hr.aO
theorem R6 (f:Nat->Value)(n j:Nat)(u:Value)(h:(((List.range n).map f))[j]? = some u):j<n/\u=f j:=by
 simp only[Jn]at h
 cases hj:(List.range n)[j]? with
 |none=>rw[hj]at h;simp at h
 |some m=>
  rw[hj]at h;rw[Jac]at hj;obtain⟨h1,h2⟩:=hj;simp only[List.getElem_range]at h2;subst h2;simp only[Jbe]at h1;simp at h;exact⟨h1,h.symm⟩
theorem Ky {cs:List C}(h:ak cs=true){j:Nat}{c:C}(hj:cs[j]? = some c):c.ai=false:=by
 unfold ak at h;rw[Jau]at h;have:=h c (Jg hj);simpa using this
theorem PX {n:Nat}{agg:Bool}{x:Opd}{x':Operand}{t:TypeId}{d:TypeDesc}{i:TypeInfo}(hm:o.op=.load t x')(hu:P.underlying t=some d)(hi:P.info? t=some i)
  (ha:D1 d=agg) (hn:agg=true->i.size=n) (cO:agg=false->n=1) (hx:mO x x'=true)
  (hs:Sat H g w) (he:EnvOk w g e a) (hp:p=true) (ho:(FOp.ld n agg x).obl p e H):∃v,(execOp a.eval o).run P w=.ok (.value v) w/\RepV w g ((FOp.ld n agg x).val e H) v:=by
 simp only[FOp.obl]at ho;obtain⟨h1,h2,h3,h4,h5⟩:=ho;have hr:=BS he hx hp h1;rw[CH h2]at hr;obtain⟨b,q,hv,hc⟩:=N3 hs hr.aO h3;have bZ:∀j,j<n->∃c,(DE H (x.v e).c1)[j]? = some c/\w.cell? ⟨b,q+j,none⟩=some (getV w b q j)/\RepC w g c (getV w b q j):=by
  intro j hj;have b6:j<(DE H (x.v e).c1).length:=ZB
  have hg:(DE H (x.v e).c1)[j]? = some (DE H (x.v e).c1)[j]:=Jd b6;have hw:((DE H (x.v e).c1)[j]).ai=false:=Ky h5 (j:=j) (by rw[Jp,if_pos hj];exact hg);obtain⟨u,e1,e2⟩:=hc j _ hg hw;refine⟨_,hg,?_,?_⟩
  ·rw[getV,e1];rfl
  ·rw[getV,e1];exact e2
 have cE:=HP (t:=t) hu hi w b q n (getV w b q) (λh=>hn (ha▸h)) (λh=>cO (ha▸h)) (λj hj=>(bZ j hj).choose_spec.2.1);refine⟨if D1 d then .agg ((List.range n).map (getV w b q)).toArray else getV w b q 0,?_,?_⟩
 ·simp only[execOp,hm,hv,Instr.loadAt,Instr.sureAddr,Sem.run_bind,Sem.run_pure,Result.andThen_ok,cE]
 ·simp only[FOp.val,D7];rw[ha]
  cases agg with
  |true=>
   simp only[if_true];refine .ag _ _ ZG λj c u hj iS=>?_;obtain⟨mz,rfl⟩:=R6 _ _ _ _ iS;obtain⟨c',e1,e2,e3⟩:=bZ j mz;rw[Jp,if_pos mz,e1]at hj;simp at hj;subst hj;exact e3
  |false=>
   have yh:=cO rfl;subst yh;obtain⟨c',e1,e2,e3⟩:=bZ 0 ZB;simp only[Jt,if_false];have:((DE H (x.v e).c1).take 1).headD .unk=c':=by
    cases hb:DE H (x.v e).c1 with
    |nil=>rw[hb]at e1;simp at e1
    |cons c r=>rw[hb]at e1;simp at e1;simp[e1]
   rw[this];exact .c _ _ e3
theorem s_ld {n:Nat}{agg:Bool}{x:Opd}{x':Operand}{t:TypeId}{d:TypeDesc}{i:TypeInfo}(hm:o.op=.load t x')(hu:P.underlying t=some d)(hi:P.info? t=some i)
  (ha:D1 d=agg) (hn:agg=true->i.size=n) (cO:agg=false->n=1) (hx:mO x x'=true)
  (hs:Sat H g w) (he:EnvOk w g e a) (hp:p=true) (ho:(FOp.ld n agg x).obl p e H):FOk P H g w e a o (.ld n agg x):=by
 obtain⟨v,h1,h2⟩:=PX hm hu hi ha hn cO hx hs he hp ho;exact .mk' hs h1 h2 trivial
theorem Qb7b {x:Opd}{x':Operand}(hm:o.op=.nilCheck x')(hx:mO x x'=true)
  (hs:Sat H g w) (he:EnvOk w g e a) (hp:p=true) (ho:(FOp.nck x).obl p e H):FOk P H g w e a o (.nck x):=by
 simp only[FOp.obl]at ho;obtain⟨h1,h2⟩:=ho;have hr:=BS he hx hp h1;have qA:(x.v e).isC->(x.v e).c1.isPtr=true->FOk P H g w e a o (.nck x):=by
  intro hc hq;have bf:=hr;rw[CH hc]at bf;obtain⟨b,q,hv⟩:=bf.aO.ptr_inv hq;exact .mk' hs (v:=a.eval x') (by simp[execOp,hm,hv]) hr trivial
 split at h2
 ·rename_i hv;exact qA (by rw[hv];trivial) (by rw[hv];rfl)
 ·rename_i hv;exact qA (by rw[hv];trivial) (by rw[hv];rfl)
 ·rename_i hv;exact qA (by rw[hv];trivial) (by rw[hv];rfl)
 ·rename_i hv
  have bf:=hr;rw[hv]at bf;obtain⟨vs,hq,_⟩:=bf.aO.fn_inv;exact .mk' hs (v:=a.eval x') (by simp[execOp,hm,hq]) hr trivial
 ·exact h2.elim
theorem Qb68 {x:Opd}{x':Operand}{t el:TypeId}{ats:Array TypeId}(hm:o.op=.call { callee:=.builtin .len,args:=#[x'],argTypes:=ats })(br:ats[0]? = some t)
  (hu:P.underlying t=some (.slice el)) (hx:mO x x'=true)
  (hs:Sat H g w) (he:EnvOk w g e a) (hp:p=true) (ho:(FOp.len x).obl p e H):FOk P H g w e a o (.len x):=by
 simp only[FOp.obl]at ho;obtain⟨h1,h2,h3⟩:=ho;have hr:=BS he hx hp h1;rw[CH h2]at hr;obtain⟨b0,cap,hv,r1,r2,r3,r4⟩:=G7 hs hr.aO h3;refine .mk' hs (v:=.int .i64 (ay (x.v e).c1)) ?_ (.c _ _ (.int _ _)) r1;simp[execOp,hm,resolve,invoke,builtin,Builtin.len_,br,hv,BT hu,goInt]
theorem s_lenx {x:Opd}{x':Operand}{t el:TypeId}{ats:Array TypeId}(hm:o.op=.call { callee:=.builtin .len,args:=#[x'],argTypes:=ats })(br:ats[0]? = some t)
  (hu:P.underlying t=some (.slice el)) (hx:mO x x'=true)
  (hs:Sat H g w) (he:EnvOk w g e a) (hp:p=true) (ho:(FOp.lenx x).obl p e H):FOk P H g w e a o (.lenx x):=by
 simp only[FOp.obl]at ho;obtain⟨h1,h2,h3⟩:=ho;have hr:=BS he hx hp h1;rw[CH h2]at hr;have key:∃(b0:Option Addr) (cap:Nat),a.eval x'=.slice b0 (lenX (x.v e).c1) cap/\lenX (x.v e).c1<2 ^ 63:=by
  rcases h3 with h3|h3
  ·obtain⟨b0,cap,hv,r1,r2,r3,r4⟩:=G7 hs hr.aO h3;have:lenX (x.v e).c1=ay (x.v e).c1:=by
    generalize (x.v e).c1=c at h3;cases c <;> first|rfl|simp[aZ]at h3
   rw[this];exact⟨b0,cap,hv,by rw[E3]at r1;omega⟩
  ·have du:=hr.aO;generalize (x.v e).c1=c at h3 du⊢;generalize a.eval x'=xv at du⊢
   cases du with
   |slb n a0 cap h=>exact⟨_,_,rfl,h⟩
   |_=>simp[Mi]at h3
 obtain⟨b0,cap,hv,hl⟩:=key;refine .mk' hs (v:=.int .i64 (lenX (x.v e).c1)) ?_ (.c _ _ (.int _ _)) hl;simp[execOp,hm,resolve,invoke,builtin,Builtin.len_,br,hv,BT hu,goInt]
theorem Qb5p {x:Opd}{x':Operand}{t:TypeId}{ats:Array TypeId}(hm:o.op=.call { callee:=.builtin .len,args:=#[x'],argTypes:=ats })(br:ats[0]? = some t)
  (hu:P.underlying t=some .string) (hx:mO x x'=true)
  (hs:Sat H g w) (he:EnvOk w g e a) (hp:p=true) (ho:(FOp.lens x).obl p e H):FOk P H g w e a o (.lens x):=by
 simp only[FOp.obl]at ho;obtain⟨h1,h2⟩:=ho;have hr:=BS he hx hp h1;split at h2
 ·rename_i s hv
  rw[hv]at hr;obtain⟨hq,hl⟩:=hr.aO.str_inv;refine .mk' hs (v:=.int .i64 s.length) ?_ ZW (by simp only[FOp.fct,hv];exact hl);simp[execOp,hm,resolve,invoke,builtin,Builtin.len_,br,hq,BT hu,goInt,FA]
 ·exact h2.elim
theorem s_lensx {x:Opd}{x':Operand}{t:TypeId}{ats:Array TypeId}(hm:o.op=.call { callee:=.builtin .len,args:=#[x'],argTypes:=ats })(br:ats[0]? = some t)
  (hu:P.underlying t=some .string) (hx:mO x x'=true)
  (hs:Sat H g w) (he:EnvOk w g e a) (hp:p=true) (ho:(FOp.lensx x).obl p e H):FOk P H g w e a o (.lensx x):=by
 simp only[FOp.obl]at ho;obtain⟨h1,h2⟩:=ho;have hr:=BS he hx hp h1;split at h2
 ·rename_i s hv
  rw[hv]at hr;obtain⟨hq,hl⟩:=hr.aO.str_inv;refine .mk' hs (v:=.int .i64 s.length) ?_ ZW (by simp only[FOp.fct,hv];exact hl);simp[execOp,hm,resolve,invoke,builtin,Builtin.len_,br,hq,BT hu,goInt,FA]
 ·rename_i n hv
  rw[hv]at hr;have du:=hr.aO;generalize hq:a.eval x'=xv at du
  cases du with
  |stb s h=>
   refine .mk' hs (v:=.int .i64 s.size) ?_ ZW (by simp only[FOp.fct,hv];exact h);simp[execOp,hm,resolve,invoke,builtin,Builtin.len_,br,hq,BT hu,goInt]
 ·exact h2.elim
theorem GO {agg:Bool}{ks:List C}{rows:List (List C)}{v:Value}(h:RepC w g (.cm agg ks rows) v):∃b ms clock,v=.map (some b)/\w.heap[b]? = some (.map ms clock)/\ms.size=(Cl H (.cm agg ks rows)).length/\(Cl H (.cm agg ks rows)).length<=LIM/\
   (∀(i:Nat) (x:C×V) (m:MapEntry),(Cl H (.cm agg ks rows))[i]? = some x->ms[i]? = some m->RepE w g x m)/\
   (∀(i j:Nat) (m m':MapEntry),ms[i]? = some m->ms[j]? = some m'->(m.born=m'.born\/m.key=m'.key)->i=j):=by
 cases h with
 |cm _ _ _ b ms clock val hp hb bp cA hl hd hm hk hv=>
  have am:(Cl H (.cm agg ks rows)).length=ks.length:=by simp[Cl];omega
  refine⟨b,ms,clock,rfl,hb,by rw[am];exact bp,by rw[am];exact hl,λi x m h1 h2=>?_,hd⟩;simp only[Cl,Jn]at h1;obtain⟨e,he,rfl⟩:=Option.map_eq_some_iff.1 h1;obtain⟨e1,e2⟩:=Jao.1 he;refine⟨hk i _ m e1 h2,?_⟩;obtain⟨k1,k2⟩:=hm i _ m e2 h2;obtain⟨ec,er⟩:=e;simp only at e1 e2 k1 k2⊢
  cases agg with
  |true=>
   simp only[if_true]at k1;rw[k1];refine .ag _ _ ZD λj c u h3 h4=>?_;obtain⟨_,rfl⟩:=R6 _ _ _ _ h4;exact hv i _ j c e2 h3
  |false=>
   have oF:=k2 rfl
   match er,oF with
   |[c],_=>
    simp only[Jt,if_false]at k1;rw[k1];exact .c _ _ (hv i _ 0 c e2 rfl)
theorem map_rep (hs:Sat H g w){c:C}{v:Value}(h:RepC w g c v)(ho:Dw H c) :
  (v=.map none/\Cl H c=[])\/∃b ms clock,v=.map (some b)/\w.heap[b]? = some (.map ms clock)/\ms.size=(Cl H c).length/\(Cl H c).length<=LIM/\
   ∀(i:Nat) (x:C×V) (m:MapEntry),(Cl H c)[i]? = some x->ms[i]? = some m->RepE w g x m:=by
 have h0:=h
 cases h with
 |mp l b bP=>
  simp only[Dw]at ho;split at ho
  ·rename_i n es hH
   have bg:=hs.objs l;rw[hH]at bg;obtain⟨b',ms,clock,k1,k2,k3,k4,k5,k6,_⟩:=bg;rw[bP]at k1;simp only[Jb,Jo,and_true]at k1;subst k1;simp only[Cl,hH];exact .inr ⟨b,ms,clock,rfl,k3,k4,k5,k6⟩
  ·exact ho.elim
 |mnil=>exact .inl ⟨rfl,rfl⟩
 |cm=>
  obtain⟨b,ms,clock,q1,q2,q3,q4,q5,_⟩:=GO (H:=H) h0;exact .inr ⟨b,ms,clock,q1,q2,q3,q4,q5⟩
 |_=>simp[Dw]at ho
theorem Qb6z {x:Opd}{x':Operand}{i:Nat}(hm:o.op=.extract x' i)(hx:mO x x'=true)
  (hs:Sat H g w) (he:EnvOk w g e a) (hp:p=true) (ho:(FOp.ext x i).obl p e H):FOk P H g w e a o (.ext x i):=by
 simp only[FOp.obl]at ho;obtain⟨h1,h2⟩:=ho;have hr:=BS he hx hp h1;split at h2
 ·rename_i xs hv
  rw[hv]at hr;obtain⟨vs,hq,hl,hh⟩:=hr.tup_inv;have hi:i<vs.length:=ZB
  refine .mk' hs (v:=vs[i]) ?_ ?_ trivial
  ·simp[execOp,hm,Instr.extract,hq,hi]
  ·simp only[FOp.val,hv];refine hh i _ _ ?_ (Jd hi);rw[J1,Jd h2];rfl
 ·exact h2.elim
theorem Qb6y {x:Opd}{x':Operand}{k:IntKind}{src dst:TypeId}{d:TypeDesc}(hm:o.op=.convert src dst x')(hu:P.underlying dst=some (.int k))(iS:P.underlying src=some d)(hx:mO x x'=true)
  (hs:Sat H g w) (he:EnvOk w g e a) (hp:p=true) (ho:(FOp.cvt k x).obl p e H):FOk P H g w e a o (.cvt k x):=by
 simp only[FOp.obl]at ho;obtain⟨h1,h2,h3⟩:=ho;have hr:=BS he hx hp h1;obtain⟨k',hk⟩:=YM h2;rw[hk]at hr;have hq:=hr.aO.aH;refine .mk' hs (v:=.int k (BL (x.v e))) ?_ (.c _ _ (.int _ _)) trivial;simp[execOp,hm,hq,convert,BT hu,BT iS,Conv.intToInt,I6 h3]
theorem s_mx {x y:Opd}{x' y':Operand}{ats:Array TypeId}(hm:o.op=.call { callee:=.builtin .max,args:=#[x',y'],argTypes:=ats })(hx:mO x x'=true)(hy:mO y y'=true)
  (hs:Sat H g w) (he:EnvOk w g e a) (hp:p=true) (ho:(FOp.mx x y).obl p e H):FOk P H g w e a o (.mx x y):=by
 simp only[FOp.obl]at ho;obtain⟨h1,h2,h3,h4⟩:=ho;have q1:=DO he hx hp h1 h3;have q2:=DO he hy hp h2 h4;refine .mk' hs (v:=.int .i64 (if BL (y.v e) > BL (x.v e)then BL (y.v e)else BL (x.v e))) ?_ (.c _ _ (.int _ _)) trivial;simp[execOp,hm,resolve,invoke,builtin,Builtin.max_,q1,q2,Builtin.max2]
theorem s_mn {x y:Opd}{x' y':Operand}{ats:Array TypeId}(hm:o.op=.call { callee:=.builtin .min,args:=#[x',y'],argTypes:=ats })(hx:mO x x'=true)(hy:mO y y'=true)
  (hs:Sat H g w) (he:EnvOk w g e a) (hp:p=true) (ho:(FOp.mn x y).obl p e H):FOk P H g w e a o (.mn x y):=by
 simp only[FOp.obl]at ho;obtain⟨h1,h2,h3,h4⟩:=ho;have q1:=DO he hx hp h1 h3;have q2:=DO he hy hp h2 h4;refine .mk' hs (v:=.int .i64 (if BL (y.v e)<BL (x.v e)then BL (y.v e)else BL (x.v e))) ?_ (.c _ _ (.int _ _)) trivial;simp[execOp,hm,resolve,invoke,builtin,Builtin.min_,q1,q2,Builtin.min2]
theorem Qb65 {x y:Opd}{x' y':Operand}{t:TypeId}(hm:o.op=.index t x' y')(hu:P.underlying t=some .string)(hx:mO x x'=true)(hy:mO y y'=true)
  (hs:Sat H g w) (he:EnvOk w g e a) (hp:p=true) (ho:(FOp.idx x y).obl p e H):FOk P H g w e a o (.idx x y):=by
 simp only[FOp.obl]at ho;obtain⟨h1,h2,h3,h4⟩:=ho;have hr:=BS he hx hp h1;have q2:=DO he hy hp h2 h3;split at h4
 ·rename_i s hv
  rw[hv]at hr;obtain⟨hq,hl⟩:=hr.aO.str_inv;refine .mk' hs (v:=.int .u8 ((s.getD (BL (y.v e)).toNat 0).toNat)) ?_ ZW trivial;have hb:(⟨s.toArray⟩:ByteArray)[(BL (y.v e)).toNat]? = some (s.getD (BL (y.v e)).toNat 0):=by
   rw[getElem?_pos _ _ (by simpa[ByteArray.size]using h4.2)];rw[J1,Jd h4.2];rfl
  simp only[execOp,hm,hq,q2,Instr.index,Sem.run_bind,asIntOf,Sem.run_pure,Result.andThen_ok,BT hu,if_pos h4.1,hb]
 ·exact h4.elim
def El (g:G)(w:World)(g':G)(w':World)(l:Nat):Prop:=
 ∀b q,g.own b=some (l,q)->g'.own b=some (l,q)/\w'.heap[b]? = w.heap[b]?
theorem RepE.mono {g':G}{w':World}(aS:Le g w g' w'){x:C×V}{m:MapEntry}(h:RepE w g x m):RepE w' g' x m:=⟨h.1.mono aS,h.2.mono aS⟩
theorem SatObj.keep {H':Heap}{g':G}{w':World}(hs:Sat H g w)(aS:Le g w g' w'){l:Nat}(hk:El g w g' w' l)(hH:H' l=H l)
  (ou:∀m v left cur,H l=.iter (some (m,v)) left cur->∀v' es,H' m=.map v' es->(H m=.map v' es/\El g w g' w' m)\/∃v0 es0,H m=.map v0 es0/\v0<v') :
  SatObj H' g' w' l (H' l):=by
 have ho:=hs.objs l;rw[hH]
 cases hc:H l with
 |none=>exact trivial
 |st cells=>
  rw[hc]at ho;obtain⟨b,sz,T,cs,h1,h2,h3,h4,h5⟩:=ho;have k0:=hk b [] h2;refine⟨b,sz,T,cs,aS.io _ _ h1,k0.1,k0.2.trans h3,h4,λk c v e1 e2=>?_⟩;exact (h5 k c v e1 e2).move aS λq b' hb=>hk b' _ hb
 |vec sz rows=>
  rw[hc]at ho;rcases ho with ⟨q1,x,q2,q3⟩|⟨b,base,T,cs,val,h1,h2,h3,h4,h5,h6,h7,h8⟩
  ·exact .inl ⟨q1,x,aS.io _ _ q2,q3⟩
  have k0:=hk b [] h2;refine .inr ⟨b,base,T,cs,val,aS.io _ _ h1,k0.1,k0.2.trans h3,h4,h5,h6,h7,λi row j c e1 e2=>?_⟩;exact (h8 i row j c e1 e2).move aS λq b' hb=>hk b' _ hb
 |map v es=>
  rw[hc]at ho;obtain⟨b,ms,clock,h1,h2,h3,h4,h5,h6,h7,h8⟩:=ho;have k0:=hk b [] h2;exact⟨b,ms,clock,aS.io _ _ h1,k0.1,k0.2.trans h3,h4,h5,λi x m e1 e2=>(h6 i x m e1 e2).mono aS,h7,h8⟩
 |gl b cells=>
  rw[hc]at ho;obtain⟨sz,val,h1,h2,h3,h4⟩:=ho;refine⟨sz,val,aS.io _ _ h1,(aS.per b h2).1,λj c e=>?_,λj c e=>(h4 j c e).mono aS⟩;rw[Vg (w:=w) (aS.per b h2).2];exact h3 j c e
 |sit s q=>
  rw[hc]at ho;obtain⟨b,h1,h2,h3,h4⟩:=ho;have k0:=hk b [] h2;exact⟨b,aS.io _ _ h1,k0.1,k0.2.trans h3,h4⟩
 |iter m left cur=>
  rw[hc]at ho
  cases m with
  |none=>
   obtain⟨b,si,se,la,h1,h2,h3,h4⟩:=ho;have k0:=hk b [] h2;exact⟨b,si,se,la,aS.io _ _ h1,k0.1,k0.2.trans h3,h4⟩
  |some mv=>
   obtain⟨m,ver⟩:=mv;obtain⟨b,mb,si,se,h1,h2,h3,h4,h5⟩:=ho;have k0:=hk b [] h2;refine⟨b,mb,si,se,aS.io _ _ h1,k0.1,k0.2.trans h3,aS.io _ _ h4,λv es hv=>?_⟩;rcases ou m ver left cur hc v es hv with ⟨a1,a2⟩|⟨v0,es0,a1,a2⟩
   ·obtain⟨b1,b2⟩:=h5 v es a1;refine⟨b1,λjR=>?_⟩;obtain⟨ms,c1,c2⟩:=b2 jR;refine⟨ms,?_,c2⟩;have hm:=hs.objs m;rw[a1]at hm;obtain⟨mb',ms',clock,d1,d2,d3,_⟩:=hm;rw[h4]at d1;simp only[Jb,Jo,and_true]at d1;subst d1;rw[(a2 mb [] d2).2];exact c1
   ·obtain⟨b1,b2⟩:=h5 v0 es0 a1;exact⟨ZB,λjR=>ZB⟩
theorem SatObj.keep_all {g':G}{w':World}(hs:Sat H g w)(aS:Le g w g' w')(hk:∀l,El g w g' w' l)(l:Nat):SatObj H g' w' l (H l):=
 SatObj.keep (H':=H) hs aS (hk l) rfl λm v left cur _ v' es hv=>.inl ⟨hv,hk m⟩
theorem Ef (hs:Sat H g w){b:Nat}{x:Nat×List Nat}(h:g.own b=some x):b<w.heap.size:=by
 rcases Jh b w.heap.size with h'|h'
 ·exact h'
 ·rw[(hs.fresh b h').2]at h;simp at h
theorem GK (hs:Sat H g w){b:Nat}(h:g.per b=true):b<w.heap.size:=by
 rcases Jh b w.heap.size with h'|h'
 ·exact h'
 ·rw[(hs.fresh b h').1]at h;simp at h
theorem Fm (w:World)(x:Go.Obj){b:Nat}(h:b<w.heap.size):(w.alloc x).heap[b]? = w.heap[b]?:=by
 simp only[World.alloc,J6];rw[if_neg ZB]
theorem DR (w:World)(x:Go.Obj):(w.alloc x).heap[w.heap.size]? = some x:=by
 simp only[World.alloc,J6,if_true]
theorem Hw {w:World}{b:Nat}{T:TypeId}{n:Nat}(h:w.shape? b=some (T,n)):b<w.heap.size:=by
 unfold World.shape? at h;rcases Jh b w.heap.size with h'|h'
 ·exact h'
 ·simp[Jm h']at h
theorem SF {w w':World}{b:Nat}(h:w'.heap[b]? = w.heap[b]?):w'.shape? b=w.shape? b:=by simp only[World.shape?,h]
def G.newPer (g:G)(nb:Nat):G:={ g with per:=λb=>if b=nb then true else g.per b }
theorem Q7e (hs:Sat H g w)(x:Go.Obj):Stp H g w H (g.newPer w.heap.size) (w.alloc x):=by
 have aS:Le g w (g.newPer w.heap.size) (w.alloc x):=by
  refine⟨λb hb=>⟨?_,Fm _ _ (GK hs hb)⟩,λ_ _ h=>h,ZD,λb T n hn=>?_,rfl,rfl,rfl⟩
  ·simp only[G.newPer];split
   ·rfl
   ·exact hb
  ·rw[SF (Fm _ _ (Hw hn))];exact hn
 have hk:∀l,El g w (g.newPer w.heap.size) (w.alloc x) l:=λl b q hb=>⟨hb,Fm _ _ (Ef hs hb)⟩;refine⟨aS,λl _ hn=>⟨hn,λb q hb=>hk l b q hb⟩,⟨λb hb=>?_,hs.names,λb y hb=>?_,hs.named,λl=>SatObj.keep_all hs aS hk l⟩⟩
 ·simp only[World.size_alloc]at hb;refine⟨?_,(hs.fresh b ZB).2⟩;simp only[G.newPer];rw[if_neg ZB];exact (hs.fresh b ZB).1
 ·have aW:g.own b=some y:=hb;simp only[G.newPer];have:=Ef hs aW;rw[if_neg ZB];exact hs.excl b y aW
theorem KI (hs:Sat H g w):Stp H g w H g w.drew:=by
 have aS:Le g w g w.drew:=⟨λ_ h=>⟨h,rfl⟩,λ_ _ h=>h,Jw _,λ_ _ _ h=>h,rfl,rfl,rfl⟩;have hk:∀l,El g w g w.drew l:=λl b q hb=>⟨hb,rfl⟩;exact⟨aS,λl _ hn=>⟨hn,λb q hb=>hk l b q hb⟩,⟨hs.fresh,hs.names,hs.excl,hs.named,λl=>SatObj.keep_all hs aS hk l⟩⟩
theorem Ph (w:World)(cs:Array Value)(T:TypeId)(j:Nat):(w.alloc (.cells cs T)).cell? ⟨w.heap.size,j,none⟩=cs[j]?:=
 World.cell?_alloc_new w cs T j
theorem Id {v:V}{u:Value}(h:RepV w g v u)(hn:v.cells≠[]) :
  u.cells.size=v.cells.length/\∀(j:Nat) (c:C) (x:Value),v.cells[j]? = some c->u.cells[j]? = some x->RepC w g c x:=by
 cases h with
 |c x v h=>
  have h1:=h.one;have hu:u.cells=#[u]:=by cases u <;> simp_all[Value.cells,Value.oneCell']
  rw[hu];refine⟨rfl,λj c y e1 e2=>?_⟩
  cases j with
  |zero=>simp[V.cells]at e1 e2;subst e1;subst e2;exact h
  |succ j=>simp[V.cells]at e1
 |ag cs vs hl hh=>
  refine⟨by simpa[Value.cells,V.cells]using hl,λj c y e1 e2=>hh j c y e1 (by simpa[Value.cells]using e2)⟩
 |_=>simp[V.cells]at hn
theorem Qb6w {x:Opd}{x':Operand}{t:TypeId}(hm:o.op=.box t x')(hx:mO x x'=true)
  (hs:Sat H g w) (he:EnvOk w g e a) (hp:p=true) (ho:(FOp.box x).obl p e H):FOk P H g w e a o (.box x):=by
 simp only[FOp.obl]at ho;obtain⟨h1,h2⟩:=ho;have hr:=BS he hx hp h1;obtain⟨hz,hc⟩:=Id hr h2;have aN:=Q7e hs (.cells (a.eval x').cells t);refine⟨.pointer (some ⟨w.heap.size,0,none⟩),w.alloc (.cells (a.eval x').cells t),g.newPer w.heap.size,?_,aN,?_,trivial⟩
 ·simp[execOp,hm,Instr.box,newVar,newRow]
 ·simp only[FOp.val];have b7:∀(j:Nat) (c:C),(x.v e).cells[j]? = some c->∃y,(a.eval x').cells[j]? = some y/\RepC w g c y:=by
   intro j c hj;have af:j<(a.eval x').cells.size:=by
    rw[hz];rcases Jh j (x.v e).cells.length with h|h
    ·exact h
    ·rw[Jf h]at hj;simp at hj
   exact⟨_,Jc af,hc j c _ hj (Jc af)⟩
  refine .c _ _ (.pp _ _ 0 (λj=>(a.eval x').cells.getD j undef) (by simp[G.newPer]) (λj c hj=>?_) (λj c hj=>?_))
  ·obtain⟨y,e1,e2⟩:=b7 j c hj;rw[J5,Ph];simp[e1]
  ·obtain⟨y,e1,e2⟩:=b7 j c hj;simp only[Je,e1,Jv];exact e2.mono aN.le
theorem Qb7a {f:Nat}{caps:List Opd}{caps':Array Operand}(hm:o.op=.makeFunc (.func f) #[] caps')(hl:caps.length=caps'.size)
  (hx:∀(j:Nat) (x:Opd) (y:Operand),caps[j]? = some x->caps'[j]? = some y->mO x y=true)
  (hs:Sat H g w) (he:EnvOk w g e a) (hp:p=true) (ho:(FOp.mkf f caps).obl p e H):FOk P H g w e a o (.mkf f caps):=by
 simp only[FOp.obl]at ho;refine .mk' hs (v:=.func (.func f) #[] (caps'.toList.map a.eval).toArray) ?_ ?_ trivial
 ·simp only[execOp,hm,Instr.makeFunc,Sem.run_bind,Sem.run_pure,Result.andThen_ok];congr 4 <;> (apply Jae;simp)
 ·simp only[FOp.val];refine .c _ _ (.fn f _ _ Za3 λj c u h1 h2=>?_);simp only[Jn]at h1 h2
  cases hj:caps[j]? with
  |none=>rw[hj]at h1;simp at h1
  |some x=>
   rw[hj]at h1;simp at h1;subst h1
   cases b6:caps'[j]? with
   |none=>simp[b6]at h2
   |some y=>
    simp[b6]at h2;subst h2;obtain⟨f1,f2⟩:=ho x (Jg hj);have:=BS he (hx j x y hj b6) hp f1;rw[CH f2]at this;exact this.aO
def mOpt:Option Opd->Option Operand->Bool
 |none,none=>true
 |some x,some y=>mO x y
 |_,_=>false
theorem EM (he:EnvOk w g e a)(hp:p=true){x:Option Opd}{y:Option Operand}(h:mOpt x y=true)(hf:optF p x e)(hi:optI x e) :
  y.map a.eval=(x.map λz=>BL (z.v e)).map λn=>Value.int .i64 n:=by
 cases x with
 |none=>cases y with
  |none=>rfl
  |some _=>simp[mOpt]at h
 |some x=>cases y with
  |none=>simp[mOpt]at h
  |some y=>
   simp only[mOpt]at h;simp only[optF]at hf;simp only[optI]at hi;simp only[Jq,DO he h hp hf hi]
theorem TP (isS:Bool)(len cap:Nat)(lo hi:Option Int)(vH:len<=cap)(hb:bnds lo hi len)(w:World) :
  (Instr.sliceBounds isS len cap (lo.map λn=>Value.int .i64 n) (hi.map λn=>Value.int .i64 n) none).run P w=.ok ((lo.getD 0).toNat,(hi.getD len).toNat,cap) w:=by
 obtain⟨b1,b2,b3⟩:=hb;unfold Instr.sliceBounds
 cases hi with
 |none=>
  cases lo with
  |none=>simp
  |some l=>
   simp only[Jv,Jy]at b1 b2 b3;simp only[Jq,J4,Sem.run_bind,Instr.sliceBound,asIntOf,Sem.run_pure,Result.andThen_ok];rw[if_pos ZB];simp
 |some h=>
  cases lo with
  |none=>
   simp only[Jv,Jy]at b1 b2 b3;simp only[Jq,J4,Sem.run_bind,Instr.sliceBound,asIntOf,Sem.run_pure,Result.andThen_ok];rw[if_pos ZB];simp
  |some l=>
   simp only[Jv]at b1 b2 b3;simp only[Jq,Sem.run_bind,Instr.sliceBound,asIntOf,Sem.run_pure,Result.andThen_ok];rw[if_pos ZB];simp only[Sem.run_pure,Result.andThen_ok];rw[if_pos ZB];simp
theorem Qb7d {x:Opd}{lo hi:Option Opd}{x':Operand}{lo' bR:Option Operand}{t el:TypeId}{i:TypeInfo}{sz:Nat}(hm:o.op=.slice t x' lo' bR none)(hu:P.underlying t=some (.slice el))
  (lj:P.info? el=some i) (hz:i.size=sz) (hx:mO x x'=true) (qT:mOpt lo lo'=true) (uw:mOpt hi bR=true)
  (hs:Sat H g w) (he:EnvOk w g e a) (hp:p=true) (ho:(FOp.sli sz x lo hi).obl p e H):FOk P H g w e a o (.sli sz x lo hi):=by
 simp only[FOp.obl]at ho;obtain⟨h1,h2,h3,h4,h5,h6,h7,h8,hb⟩:=ho;have hr:=BS he hx hp h1;have el:=EM he hp qT h2 h4;have eh:=EM he hp uw h3 h5;generalize hL:(lo.map λz=>BL (z.v e))=L at *;generalize hU:(hi.map λz=>BL (z.v e))=U at *;rw[CH h6]at hr;generalize hq:a.eval x'=vv at hr;have run:∀(ad:Option Addr) (len cap:Nat),vv=.slice ad len cap->len<=cap->bnds L U len->
   (execOp a.eval o).run P w=.ok (.value (.slice (if cap=(L.getD 0).toNat then ad else ad.map (·.add ((L.getD 0).toNat * sz))) ((U.getD len).toNat-(L.getD 0).toNat) (cap-(L.getD 0).toNat))) w:=by
  intro ad len cap hv vH hbb;simp only[execOp,hm,hq,hv,Instr.sliceAt,Sem.run_bind,BT hu,Result.andThen_ok,el,eh,J4,Instr.slice,TP (P:=P) true len cap L U vH hbb w,CD lj,hz,Sem.run_pure]
 have fin:∀r v,(execOp a.eval o).run P w=.ok (.value v) w->RepC w g r v->sliC L U (x.v e).c1=r->FOk P H g w e a o (.sli sz x lo hi):=by
  intro r v h1 h2 h3;refine .mk' hs h1 ?_ trivial;simp only[FOp.val,hL,hU,h3];exact .c _ _ h2
 generalize hc:(x.v e).c1=cc at *;have fH:=hr.aO
 cases fH with
 |bV fl sz' ad=>
  have aW:bnds L U 0:=hb;have cp:=aW;obtain⟨b1,b2,b3⟩:=cp;refine fin (sliC L U (.sl fl sz' [])) _ (run ad 0 0 rfl (Jw _) aW) ?_ rfl;have e1:(L.getD 0).toNat=0:=ZB
  have e2:(U.getD ((0:Nat):Int)).toNat=0:=ZB
  simp only[e1,e2,sliC];simp;exact .bV _ _ _
 |sl fl sz' rows b off cap val hl hf fm df ew s0 ni=>
  simp only[ay]at hb;simp only[C.aP]at h8;subst h8;obtain⟨b1,b2,b3⟩:=hb;refine fin (sliC L U (.sl fl sz' rows)) _ (run _ _ cap rfl fm ⟨b1,b2,b3⟩) ?_ rfl;simp only[sliC];generalize qU:(L.getD 0).toNat=ln;generalize qi:(U.getD (rows.length:Int)).toNat=un;have q1:ln<=un:=ZB
  have q2:un<=rows.length:=ZB
  have am:((rows.take un).drop ln).length=un-ln:=ZG
  have aC:∀(i:Nat) (row:List C),((rows.take un).drop ln)[i]? = some row->rows[ln+i]? = some row:=by
   intro i row hi;simp only[Jr,Jp]at hi;split at hi
   ·exact hi
   ·simp at hi
  by_cases cG:cap=ln
  ·rw[if_pos cG];have mj:(rows.take un).drop ln=[]:=Jx.1 ZB;have q3:un-ln=0:=ZB
   have q4:cap-ln=0:=ZB
   rw[mj,q3,q4];exact RepC.sl _ _ [] b off 0 val (by simp[E3]) ZD ZD df ZD ZD ZD
  ·rw[if_neg cG];simp only[Jq,DI];rw[<-am];refine .sl _ _ _ b _ _ (λi j=>val (ln+i) j) ZR (λiO=>?_) ZR df (λi row h=>ew _ _ (aC i row h)) (λi row j c h hj=>?_) (λi row j c h hj=>ni _ _ _ _ (aC i row h) hj)
   ·rw[Ja]at iO;rcases Bool.or_eq_true _ _▸iO.2 with h0|h0
    ·have:U=none:=(by simpa using h0);subst this;simp at qi;rw[am,hf iO.1];omega
    ·have:rows=[]:=(by simpa using h0);subst this;have:=hf iO.1;simp at this q2;omega
   ·have:=s0 _ _ _ _ (aC i row h) hj;rw[<-this];congr 2;rw[Jk];omega
 |bK l sz' st ad=>
  have aW:bnds L U 0:=hb;have cp:=aW;obtain⟨b1,b2,b3⟩:=cp;refine fin (sliC L U (.ah l sz' st 0)) _ (run ad 0 0 rfl (Jw _) aW) ?_ rfl;have e1:(L.getD 0).toNat=0:=ZB
  have e2:(U.getD ((0:Nat):Int)).toNat=0:=ZB
  simp only[e1,e2,sliC];simp;exact .bK _ _ _ _
 |ah l sz' st n cap b base T m bP hn iH ez=>
  simp only[ay]at hb;simp only[C.aP]at h8;subst h8;obtain⟨b1,b2,b3⟩:=hb;refine fin (sliC L U (.ah l sz' st n)) _ (run _ _ cap rfl hn ⟨b1,b2,b3⟩) ?_ rfl;simp only[sliC];generalize qU:(L.getD 0).toNat=ln;generalize qi:(U.getD (n:Int)).toNat=un;by_cases cG:cap=ln
  ·rw[if_pos cG];have q3:un-ln=0:=ZB
   have q4:cap-ln=0:=ZB
   rw[q3,q4];exact .bK _ _ _ _
  ·rw[if_neg cG];simp only[Jq,DI];have:base+st * sz'+ln * sz'=base+(st+ln) * sz':=Za7
   rw[this];refine .ah _ _ _ _ _ b base T m bP ZB iH ?_;have:st+ln+(cap-ln)=st+cap:=ZB
   rw[this];exact ez
 |_=>simp[aZ]at h7
theorem Qb5s {x:Opd}{lo hi:Option Opd}{x':Operand}{lo' bR:Option Operand}{t:TypeId}(hm:o.op=.slice t x' lo' bR none)(hu:P.underlying t=some .string)
  (hx:mO x x'=true) (qT:mOpt lo lo'=true) (uw:mOpt hi bR=true)
  (hs:Sat H g w) (he:EnvOk w g e a) (hp:p=true) (ho:(FOp.slis x lo hi).obl p e H):FOk P H g w e a o (.slis x lo hi):=by
 simp only[FOp.obl]at ho;obtain⟨h1,h2,h3,h4,h5,hb⟩:=ho;have hr:=BS he hx hp h1;have el:=EM he hp qT h2 h4;have eh:=EM he hp uw h3 h5;generalize hL:(lo.map λz=>BL (z.v e))=L at *;generalize hU:(hi.map λz=>BL (z.v e))=U at *;split at hb
 ·rename_i s hv
  rw[hv]at hr;obtain⟨hq,hl⟩:=hr.aO.str_inv;have jZ:(⟨s.toArray⟩:ByteArray).extract (L.getD 0).toNat (U.getD s.length).toNat=⟨((s.take (U.getD s.length).toNat).drop (L.getD 0).toNat).toArray⟩:=by
   apply Ja8;apply Jae;simp[Jab,Ja4]
  refine .mk' hs (v:=.string ⟨((s.take (U.getD s.length).toNat).drop (L.getD 0).toNat).toArray⟩) ?_ ?_ trivial
  ·simp only[execOp,hm,hq,Instr.sliceAt,Sem.run_bind,BT hu,Result.andThen_ok,el,eh,J4,Instr.slice,FA,Sem.run_pure];simp only[Jah,Jt,if_false,Sem.run_bind,Sem.run_pure,Result.andThen_ok];rw[TP (P:=P) false s.length s.length L U (Jw _) hb w];simp[jZ]
  ·simp only[FOp.val,hv,hL,hU];refine .c _ _ (.str _ ?_);simp;omega
 ·exact hb.elim
theorem Qb62 {sz n:Nat}{x y:Opd}{x' y':Operand}{t el:TypeId}{i:TypeInfo}(hm:o.op=.indexAddr t x' y')(hu:P.underlying t=some (.array n el))
  (hi:P.info? el=some i) (hz:i.size=sz) (hx:mO x x'=true) (hy:mO y y'=true)
  (hs:Sat H g w) (he:EnvOk w g e a) (hp:p=true) (ho:(FOp.iaa sz n x y).obl p e H):FOk P H g w e a o (.iaa sz n x y):=by
 simp only[FOp.obl]at ho;obtain⟨h1,h2,h6,h7,h8,h9⟩:=ho;have hr:=BS he hx hp h1;have hn:=DO he hy hp h2 h6;split at h9
 ·rename_i l k hv
  rw[hv]at hr;have du:=hr.aO;generalize hq:a.eval x'=xv at du
  cases du with
  |ptr _ _ b s base bP=>
   refine .mk' hs (v:=.pointer (some ⟨b,base+k+(BL (y.v e)).toNat * sz,none⟩)) ?_ ?_ trivial
   ·simp only[execOp,hm,hq,hn,Instr.indexAt,Sem.run_bind,asIntOf,Sem.run_pure,Result.andThen_ok,BT hu,Instr.sureAddr];rw[if_pos ⟨h7,h8⟩];simp[CD hi,hz,DI]
   ·simp only[FOp.val,hv];have e:base+k+(BL (y.v e)).toNat * sz=base+(k+(BL (y.v e)).toNat * sz):=ZB;rw[e];exact .c _ _ (.ptr l _ b s base bP)
 ·exact h9.elim
theorem Qb67 {n b l:Nat}{t:TypeId}{d:TypeDesc}{i:TypeInfo}(hm:o.op=.load t (.global b))(hu:P.underlying t=some d)(hi:P.info? t=some i)(ha:D1 d=true)(hn:i.size=n)
  (hs:Sat H g w) (ho:(FOp.ldg n b l).obl p e H):FOk P H g w e a o (.ldg n b l):=by
 simp only[FOp.obl]at ho;split at ho
 ·rename_i b' cells hH
  obtain⟨rfl,h2⟩:=ho;have bg:=hs.objs l;rw[hH]at bg;obtain⟨s,val,k1,k2,k3,k4⟩:=bg;have hq:a.eval (.global b')=.pointer (some ⟨b',0,none⟩):=rfl;have hc:∀j,j<n->w.cell? ⟨b',0+j,none⟩=some (val j):=λj hj=>by
   rw[J5];exact k3 j _ (Jd ZB)
  have hr:=HP hu hi w b' 0 n val (λ_=>hn) (λh=>by rw[ha]at h;simp at h) hc;refine .mk' hs (v:=.agg ((List.range n).map val).toArray) ?_ ?_ trivial
  ·simp only[execOp,hm,hq,Instr.loadAt,Instr.sureAddr,Sem.run_bind,Sem.run_pure,Result.andThen_ok,hr,ha,if_true]
  ·simp only[FOp.val,hH];refine .ag _ _ ZG λj c u h1 h2=>?_;rw[Jp]at h1;split at h1
   ·rename_i hj
    simp[hj]at h2;subst h2;exact k4 j c h1
   ·simp at h1
 ·exact ho.elim
theorem s_ldo {b l:Nat}{t:TypeId}{d:TypeDesc}{i:TypeInfo}(hm:o.op=.load t (.global b))(hu:P.underlying t=some d)(hi:P.info? t=some i)(ha:D1 d=false)
  (hs:Sat H g w) (ho:(FOp.ldo b l).obl p e H):FOk P H g w e a o (.ldo b l):=by
 simp only[FOp.obl]at ho;split at ho
 ·rename_i b' cells hH
  obtain⟨rfl,h2⟩:=ho;have bg:=hs.objs l;rw[hH]at bg;obtain⟨s,val,k1,k2,k3,k4⟩:=bg;have hq:a.eval (.global b')=.pointer (some ⟨b',0,none⟩):=rfl;have h0:cells[0]? = some (cells.headD .unk):=by
   cases cells with
   |nil=>simp at h2
   |cons c r=>rfl
  have hc:∀j,j<1->w.cell? ⟨b',0+j,none⟩=some (val j):=λj hj=>by
   obtain rfl:j=0:=ZB
   exact k3 0 _ h0
  have hr:=HP hu hi w b' 0 1 val (λh=>by rw[ha]at h;simp at h) (λ_=>rfl) hc;refine .mk' hs (v:=val 0) ?_ ?_ trivial
  ·simp only[execOp,hm,hq,Instr.loadAt,Instr.sureAddr,Sem.run_bind,Sem.run_pure,Result.andThen_ok,hr,ha];simp
  ·simp only[FOp.val,hH];exact .c _ _ (k4 0 _ h0)
 ·exact ho.elim
theorem s_aslg {n b l:Nat}{t el:TypeId}{i:TypeInfo}(hm:o.op=.slice t (.global b) none none none)(eJ:P.underlying t=some (.array n el))(lj:P.info? el=some i)
  (hs:Sat H g w) (ho:(FOp.aslg n b l).obl p e H):FOk P H g w e a o (.aslg n b l):=by
 simp only[FOp.obl]at ho;split at ho
 ·rename_i b' cells hH
  obtain⟨rfl,h2,h3⟩:=ho;have bg:=hs.objs l;rw[hH]at bg;obtain⟨s,val,k1,k2,k3,k4⟩:=bg;have hq:a.eval (.global b')=.pointer (some ⟨b',0,none⟩):=rfl;have am:((cells.take n).map λc=>[c]).length=n:=ZG
  have aC:∀(k:Nat) (row:List C),((cells.take n).map λc=>[c])[k]? = some row->∃c,row=[c]/\cells[k]? = some c:=by
   intro k row hk;rw[Jn,Jp]at hk;split at hk
   ·cases fH:cells[k]? with
    |none=>rw[fH]at hk;simp at hk
    |some c=>rw[fH]at hk;simp at hk;exact⟨c,hk.symm,rfl⟩
   ·simp at hk
  refine .mk' hs (v:=.slice (some ⟨b',0,none⟩) n n) ?_ ?_ trivial
  ·by_cases hn:n=0
   ·subst hn;simp[execOp,hm,hq,Instr.sliceAt,BT eJ,Instr.sureAddr,Instr.sliceBounds,CD lj,Sem.run_pure]
   ·simp[execOp,hm,hq,Instr.sliceAt,BT eJ,Instr.sureAddr,Instr.sliceBounds,CD lj,Sem.run_pure,hn,DI]
  ·simp only[FOp.val,hH];have:=RepC.sl (w:=w) (g:=g) true 1 ((cells.take n).map λc=>[c]) b' 0 n (λk _=>val k) ZR (λ_=>am.symm) ZR k2
    (λk row hk=>by obtain⟨c,rfl,_⟩:=aC k row hk;rfl)
    (λk row j c hk hj=>by
     obtain⟨c',rfl,cn⟩:=aC k row hk
     cases j with
     |zero=>simpa using k3 k c' cn
     |succ j=>simp at hj)
    (λk row j c hk hj=>by
     obtain⟨c',rfl,cn⟩:=aC k row hk
     cases j with
     |zero=>simp at hj;subst hj;exact k4 k _ cn
     |succ j=>simp at hj)
   rw[am]at this;exact .c _ _ this
 ·exact ho.elim
theorem Qb64 {sz n:Nat}{x y:Opd}{x' y':Operand}{t el:TypeId}{d:TypeDesc}{i:TypeInfo}(hm:o.op=.index t x' y')(hu:P.underlying t=some (.array n el))
  (hd:P.underlying el=some d) (ha:D1 d=true) (hi:P.info? el=some i) (hz:i.size=sz) (hx:mO x x'=true) (hy:mO y y'=true)
  (hs:Sat H g w) (he:EnvOk w g e a) (hp:p=true) (ho:(FOp.iax sz n x y).obl p e H):FOk P H g w e a o (.iax sz n x y):=by
 simp only[FOp.obl]at ho;obtain⟨h1,h2,h6,h7,h8,h9,db⟩:=ho;have hr:=BS he hx hp h1;have hn:=DO he hy hp h2 h6;have hv:∃cs,x.v e=.ag cs:=by cases hv:x.v e <;> simp_all[V.isAg]
 obtain⟨cs,hv⟩:=hv;rw[hv]at hr db;simp only[V.cells]at db;obtain⟨vs,hq,hl,hh⟩:=hr.ag_inv;refine .mk' hs (v:=.agg ((vs.drop ((BL (y.v e)).toNat * sz)).take sz).toArray) ?_ ?_ trivial
 ·simp only[execOp,hm,hq,hn,Instr.index,Sem.run_bind,asIntOf,Sem.run_pure,Result.andThen_ok,BT hu];rw[if_pos ⟨h7,h8⟩];simp only[Sem.run_bind,CD hi,hz,Result.andThen_ok,part,FC hd,ha,if_true,Sem.run_pure];congr 4;apply Jae;simp[Jab,Ja4]
 ·simp only[FOp.val,hv,V.cells];refine .ag _ _ Za3 λj c u h1 h2=>?_;simp only[Jp,Jr]at h1 h2;split at h1
  ·rename_i hj;rw[if_pos hj]at h2;exact hh _ _ _ h1 h2
  ·simp at h1
theorem Qb5k {n:Nat}{x:Opd}{x':Operand}{hi:Option Opd}{bR:Option Operand}{t el:TypeId}{i:TypeInfo}(hm:o.op=.slice t x' none bR none)(eJ:P.underlying t=some (.array n el))
  (lj:P.info? el=some i) (hx:mO x x'=true) (uw:mOpt hi bR=true)
  (hs:Sat H g w) (he:EnvOk w g e a) (hp:p=true) (ho:(FOp.aslp n x hi).obl p e H):FOk P H g w e a o (.aslp n x hi):=by
 simp only[FOp.obl]at ho;obtain⟨h1,h3,h5,hb,fF,h2⟩:=ho;have hr:=BS he hx hp h1;have eh:=EM he hp uw h3 h5;have mi:(hi.map λz=>BL (z.v e)).isNone=hi.isNone:=by cases hi <;> rfl
 split at h2
 ·rename_i cells hv
  rw[hv]at hr;have du:=hr.aO;generalize hq:a.eval x'=xv at du
  cases du with
  |pp _ b off val df hc ni=>
   have eG:(FOp.aslp n x hi).val e H=.c (.sl hi.isNone 1 ((cells.take ((hi.map λx=>BL (x.v e)).getD n).toNat).map λc=>[c])):=by simp only[FOp.val,hv]
   rw[<-mi]at eG;generalize hU:(hi.map λz=>BL (z.v e))=U at *;have cE:=TP (P:=P) false n n none U (Jw _) hb w;have eV:=hb;obtain⟨b1,b2,b3⟩:=eV;simp only[Jy,J4]at b1 b2 b3 cE;have e0:(U.getD (n:Int)).toNat<=n:=ZB
   refine .mk' hs (v:=.slice (some ⟨b,off,none⟩) (U.getD n).toNat n) ?_ ?_ trivial
   ·simp only[execOp,hm,hq,Instr.sliceAt,Sem.run_bind,BT eJ,Result.andThen_ok,Instr.sureAddr,Sem.run_pure,eh,J4,cE,CD lj];have ha:(⟨b,off,none⟩:Addr).add (0 * i.size)=⟨b,off,none⟩:=(by rw[Nat.zero_mul,DI,J0]);by_cases hn:n=0
    ·subst hn;simp
    ·simp[hn,ha];try rw[DI,J0]
   ·rw[eG];have am:((cells.take (U.getD (n:Int)).toNat).map λc=>[c]).length=(U.getD (n:Int)).toNat:=ZG;have aC:∀(k:Nat) (row:List C),((cells.take (U.getD (n:Int)).toNat).map λc=>[c])[k]? = some row->∃c,row=[c]/\cells[k]? = some c:=by
     intro k row hk;rw[Jn,Jp]at hk;split at hk
     ·cases fH:cells[k]? with
      |none=>rw[fH]at hk;simp at hk
      |some c=>rw[fH]at hk;simp at hk;exact⟨c,hk.symm,rfl⟩
     ·simp at hk
    have:=RepC.sl (w:=w) (g:=g) U.isNone 1 ((cells.take (U.getD (n:Int)).toNat).map λc=>[c]) b off n (λk _=>val k) ZR
     (λhu=>by
      have:U=none:=(by simpa using hu);subst this;rw[am];simp) ZR df (λk row hk=>by obtain⟨c,rfl,_⟩:=aC k row hk;rfl)
     (λk row j c hk hj=>by
      obtain⟨c',rfl,cn⟩:=aC k row hk
      cases j with
      |zero=>simp only[Nat.mul_one,J0];exact hc k c' cn
      |succ j=>simp at hj)
     (λk row j c hk hj=>by
      obtain⟨c',rfl,cn⟩:=aC k row hk
      cases j with
      |zero=>simp at hj;subst hj;exact ni k c' cn
      |succ j=>simp at hj)
    rw[am]at this;exact .c _ _ this
 ·exact h2.elim
theorem s_slm {sz:Nat}{x hi:Opd}{x' oF sK:Operand}{t el:TypeId}{i:TypeInfo}(hm:o.op=.slice t x' none (some oF) (some sK))(hu:P.underlying t=some (.slice el))
  (lj:P.info? el=some i) (hx:mO x x'=true) (hh1:mO hi oF=true) (hh2:mO hi sK=true)
  (hs:Sat H g w) (he:EnvOk w g e a) (hp:p=true) (ho:(FOp.slm sz x hi).obl p e H):FOk P H g w e a o (.slm sz x hi):=by
 simp only[FOp.obl]at ho;obtain⟨h1,h2,h3,h4,h5⟩:=ho;have hr:=BS he hx hp h1;have e1:=DO he hh1 hp h2 h3;have e2:=DO he hh2 hp h2 h3;split at h5
 ·rename_i fl z rows hv
  obtain⟨rfl,h6⟩:=h5;rw[hv]at hr;have du:=hr.aO;have eG:(FOp.slm z x hi).val e H=.c (.sl true z (rows.take (BL (hi.v e)).toNat)):=by simp only[FOp.val,hv]
  generalize BL (hi.v e)=n at *;obtain⟨n,rfl⟩:=Int.eq_ofNat_of_zero_le h4;have h7:n<=rows.length:=ZB
  simp only[Jap]at eG;generalize hq:a.eval x'=xv at du;have run:∀(ad:Option Addr) (len cap:Nat),xv=.slice ad len cap->n<=cap->
    (execOp a.eval o).run P w=.ok (.value (.slice (if n=0 then ad else ad.map (·.add (0 * i.size))) n n)) w:=by
   intro ad len cap kg fm;have hb:(Instr.sliceBounds true len cap none (some (.int .i64 (n:Int))) (some (.int .i64 (n:Int)))).run P w=.ok (0,n,n) w:=by
    unfold Instr.sliceBounds;simp only[Sem.run_bind,Instr.sliceBound,asIntOf,Sem.run_pure,Result.andThen_ok];rw[if_pos ⟨Ja9 _,ZB⟩];simp only[Sem.run_pure,Result.andThen_ok,Jap];rw[if_pos ⟨Ja9 _,Int.le_refl _⟩];simp only[Sem.run_pure,Result.andThen_ok,Jap]
   simp only[execOp,hm,hq,kg,Instr.sliceAt,Sem.run_bind,BT hu,Result.andThen_ok,e1,e2,Jq,J4,Instr.slice,hb,CD lj,Sem.run_pure,Nat.sub_zero]
  cases du with
  |bV _ _ ad=>
   have h0:n=0:=by simpa using h7
   subst h0;refine .mk' hs (run ad 0 0 rfl (Jw _)) ?_ trivial;rw[eG];exact .c _ _ (.bV _ _ _)
  |sl _ _ _ b off cap val hl hf fm df ew s0 ni=>
   refine .mk' hs (run _ _ cap rfl ZB) ?_ trivial;rw[eG];have ha:(if n=0 then (some ⟨b,off,none⟩:Option Addr)else (some ⟨b,off,none⟩:Option Addr).map (·.add (0 * i.size)))=some ⟨b,off,none⟩:=by
    split
    ·rfl
    ·simp only[Jq,Nat.zero_mul,DI,J0]
   rw[ha];have am:(rows.take n).length=n:=ZG
   have aC:∀(k:Nat) (row:List C),(rows.take n)[k]? = some row->rows[k]? = some row:=by
    intro k row hk;rw[Jp]at hk;split at hk
    ·exact hk
    ·simp at hk
   have:=RepC.sl (w:=w) (g:=g) true z (rows.take n) b off n val ZR (λ_=>by rw[am]) (by rw[am];exact Jw _) df (λk row hk=>ew _ _ (aC k row hk))
    (λk row j c hk hj=>s0 _ _ _ _ (aC k row hk) hj) (λk row j c hk hj=>ni _ _ _ _ (aC k row hk) hj)
   rw[am]at this;exact .c _ _ this
 ·exact h5.elim
theorem Qb61 {off n:Nat}{agg:Bool}{x:Opd}{x':Operand}{s:TypeId}{k:Nat}{fs:Array Field}{f:Field}{i:TypeInfo}{d:TypeDesc}(hm:o.op=.field s x' k)(hu:P.underlying s=some (.struct fs))
  (hf:fs[k]? = some f) (nV:f.offset=off) (hi:P.info? f.type=some i) (hd:P.underlying f.type=some d) (ha:D1 d=agg) (hn:agg=true->i.size=n) (cO:agg=false->n=1) (hx:mO x x'=true)
  (hs:Sat H g w) (he:EnvOk w g e a) (hp:p=true) (ho:(FOp.fld off n agg x).obl p e H):FOk P H g w e a o (.fld off n agg x):=by
 simp only[FOp.obl]at ho;obtain⟨h1,h2,h3⟩:=ho;have hr:=BS he hx hp h1;have hv:∃cs,x.v e=.ag cs:=by cases hv:x.v e <;> simp_all[V.isAg]
 obtain⟨cs,hv⟩:=hv;rw[hv]at hr h3;simp only[V.cells]at h3;obtain⟨vs,hq,hl,hh⟩:=hr.ag_inv
 cases agg with
 |true=>
  have hz:=hn rfl;refine .mk' hs (v:=.agg ((vs.drop off).take n).toArray) ?_ ?_ trivial
  ·simp only[execOp,hm,hq,Instr.field,Sem.run_bind,BT hu,Result.andThen_ok,hf,asAgg,Sem.run_pure,part,FC hd,ha,if_true,CD hi,hz,nV];congr 4;apply Jae;simp[Jab,Ja4]
  ·simp only[FOp.val,D7,hv,V.cells,if_true];refine .ag _ _ ZG λj c u h1 h2=>?_;simp only[Jp,Jr]at h1 h2;split at h1
   ·rename_i hj;rw[if_pos hj]at h2;exact hh _ _ _ h1 h2
   ·simp at h1
 |false=>
  have hz:=cO rfl;subst hz;have af:off<vs.length:=ZB
  refine .mk' hs (v:=vs[off]) ?_ ?_ trivial
  ·simp only[execOp,hm,hq,Instr.field,Sem.run_bind,BT hu,Result.andThen_ok,hf,asAgg,Sem.run_pure,part,FC hd,ha,nV];simp[af]
  ·simp only[FOp.val,D7,hv,V.cells,Jt,if_false];have fE:off<cs.length:=ZB
   have:((cs.drop off).take 1).headD .unk=cs[off]:=by
    rw[List.drop_eq_getElem_cons fE];rfl
   rw[this];exact .c _ _ (hh off _ _ (Jd fE) (Jd af))
theorem Ij (off:Nat):∀(vs:List Value) (s:Nat) (cs:Array Value) (k:Nat),off+s+vs.length<=cs.size->
  ((vs.zipIdx s).foldl (λ(cs:Array Value) (x:Value×Nat)=>cs.setIfInBounds (off+x.2) x.1) cs).size=cs.size/\
  ((vs.zipIdx s).foldl (λ(cs:Array Value) (x:Value×Nat)=>cs.setIfInBounds (off+x.2) x.1) cs)[k]? =
   if off+s<=k/\k<off+s+vs.length then vs[k-(off+s)]? else cs[k]?
 |[],s,cs,k,_=>by
  refine⟨rfl,?_⟩;rw[if_neg (by simp only[Jaz];omega)];rfl
 |v::vs,s,cs,k,h=>by
  simp only[J8]at h;have ih:=Ij off vs (s+1) (cs.setIfInBounds (off+s) v) k ZG;simp only[List.zipIdx_cons,List.foldl_cons];refine⟨by rw[ih.1];simp,?_⟩;rw[ih.2];simp only[J8];by_cases h1:off+(s+1)<=k/\k<off+(s+1)+vs.length
  ·rw[if_pos h1,if_pos ZB];have:k-(off+s)=(k-(off+(s+1)))+1:=ZB
   rw[this,List.getElem?_cons_succ]
  ·rw[if_neg h1];by_cases h2:k=off+s
   ·subst h2;rw[if_pos ZB];simp only[Nat.sub_self,List.getElem?_cons_zero];rw[Jaa ZB]
   ·rw[if_neg ZB,Js ZB]
theorem L7 {place:Nat->Option (Nat×Nat)}{cells:Array Value}{i off sz:Nat}{v:Value}{rest:List (Nat×Value)}(hp:place i=some (off,sz))(hz:v.cells.size=sz)
  (hb:off+sz<=cells.size):∃cs:Array Value,Instr.fill place cells ((i,v)::rest)=Instr.fill place cs rest/\cs.size=cells.size/\
   ∀k,cs[k]? = if off<=k/\k<off+sz then v.cells[k-off]? else cells[k]?:=by
 have hf:=λk=>Ij off v.cells.toList 0 cells k ZG;refine⟨v.cells.zipIdx.foldl (λ(cs:Array Value) (x:Value×Nat)=>cs.setIfInBounds (off+x.2) x.1) cells,?_,?_,λk=>?_⟩
 ·simp only[Instr.fill,hp];rw[if_neg ZG]
 ·rw[<-Ja7,Ja5];exact (hf 0).1
 ·rw[<-Ja7,Ja5,(hf k).2];simp only[J0,Array.length_toList,hz,Ju]
def RepL (w:World)(g:G)(cs:List C)(vs:Array Value):Prop:=
 vs.size=cs.length/\∀(j:Nat) (c:C) (u:Value),cs[j]? = some c->vs[j]? = some u->RepC w g c u
theorem RepL.put {cs ps:List C}{vs us vs':Array Value}{off:Nat}(h:RepL w g cs vs)(hp:RepL w g ps us)(hb:off+ps.length<=cs.length)(bp:vs'.size=vs.size)
  (hv:∀k,vs'[k]? = if off<=k/\k<off+ps.length then us[k-off]? else vs[k]?) :
  RepL w g (cs.take off++ps++cs.drop (off+ps.length)) vs':=by
 refine⟨by rw[bp,h.1];simp;omega,λj c u h1 h2=>?_⟩;rw[hv]at h2;by_cases hj:off<=j/\j<off+ps.length
 ·rw[if_pos hj]at h2;rw[Jz,Jj ZG,Ji ZG]at h1;refine hp.2 _ c u ?_ h2;rw[<-h1];congr 1;simp;omega
 ·rw[if_neg hj]at h2;refine h.2 j c u ?_ h2;by_cases hl:j<off
  ·rw[Jz,Ji ZG,Jp,if_pos hl]at h1;exact h1
  ·rw[Jj ZG,Jr]at h1;rw[<-h1];congr 1;simp;omega
def F9:C->Value->Bool
 |.int k n,.int k' n'=>k == k'&&n == n'
 |.bool b,.bool b'=>b == b'
 |.str [],.string b=>decide (b.data.toList=[])
 |.sl _ _ [],.slice none 0 0=>true
 |.pnil,.pointer none=>true
 |.mnil,.map none=>true
 |.fnil,.nilFunc=>true
 |_,_=>false
theorem LR {c:C}{v:Value}(h:F9 c v=true):RepC w g c v:=by
 unfold F9 at h;split at h
 ·simp at h;obtain⟨rfl,rfl⟩:=h;exact .int _ _
 ·simp at h;subst h;exact .bool _
 ·rename_i b
  have hb:b=⟨([]:List UInt8).toArray⟩:=by
   apply Ja8;apply Jae;simpa using h
  rw[hb];exact .str _ (by simp[E3])
 ·exact .bV _ _ _
 ·exact .pnil
 ·exact .mnil
 ·exact .fnil
 ·simp at h
def Db (cs:List C)(v:Value):Bool:=cs.length == v.cells.size&&(cs.zip v.cells.toList).all λx=>F9 x.1 x.2
theorem In {cs:List C}{v:Value}(h:Db cs v=true):RepL w g cs v.cells:=by
 unfold Db at h;rw[Ja,Jau]at h;obtain⟨h1,h2⟩:=h;refine⟨by simpa using (beq_iff_eq.1 h1).symm,λj c u e1 e2=>LR (h2 (c,u) ?_)⟩;have:(cs.zip v.cells.toList)[j]? = some (c,u):=by
  rw[Jao];exact⟨e1,Zad⟩
 exact Jg this
theorem DF {t:TypeId}{i:TypeInfo}{z:Value}(hi:P.info? t=some i)(hz:i.zero=some z)(w:World):(zeroValue t).run P w=.ok z w:=by
 simp[zeroValue,IK hi,hz]
theorem Qawi (fs:List Field)(h:∀f∈fs,∃i,P.info? f.type=some i)(w:World) :
  (fs.mapM λf=>(do pure (f.offset,<-sizeOf f.type):Sem (Nat×Nat))).run P w=.ok (fs.map λf=>(f.offset,P.cellsOf f.type)) w:=by
 induction fs with
 |nil=>simp
 |cons f fs ih=>
  obtain⟨i,hi⟩:=h f ZD;have ih':=ih λf hf=>h f (by simp[hf]);simp only[List.mapM_cons,Sem.run_bind,CD hi,Result.andThen_ok,Sem.run_pure,ih',Jbn,Qa0v hi]
theorem N1 (place:Nat->Option (Nat×Nat)):∀(parts:List (Nat×Nat×List C)) (ps:List (Nat×Value)) (cells:Array Value) (cs:List C),
  RepL w g cs cells->ps.length=parts.length->
  (∀(j:Nat) (x:Nat×Nat×List C) (y:Nat×Value),parts[j]? = some x->ps[j]? = some y->place y.1=some (x.1,x.2.1)/\x.2.2.length=x.2.1/\x.1+x.2.1<=cs.length/\RepL w g x.2.2 y.2.cells)->
  ∃out,Instr.fill place cells ps=some out/\RepL w g (RY cs (parts.map λx=>(x.1,x.2.2))) out
 |[],[],cells,cs,h,_,_=>⟨cells,rfl,h⟩
 |[],y::ps,_,_,_,hl,_=>by simp at hl
 |x::parts,[],_,_,_,hl,_=>by simp at hl
 |x::parts,(i,v)::ps,cells,cs,h,hl,hh=>by
  obtain⟨h1,h2,h3,h4⟩:=hh 0 x (i,v) rfl rfl;obtain⟨cs',f1,f2,f3⟩:=L7 (rest:=ps) (cells:=cells) h1 (by rw[h4.1,h2]) (by rw[h.1];exact h3);have hr:RepL w g (cs.take x.1++x.2.2++cs.drop (x.1+x.2.2.length)) cs':=h.put h4 (by rw[h2];exact h3) f2 (by rw[h2];exact f3);obtain⟨out,o1,o2⟩:=N1 place parts ps cs' _ hr Zaj (λj x' y' e1 e2=>by
   obtain⟨q1,q2,q3,q4⟩:=hh (j+1) x' y' ZaV Zad;refine⟨q1,q2,?_,q4⟩;have:(cs.take x.1++x.2.2++cs.drop (x.1+x.2.2.length)).length=cs.length:=ZG
   rw[this];exact q3)
  exact⟨out,f1.trans o1,by simpa[RY]using o2⟩
theorem Ix {v:V}{u:Value}(h:RepV w g v u)(hn:v.cells≠[]):RepL w g v.cells u.cells:=Id h hn
theorem Qb6v {zero:List C}{parts:List (Nat×Nat×Opd)}{t:TypeId}{parts':Array (Nat×Operand)}{fs:Array Field}{i:TypeInfo}{z:Value}
  (hm:o.op=.build t parts') (hu:P.underlying t=some (.struct fs)) (hi:P.info? t=some i) (hz:i.zero=some z) (cj:Db zero z=true)
  (rq:∀f∈fs.toList,∃i,P.info? f.type=some i) (hl:parts.length=parts'.size)
  (hx:∀(j:Nat) (x:Nat×Nat×Opd) (y:Nat×Operand),parts[j]? = some x->parts'[j]? = some y->
   mO x.2.2 y.2=true/\(∃f,fs[y.1]? = some f/\f.offset=x.1/\P.cellsOf f.type=x.2.1)/\x.1+x.2.1<=zero.length/\x.2.1≠0)
  (hs:Sat H g w) (he:EnvOk w g e a) (hp:p=true) (ho:(FOp.bld zero parts).obl p e H):FOk P H g w e a o (.bld zero parts):=by
 simp only[FOp.obl]at ho;have am:(parts'.toList.map λ(x:Nat×Operand)=>(x.1,a.eval x.2)).length=(parts.map λq=>(q.1,q.2.1,(q.2.2.v e).cells)).length:=Za3
 obtain⟨out,f1,f2⟩:=N1 (w:=w) (g:=g) (λ(j:Nat)=>(fs.toList.map λf=>(f.offset,P.cellsOf f.type))[j]?) (parts.map λq=>(q.1,q.2.1,(q.2.2.v e).cells))
  (parts'.toList.map λ(x:Nat×Operand)=>(x.1,a.eval x.2)) z.cells zero (In cj) am (λj x y e1 e2=>by
   simp only[Jn]at e1 e2
   cases hj:parts[j]? with
   |none=>rw[hj]at e1;simp at e1
   |some q=>
    cases b6:parts'.toList[j]? with
    |none=>rw[b6]at e2;simp at e2
    |some y'=>
     rw[hj]at e1;rw[b6]at e2;simp only[Jq,Jb]at e1 e2;subst e1;subst e2;obtain⟨m1,⟨f,m2,m3,m4⟩,m5,m6⟩:=hx j q y' hj (by simpa using b6);obtain⟨o1,o2⟩:=ho q (Jg hj);refine⟨?_,o2,m5,Ix (BS he m1 hp o1) (λhn=>m6 (by rw[<-o2,hn];rfl))⟩;simp only[Jn,Ju,m2,Jq,m3,m4])
 have fW:(fs.mapM λf=>(do pure (f.offset,<-sizeOf f.type):Sem (Nat×Nat))).run P w=.ok ((fs.toList.map λf=>(f.offset,P.cellsOf f.type)).toArray) w:=by
  rw[Array.mapM_eq_mapM_toList];simp only[Sem.run_map,Qawi fs.toList rq w,Result.andThen_ok]
 refine .mk' hs (v:=.agg out) ?_ ?_ trivial
 ·simp only[execOp,hm,Instr.build,Sem.run_bind,DF hi hz,Result.andThen_ok,BT hu,fW];have:(λ(x:Nat)=>((fs.toList.map λf=>(f.offset,P.cellsOf f.type)).toArray)[x]?)=(λ(j:Nat)=>(fs.toList.map λf=>(f.offset,P.cellsOf f.type))[j]?):=by
   funext j;simp
  rw[this];have tD:(parts'.map λ(x:Nat×Operand)=>(x.1,a.eval x.2)).toList=parts'.toList.map λ(x:Nat×Operand)=>(x.1,a.eval x.2):=ZD
  rw[tD,f1];simp
 ·simp only[FOp.val];have nS:out=out.toList.toArray:=ZD
  rw[nS];refine .ag _ _ ?_ ?_
  ·have:=f2.1;simp only[Jbo,Jbb]at this;simpa using this
  ·intro j c u h1 h2;refine f2.2 j c u ?_ Zae;simpa only[Jbo,Jbb]using h1
theorem HZ (size:Nat):∀(ps:List (Nat×Value)) (s:Nat) (cells:Array Value),(∀(j:Nat) (y:Nat×Value),ps[j]? = some y->y.1=s+j/\y.2.cells.size=size)->
  (s+ps.length) * size<=cells.size->
  ∃out:Array Value,Instr.fill (λi=>some (i * size,size)) cells ps=some out/\out.size=cells.size/\
   (∀k,k<s * size->out[k]? = cells[k]?)/\
   ∀(j:Nat) (y:Nat×Value) (k:Nat),ps[j]? = some y->k<size->out[(s+j) * size+k]? = y.2.cells[k]?
 |[],s,cells,_,_=>⟨cells,rfl,rfl,λ_ _=>rfl,ZD⟩
 |(i,v)::ps,s,cells,h,hb=>by
  obtain⟨h1,h2⟩:=h 0 (i,v) rfl;simp only[J0]at h1 h2;subst h1;have aW:(i+1+ps.length) * size<=cells.size:=by
   have e:i+((i,v)::ps).length=i+1+ps.length:=by simp only[J8];omega
   rw[e]at hb;exact hb
  have jE:i * size+size<=cells.size:=by
   have:(i+1) * size<=(i+1+ps.length) * size:=Jl _ ZB;rw[Jk,Jai]at this;omega
  obtain⟨cs,f1,f2,f3⟩:=L7 (place:=λi=>some (i * size,size)) (rest:=ps) (cells:=cells) (i:=i) (v:=v) rfl h2 jE;obtain⟨out,o1,o2,o3,o4⟩:=HZ size ps (i+1) cs (λj y hj=>by
   have:=h (j+1) y ZV;exact⟨by rw[this.1];omega,this.2⟩) (by rw[f2];exact aW)
  refine⟨out,f1.trans o1,o2.trans f2,λk hk=>?_,λj y k hj hk=>?_⟩
  ·rw[o3 k Za7,f3 k,if_neg ZB]
  ·cases j with
   |zero=>
    simp at hj;subst hj;simp only[J0];rw[o3 _ Za7,f3 _,if_pos ZB];congr 1;omega
   |succ j=>
    have:=o4 j y k ZV hk;rw[<-this];congr 3;omega
theorem Qb6x {sz:Nat}{parts:List Opd}{t el:TypeId}{n:Nat}{parts':Array (Nat×Operand)}{i:TypeInfo}{z:Value}
  (hm:o.op=.buildSlice t n parts') (hu:P.underlying t=some (.slice el)) (hi:P.info? el=some i) (hz:i.zero=some z) (bp:i.size=sz) (qo:sz≠0)
  (hn:n=parts'.size) (rE:n * sz<=2 ^ 24) (hl:parts.length=parts'.size)
  (hx:∀(j:Nat) (x:Opd) (y:Nat×Operand),parts[j]? = some x->parts'[j]? = some y->y.1=j/\mO x y.2=true)
  (hs:Sat H g w) (he:EnvOk w g e a) (hp:p=true) (ho:(FOp.kQ sz parts).obl p e H):FOk P H g w e a o (.kQ sz parts):=by
 simp only[FOp.obl]at ho;have tD:(parts'.map λ(x:Nat×Operand)=>(x.1,a.eval x.2)).toList=parts'.toList.map λ(x:Nat×Operand)=>(x.1,a.eval x.2):=ZD
 have b7:∀(j:Nat) (y:Nat×Value),(parts'.toList.map λ(x:Nat×Operand)=>(x.1,a.eval x.2))[j]? = some y->
   ∃x y',parts[j]? = some x/\parts'[j]? = some y'/\y=(y'.1,a.eval y'.2):=by
  intro j y hj;simp only[Jn]at hj
  cases b6:parts'.toList[j]? with
  |none=>rw[b6]at hj;simp at hj
  |some y'=>
   rw[b6]at hj;simp at hj;have af:j<parts.length:=by
    rw[hl];rcases Jh j parts'.size with h|h
    ·exact h
    ·simp[Jm h]at b6
   exact⟨_,y',Jd af,by simpa using b6,hj.symm⟩
 have aC:∀x∈parts,x.fine p e/\(x.v e).cells.length=sz/\(x.v e).cells≠[]:=λx hx=>by
  obtain⟨q1,q2⟩:=ho x hx;exact⟨q1,q2,λhn=>qo (by rw[<-q2,hn];rfl)⟩
 have mu:(parts'.toList.map λ(x:Nat×Operand)=>(x.1,a.eval x.2)).length=n:=ZaQ
 obtain⟨out,f1,f2,f3,f4⟩:=HZ sz (parts'.toList.map λ(x:Nat×Operand)=>(x.1,a.eval x.2)) 0
  ((Array.range (n * sz)).map ((if n * sz=0 then #[]else z.cells)[· % (if n * sz=0 then #[]else z.cells).size]!)) (λj y hj=>by
   obtain⟨x,y',e1,e2,rfl⟩:=b7 j y hj;obtain⟨q1,q2⟩:=hx j x y' e1 e2;obtain⟨q3,q4,q5⟩:=aC x (Jg e1);refine⟨by simp[q1],?_⟩;rw[(Ix (BS he q2 hp q3) q5).1,q4]) (by rw[mu];simp)
 have aN:=Q7e hs (.cells out el);refine⟨.slice (some ⟨w.heap.size,0,none⟩) n n,w.alloc (.cells out el),g.newPer w.heap.size,?_,aN,?_,trivial⟩
 ·simp only[execOp,hm,Instr.buildSlice,Sem.run_bind,BT hu,Result.andThen_ok,CD hi,bp,tD];rw[if_neg ZB];by_cases h0:n * sz=0
  ·simp only[if_pos h0]at f1⊢;simp only[Sem.run_bind,Sem.run_pure,Result.andThen_ok];rw[f1];simp[newRow]
  ·simp only[if_neg h0]at f1⊢;simp only[Sem.run_bind,Sem.run_pure,Result.andThen_ok,DF hi hz];rw[f1];simp[newRow]
 ·simp only[FOp.val];have gZ:(parts.map λx=>(x.v e).cells).length=n:=by simp[hl,hn]
  refine .c _ _ ?_;have dM:∀(k:Nat) (row:List C),(parts.map λx=>(x.v e).cells)[k]? = some row->∃x y,parts[k]? = some x/\parts'[k]? = some y/\row=(x.v e).cells:=by
   intro k row hk;simp only[Jn]at hk
   cases hj:parts[k]? with
   |none=>rw[hj]at hk;simp at hk
   |some x=>
    rw[hj]at hk;simp at hk;have af:k<parts'.size:=by
     rw[<-hl];rcases Jh k parts.length with h|h
     ·exact h
     ·rw[Jf h]at hj;simp at hj
    exact⟨x,parts'[k],rfl,Jc af,hk.symm⟩
  have bZ:∀(k:Nat) (row:List C) (j:Nat) (c:C),(parts.map λx=>(x.v e).cells)[k]? = some row->row[j]? = some c->∃u,out[0+k * sz+j]? = some u/\RepC w g c u:=by
   intro k row j c hk hj;obtain⟨x,y,e1,e2,rfl⟩:=dM k row hk;obtain⟨q1,q2⟩:=hx k x y e1 e2;obtain⟨q3,q4,q5⟩:=aC x (Jg e1);have hr:=Ix (BS he q2 hp q3) q5;have jK:j<sz:=by
    rw[<-q4];rcases Jh j (x.v e).cells.length with h|h
    ·exact h
    ·rw[Jf h]at hj;simp at hj
   have cL:j<(a.eval y.2).cells.size:=by rw[hr.1,q4];exact jK
   have:=f4 k (y.1,a.eval y.2) j (by simp only[Jn,Ju,e2,Jq]) jK;simp only[J5]at this⊢;rw[this];exact⟨_,Jc cL,hr.2 j c _ hj (Jc cL)⟩
  have:=RepC.sl (w:=w.alloc (.cells out el)) (g:=g.newPer w.heap.size) true sz (parts.map λx=>(x.v e).cells) w.heap.size 0 n (λk j=>out.getD (0+k * sz+j) undef)
   (by rw[gZ,E3]
       have cO:n * 1<=n * sz:=Ja6 _ ZB;have An:(2:Nat) ^ 24=16777216:=ZO;rw[An]at rE;omega) (λ_=>gZ.symm) (by rw[gZ];exact Jw _) (by simp[G.newPer])
   (λk row hk=>by obtain⟨x,y,e1,e2,rfl⟩:=dM k row hk;exact (aC x (Jg e1)).2.1)
   (λk row j c hk hj=>by
    obtain⟨u,e1,e2⟩:=bZ k row j c hk hj;rw[Ph,Je,e1];rfl)
   (λk row j c hk hj=>by
    obtain⟨u,e1,e2⟩:=bZ k row j c hk hj;simp only[Je,e1,Jv];exact e2.mono aN.le)
  rw[gZ]at this;exact this
end Go.AE
namespace Go.AE
open Go.MapKept (IsKey findNow_spec run_checkKey run_findKey run_keyThatStays)
variable {P:Program}{H:Heap}{g:G}{w:World}{e:Env}{a:Act}{o:Oper}{p:Bool}
def tagD:Nat->TypeDesc
 |0=>.int .i64
 |1=>.string
 |_=>.bool
theorem FG {tag:Nat}{k:C}{es:List (C×V)}(h:Dk tag k es){v:Value}(hr:RepC w g k v):IsKey (tagD tag) v:=by
 unfold Dk at h;split at h
 ·rw[hr.aH];simp[tagD,IsKey]
 ·rw[hr.str_inv.1];simp[tagD,IsKey]
 ·rw[hr.bx];simp[tagD,IsKey]
 ·exact h.elim
theorem YE {tag:Nat}{k:C}{es:List (C×V)}(h:Dk tag k es){x:C×V}(hx:x∈es){v:Value}(hr:RepC w g x.1 v):IsKey (tagD tag) v:=by
 unfold Dk at h;split at h
 ·obtain⟨n,hn⟩:=h x hx;rw[hn]at hr;rw[hr.aH];simp[tagD,IsKey]
 ·obtain⟨n,hn⟩:=h x hx;rw[hn]at hr;rw[hr.str_inv.1];simp[tagD,IsKey]
 ·obtain⟨n,hn⟩:=h x hx;rw[hn]at hr;rw[hr.bx];simp[tagD,IsKey]
 ·exact h.elim
theorem F4 {tag:Nat}{k:C}{es:List (C×V)}(h:Dk tag k es){x:C×V}(hx:x∈es){u v:Value}(hr:RepC w g k u)(bf:RepC w g x.1 v) :
  CC k x.1=true↔v=u:=by
 unfold Dk at h;split at h
 ·obtain⟨n,hn⟩:=h x hx;rw[hn]at bf⊢;rw[bf.aH,hr.aH];simp only[CC,decide_eq_true_eq,Value.int.injEq,true_and];exact eq_comm
 ·obtain⟨n,hn⟩:=h x hx;rw[hn]at bf⊢;rw[bf.str_inv.1,hr.str_inv.1];simp only[CC,decide_eq_true_eq,Value.string.injEq,Jbp,Array.mk.injEq];exact eq_comm
 ·obtain⟨n,hn⟩:=h x hx;rw[hn]at bf⊢;rw[bf.bx,hr.bx];simp only[CC,beq_iff_eq,Value.bool.injEq];exact eq_comm
 ·exact h.elim
theorem L6:∀(es:List (C×V)) (k:C) (j:Nat) (x:C×V),es[j]? = some x->CC k x.1=true->(∀i y,i<j->es[i]? = some y->CC k y.1=false)->Df k es=some x.2
 |[],_,_,_,h,_,_=>ZI
 |y::es,k,0,x,h,hk,_=>by simp at h;subst h;simp[Df,hk]
 |y::es,k,j+1,x,h,hk,hh=>by
  have h0:=hh 0 y ZB rfl;simp only[Df,h0,Jt,if_false];exact L6 es k j x ZL hk λi z hi hz=>hh (i+1) z ZB ZaW
theorem N0:∀(es:List (C×V)) (k:C),(∀x∈es,CC k x.1=false)->Df k es=none
 |[],_,_=>rfl
 |y::es,k,h=>by
  simp only[Df,h y ZD,Jt,if_false];exact N0 es k λx hx=>h x Zbj
theorem RZ {tag:Nat}{k:C}{es:List (C×V)}{ms:Array MapEntry}(ax:Dk tag k es){kv:Value}(hk:RepC w g k kv)(bp:ms.size=es.length)
  (hE:∀(i:Nat) (x:C×V) (m:MapEntry),es[i]? = some x->ms[i]? = some m->RepE w g x m)
  (hd:∀(i j:Nat) (m m':MapEntry),ms[i]? = some m->ms[j]? = some m'->(m.born=m'.born\/m.key=m'.key)->i=j) :
  (Instr.findNow (tagD tag) kv ms.toList 0=some none/\Df k es=none/\∀x∈es,CC k x.1=false)\/
  ∃j m x,Instr.findNow (tagD tag) kv ms.toList 0=some (some (j,m.val))/\ms[j]? = some m/\m.key=kv/\es[j]? = some x/\Df k es=some x.2/\CC k x.1=true/\
   ∀i y,i<j->es[i]? = some y->CC k y.1=false:=by
 have pair:∀(i:Nat) (m:MapEntry),ms[i]? = some m->∃x,es[i]? = some x:=by
  intro i m hm;have:i<es.length:=by
   rw[<-bp];rcases Jh i ms.size with h|h
   ·exact h
   ·rw[Jm h]at hm;simp at hm
  exact⟨_,Jd this⟩
 have pair':∀(i:Nat) (x:C×V),es[i]? = some x->∃m,ms[i]? = some m:=by
  intro i x hx;have:i<ms.size:=by
   rw[bp];rcases Jh i es.length with h|h
   ·exact h
   ·rw[Jf h]at hx;simp at hx
  exact⟨_,Jc this⟩
 have ui:∀m∈ms.toList,IsKey (tagD tag) m.key:=by
  intro m hm;obtain⟨i,hi⟩:=J2 hm;obtain⟨x,hx⟩:=pair i m Zaf;exact YE ax (Jg hx) (hE i x m hx Zaf).1
 rcases findNow_spec (FG ax hk) ms.toList 0 ui with ⟨h1,h2⟩|⟨j,m,h1,h2,h3⟩
 ·have bD:∀x∈es,CC k x.1=false:=by
   intro x hx;obtain⟨i,hi⟩:=J2 hx;obtain⟨m,hm⟩:=pair' i x hi;have:=h2 m (by have:=Jg (l:=ms.toList) (i:=i) (a:=m) (by simpa using hm);exact this)
   cases hq:CC k x.1 with
   |false=>rfl
   |true=>exact absurd ((F4 ax hx hk (hE i x m hi hm).1).1 hq) this
  exact .inl ⟨h1,N0 es k bD,bD⟩
 ·have hm:ms[j]? = some m:=Zae
  obtain⟨x,hx⟩:=pair j m hm;have hq:=(F4 ax (Jg hx) hk (hE j x m hx hm).1).2 h3;have mB:∀i y,i<j->es[i]? = some y->CC k y.1=false:=by
   intro i y hi hy;obtain⟨m',eT⟩:=pair' i y hy
   cases A8:CC k y.1 with
   |false=>rfl
   |true=>
    have e1:=(F4 ax (Jg hy) hk (hE i y m' hy eT).1).1 A8;have:=hd i j m' m eT hm (.inr (e1.trans h3.symm));omega
  exact .inr ⟨j,m,x,ZZ,hm,h3,hx,L6 es k j x hx hq mB,hq,mB⟩
def DT:V->Value->Bool
 |.c x,v=>F9 x v
 |.ag cs,.agg vs=>Db cs (.agg vs)
 |_,_=>false
theorem Im {x:V}{v:Value}(h:DT x v=true):RepV w g x v:=by
 unfold DT at h;split at h
 ·exact .c _ _ (LR h)
 ·rename_i cs vs
  have:=In (w:=w) (g:=g) h;obtain⟨h1,h2⟩:=this;have hv:vs=vs.toList.toArray:=ZD
  rw[hv];exact .ag cs vs.toList (by simpa[Value.cells]using h1) λj c u e1 e2=>h2 j c u e1 (by simpa[Value.cells]using e2)
 ·simp at h
theorem Qb69 {tag:Nat}{zero:V}{x k:Opd}{x' k':Operand}{t kt et:TypeId}{i:TypeInfo}{z:Value}(hm:o.op=.lookup t x' k' false)(hu:P.underlying t=some (.map kt et))
  (hk:P.underlying kt=some (tagD tag)) (hi:P.info? et=some i) (hz:i.zero=some z) (cj:DT zero z=true) (hx:mO x x'=true) (fz:mO k k'=true)
  (hs:Sat H g w) (he:EnvOk w g e a) (hp:p=true) (ho:(FOp.lup tag zero x k).obl p e H):FOk P H g w e a o (.lup tag zero x k):=by
 simp only[FOp.obl]at ho;obtain⟨h1,h2,h3,h4,h5,h6⟩:=ho;have hr:=BS he hx hp h1;have oS:=BS he fz hp h2;rw[CH h3]at hr;rw[CH h4]at oS;have oq:=oS.aO;have eN:=FG h6 oq;have vx:(v:Value)->(Df (k.v e).c1 (Cl H (x.v e).c1)).getD zero=(FOp.lup tag zero x k).val e H:=λ_=>rfl;generalize fH:(x.v e).c1=cc at *;generalize iz:(k.v e).c1=kc at *;have lx:=hr.aO;generalize i8:a.eval x'=xv at lx hr;have r9:=lx
 cases lx with
 |mp l b bP=>
  simp only[Dw]at h5;split at h5
  ·rename_i n es hH
   have bg:=hs.objs l;rw[hH]at bg;obtain⟨b',ms,clock,k1,k2,k3,k4,k5,k6,k7,k8⟩:=bg;rw[bP]at k1;simp only[Jb,Jo,and_true]at k1;subst k1;simp only[Cl,hH]at h6;have cP:(getObj b).run P w=.ok (.map ms clock) w:=by simp[getObj,Sem.run,k3]
   rcases RZ h6 oq k4 k6 k8 with ⟨f1,f2,f3⟩|⟨j,m,y,f1,f2,f3,f4,f5,f6,f7⟩
   ·refine .mk' hs (v:=z) ?_ ?_ trivial
    ·simp only[execOp,hm,i8,Instr.lookup,Sem.run_bind,BT hu,Result.andThen_ok,cP,Sem.run_pure,run_checkKey hk eN _ 9999,run_findKey hk f1,DF hi hz];simp
    ·simp only[FOp.val,fH,iz,Cl,hH,f2,Jy];exact Im cj
   ·refine .mk' hs (v:=m.val) ?_ ?_ trivial
    ·simp only[execOp,hm,i8,Instr.lookup,Sem.run_bind,BT hu,Result.andThen_ok,cP,Sem.run_pure,run_checkKey hk eN _ 9999,run_findKey hk f1];simp
    ·simp only[FOp.val,fH,iz,Cl,hH,f5,Jv];exact (k6 j y m f4 f2).2
  ·exact h5.elim
 |cm _ _ _ b0=>
  obtain⟨b,ms,clock,q1,q2,q3,q4,q5,q6⟩:=GO (H:=H) r9;simp only[Value.map.injEq,Jb]at q1;subst q1;have cP:(getObj b0).run P w=.ok (.map ms clock) w:=by simp only[getObj,Sem.run,q2]
  rcases RZ h6 oq q3 q5 q6 with ⟨f1,f2,f3⟩|⟨j,m,y,f1,f2,f3,f4,f5,f6,f7⟩
  ·refine .mk' hs (v:=z) ?_ ?_ trivial
   ·simp only[execOp,hm,i8,Instr.lookup,Sem.run_bind,BT hu,Result.andThen_ok,cP,Sem.run_pure,run_checkKey hk eN _ 9999,run_findKey hk f1,DF hi hz];simp
   ·simp only[FOp.val,fH,iz,f2,Jy];exact Im cj
  ·refine .mk' hs (v:=m.val) ?_ ?_ trivial
   ·simp only[execOp,hm,i8,Instr.lookup,Sem.run_bind,BT hu,Result.andThen_ok,cP,Sem.run_pure,run_checkKey hk eN _ 9999,run_findKey hk f1];simp
   ·simp only[FOp.val,fH,iz,f5,Jv];exact (q5 j y m f4 f2).2
 |mnil=>
  refine .mk' hs (v:=z) ?_ ?_ trivial
  ·have gM:Instr.findNow (tagD tag) (a.eval k') ([]:List MapEntry) 0=some none:=rfl;have zf:=run_findKey (P:=P) (w:=w) (kt:=kt) (k:=a.eval k') (l:=[]) hk gM;simp only[execOp,hm,i8,Instr.lookup,Sem.run_bind,BT hu,Result.andThen_ok,Sem.run_pure,run_checkKey hk eN _ 9999,zf,DF hi hz];simp
  ·simp only[FOp.val,fH,iz,Cl,Df,Jy];exact Im cj
 |_=>simp[Dw]at h5
theorem Qb5q {tag:Nat}{zero:V}{x k:Opd}{x' k':Operand}{t kt et:TypeId}{i:TypeInfo}{z:Value}(hm:o.op=.lookup t x' k' true)(hu:P.underlying t=some (.map kt et))
  (hk:P.underlying kt=some (tagD tag)) (hi:P.info? et=some i) (hz:i.zero=some z) (cj:DT zero z=true) (hx:mO x x'=true) (fz:mO k k'=true)
  (hs:Sat H g w) (he:EnvOk w g e a) (hp:p=true) (ho:(FOp.lup2 tag zero x k).obl p e H):FOk P H g w e a o (.lup2 tag zero x k):=by
 simp only[FOp.obl]at ho;obtain⟨h1,h2,h3,h4,h5,h6⟩:=ho;have hr:=BS he hx hp h1;have oS:=BS he fz hp h2;rw[CH h3]at hr;rw[CH h4]at oS;have oq:=oS.aO;have eN:=FG h6 oq;have two:∀{y:V} {v:Value} {b:Bool},RepV w g y v->RepV w g (.tup [y,.c (.bool b)]) (.tuple #[v,.bool b]):=λ{y v b} h=>
  .tup [y,.c (.bool b)] [v,.bool b] rfl λj x u e1 e2=>by
   match j with
   |0=>cases e1;cases e2;exact h
   |1=>cases e1;cases e2;exact .c _ _ (.bool b)
   |j+2=>simp at e1
 generalize fH:(x.v e).c1=cc at *;generalize iz:(k.v e).c1=kc at *;have lx:=hr.aO;generalize i8:a.eval x'=xv at lx hr;have r9:=lx
 cases lx with
 |mp l b bP=>
  simp only[Dw]at h5;split at h5
  ·rename_i n es hH
   have bg:=hs.objs l;rw[hH]at bg;obtain⟨b',ms,clock,k1,k2,k3,k4,k5,k6,k7,k8⟩:=bg;rw[bP]at k1;simp only[Jb,Jo,and_true]at k1;subst k1;simp only[Cl,hH]at h6;have cP:(getObj b).run P w=.ok (.map ms clock) w:=by simp[getObj,Sem.run,k3]
   rcases RZ h6 oq k4 k6 k8 with ⟨f1,f2,f3⟩|⟨j,m,y,f1,f2,f3,f4,f5,f6,f7⟩
   ·refine .mk' hs (v:=.tuple #[z,.bool false]) ?_ ?_ trivial
    ·simp only[execOp,hm,i8,Instr.lookup,Sem.run_bind,BT hu,Result.andThen_ok,cP,Sem.run_pure,run_checkKey hk eN _ 9999,run_findKey hk f1,DF hi hz];simp
    ·simp only[FOp.val,fH,iz,Cl,hH,f2,Jy,Jah];exact two (Im cj)
   ·refine .mk' hs (v:=.tuple #[m.val,.bool true]) ?_ ?_ trivial
    ·simp only[execOp,hm,i8,Instr.lookup,Sem.run_bind,BT hu,Result.andThen_ok,cP,Sem.run_pure,run_checkKey hk eN _ 9999,run_findKey hk f1];simp
    ·simp only[FOp.val,fH,iz,Cl,hH,f5,Jv,Option.isSome_some];exact two (k6 j y m f4 f2).2
  ·exact h5.elim
 |cm _ _ _ b0=>
  obtain⟨b,ms,clock,q1,q2,q3,q4,q5,q6⟩:=GO (H:=H) r9;simp only[Value.map.injEq,Jb]at q1;subst q1;have cP:(getObj b0).run P w=.ok (.map ms clock) w:=by simp only[getObj,Sem.run,q2]
  rcases RZ h6 oq q3 q5 q6 with ⟨f1,f2,f3⟩|⟨j,m,y,f1,f2,f3,f4,f5,f6,f7⟩
  ·refine .mk' hs (v:=.tuple #[z,.bool false]) ?_ ?_ trivial
   ·simp only[execOp,hm,i8,Instr.lookup,Sem.run_bind,BT hu,Result.andThen_ok,cP,Sem.run_pure,run_checkKey hk eN _ 9999,run_findKey hk f1,DF hi hz];simp
   ·simp only[FOp.val,fH,iz,f2,Jy,Jah];exact two (Im cj)
  ·refine .mk' hs (v:=.tuple #[m.val,.bool true]) ?_ ?_ trivial
   ·simp only[execOp,hm,i8,Instr.lookup,Sem.run_bind,BT hu,Result.andThen_ok,cP,Sem.run_pure,run_checkKey hk eN _ 9999,run_findKey hk f1];simp
   ·simp only[FOp.val,fH,iz,f5,Jv,Option.isSome_some];exact two (q5 j y m f4 f2).2
 |mnil=>
  refine .mk' hs (v:=.tuple #[z,.bool false]) ?_ ?_ trivial
  ·have gM:Instr.findNow (tagD tag) (a.eval k') ([]:List MapEntry) 0=some none:=rfl;have zf:=run_findKey (P:=P) (w:=w) (kt:=kt) (k:=a.eval k') (l:=[]) hk gM;simp only[execOp,hm,i8,Instr.lookup,Sem.run_bind,BT hu,Result.andThen_ok,Sem.run_pure,run_checkKey hk eN _ 9999,zf,DF hi hz];simp
  ·simp only[FOp.val,fH,iz,Cl,Df,Jy,Jah];exact two (Im cj)
 |_=>simp[Dw]at h5
end Go.AE
namespace Go.AE
variable {P:Program}{H:Heap}{g:G}{w:World}{e:Env}{a:Act}{o:Oper}{p:Bool}
def Eh (P:Program)(fs:Array Field)(zl:Nat):List (Nat×Nat×Opd)->List (Nat×Operand)->Bool
 |[],[]=>true
 |(off,sz,x)::r,(i,y)::r'=>mO x y&&(match fs[i]? with
   |some f=>f.offset == off&&P.cellsOf f.type == sz
   |none=>false)&&decide (off+sz<=zl)&&decide (sz≠0)&&Eh P fs zl r r'
 |_,_=>false
def mRow:Nat->List Opd->List (Nat×Operand)->Bool
 |_,[],[]=>true
 |k,x::r,(i,y)::r'=>i == k&&mO x y&&mRow (k+1) r r'
 |_,_,_=>false
def mOs:List Opd->List Operand->Bool
 |[],[]=>true
 |x::r,y::r'=>mO x y&&mOs r r'
 |_,_=>false
theorem HA:∀(xs:List Opd) (ys:List Operand),mOs xs ys=true->xs.length=ys.length/\∀(j:Nat) (x:Opd) (y:Operand),xs[j]? = some x->ys[j]? = some y->mO x y=true
 |[],[],_=>⟨rfl,ZD⟩
 |[],_::_,h=>by simp[mOs]at h
 |_::_,[],h=>by simp[mOs]at h
 |x::r,y::r',h=>by
  simp only[mOs,Ja]at h;obtain⟨h1,h2⟩:=HA r r' h.2;refine⟨Zbk,λj x' y' e1 e2=>?_⟩
  cases j with
  |zero=>simp at e1 e2;subst e1;subst e2;exact h.1
  |succ j=>exact h2 j x' y' ZaV Zad
theorem OP {fs:Array Field}{zl:Nat}:∀(xs:List (Nat×Nat×Opd)) (ys:List (Nat×Operand)),Eh P fs zl xs ys=true->
  xs.length=ys.length/\∀(j:Nat) (x:Nat×Nat×Opd) (y:Nat×Operand),xs[j]? = some x->ys[j]? = some y->
   mO x.2.2 y.2=true/\(∃f,fs[y.1]? = some f/\f.offset=x.1/\P.cellsOf f.type=x.2.1)/\x.1+x.2.1<=zl/\x.2.1≠0
 |[],[],_=>⟨rfl,ZD⟩
 |[],_::_,h=>by simp[Eh]at h
 |_::_,[],h=>by simp[Eh]at h
 |(off,sz,x)::r,(i,y)::r',h=>by
  simp only[Eh,Ja,decide_eq_true_eq]at h;obtain⟨⟨⟨⟨h1,h2⟩,h3⟩,h4⟩,h5⟩:=h;obtain⟨k1,k2⟩:=OP r r' h5;refine⟨ZaF,λj x' y' e1 e2=>?_⟩
  cases j with
  |zero=>
   simp at e1 e2;subst e1;subst e2;refine⟨h1,?_,h3,h4⟩;split at h2
   ·rename_i f hf;simp at h2;exact⟨f,hf,h2.1,h2.2⟩
   ·simp at h2
  |succ j=>exact k2 j x' y' ZaV Zad
theorem HQ:∀(k:Nat) (xs:List Opd) (ys:List (Nat×Operand)),mRow k xs ys=true->
  xs.length=ys.length/\∀(j:Nat) (x:Opd) (y:Nat×Operand),xs[j]? = some x->ys[j]? = some y->y.1=k+j/\mO x y.2=true
 |_,[],[],_=>⟨rfl,ZD⟩
 |_,[],_::_,h=>by simp[mRow]at h
 |_,_::_,[],h=>by simp[mRow]at h
 |k,x::r,(i,y)::r',h=>by
  simp only[mRow,Ja,beq_iff_eq]at h;obtain⟨⟨h1,h2⟩,h3⟩:=h;obtain⟨k1,k2⟩:=HQ (k+1) r r' h3;refine⟨ZaF,λj x' y' e1 e2=>?_⟩
  cases j with
  |zero=>simp at e1 e2;subst e1;subst e2;exact⟨Zbk,h2⟩
  |succ j=>
   have:=k2 j x' y' ZaV Zad;exact⟨by rw[this.1];omega,this.2⟩
def D6 (P:Program)(t:TypeId)(n:Nat)(agg:Bool):Bool:=
 match P.underlying t,P.info? t with
 |some d,some i=>D1 d == agg&&(if agg then i.size == n else n == 1)
 |_,_=>false
theorem IN {t:TypeId}{n:Nat}{agg:Bool}(h:D6 P t n agg=true) :
  ∃d i,P.underlying t=some d/\P.info? t=some i/\D1 d=agg/\(agg=true->i.size=n)/\(agg=false->n=1):=by
 unfold D6 at h;split at h
 ·rename_i d i hd hi
  simp only[Ja,beq_iff_eq]at h;refine⟨d,i,hd,hi,h.1,λha=>?_,λha=>?_⟩
  ·subst ha;simpa using h.2
  ·subst ha;simpa using h.2
 ·simp at h
def CW (P:Program)(t:TypeId)(sz:Nat):Bool:=
 match P.info? t with
 |some i=>i.size == sz
 |none=>false
theorem GC {t:TypeId}{sz:Nat}(h:CW P t sz=true):∃i,P.info? t=some i/\i.size=sz:=by
 unfold CW at h;split at h
 ·rename_i i hi;exact⟨i,hi,ZL⟩
 ·simp at h
def DX (P:Program)(t:TypeId)(zero:List C):Bool:=
 match P.info? t with
 |some i=>(match i.zero with
  |some z=>Db zero z
  |none=>false)
 |none=>false
theorem IM {t:TypeId}{zero:List C}(h:DX P t zero=true):∃i z,P.info? t=some i/\i.zero=some z/\Db zero z=true:=by
 unfold DX at h;split at h
 ·rename_i i hi
  split at h
  ·rename_i z hz;exact⟨i,z,hi,hz,h⟩
  ·simp at h
 ·simp at h
def E9 (d:TypeDesc)(tag:Nat):Bool:=
 match d,tag with
 |.int .i64,0=>true
 |.string,1=>true
 |.bool,2=>true
 |_,_=>false
theorem Q5f {d:TypeDesc}{tag:Nat}(h:E9 d tag=true):d=tagD tag:=by
 unfold E9 at h;split at h <;> first|rfl|simp at h
def mF (P:Program)(o:Oper):FOp->Bool
 |.mv x=>match o.op with
  |.move y=>mO x y
  |.assign y=>mO x y
  |_=>false
 |.pick c a b=>match o.op with
  |.pick c' a' b'=>mO c c'&&mO a a'&&mO b b'
  |_=>false
 |.bin tag op a b=>match o.op with
  |.binOp op' t a' b' _=>op == op'&&mTag P tag t&&mO a a'&&mO b b'
  |_=>false
 |.not a=>match o.op with
  |.unOp .not _ a'=>mO a a'
  |_=>false
 |.fad off a=>match o.op with
  |.fieldAddr s y k=>mO a y&&(match P.underlying s with
   |some (.struct fs)=>(match fs[k]? with
    |some f=>f.offset == off&&(match P.info? f.type with
     |some i=>decide (i.size≠0)
     |none=>false)
    |none=>false)
   |_=>false)
  |_=>false
 |.iad sz a i=>match o.op with
  |.indexAddr t a' i'=>mO a a'&&mO i i'&&(match P.underlying t with
   |some (.slice el)=>CW P el sz
   |_=>false)
  |_=>false
 |.ld n agg a=>match o.op with
  |.load t a'=>mO a a'&&D6 P t n agg
  |_=>false
 |.nck a=>match o.op with
  |.nilCheck a'=>mO a a'
  |_=>false
 |.len a=>match o.op with
  |.call { callee:=.builtin .len,args:=⟨[a']⟩,argTypes:=ats }=>mO a a'&&(match ats[0]? with
   |some t=>(match P.underlying t with
    |some (.slice _)=>true
    |_=>false)
   |none=>false)
  |_=>false
 |.lenx a=>false
 |.lens a=>match o.op with
  |.call { callee:=.builtin .len,args:=⟨[a']⟩,argTypes:=ats }=>mO a a'&&(match ats[0]? with
   |some t=>(match P.underlying t with
    |some .string=>true
    |_=>false)
   |none=>false)
  |_=>false
 |.lensx a=>false
 |.lenm a=>false
 |.sli sz a lo hi=>match o.op with
  |.slice t a' lo' bR none=>mO a a'&&mOpt lo lo'&&mOpt hi bR&&(match P.underlying t with
   |some (.slice el)=>CW P el sz
   |_=>false)
  |_=>false
 |.iaa sz n a i=>match o.op with
  |.indexAddr t a' i'=>mO a a'&&mO i i'&&(match P.underlying t with
   |some (.array m el)=>m == n&&CW P el sz
   |_=>false)
  |_=>false
 |.aslp n a hi=>match o.op with
  |.slice t a' none bR none=>mO a a'&&mOpt hi bR&&(match P.underlying t with
   |some (.array m el)=>m == n&&(P.info? el).isSome
   |_=>false)
  |_=>false
 |.slm sz a hi=>false
 |.ldg n b _=>match o.op with
  |.load t (.global b')=>b' == b&&D6 P t n true
  |_=>false
 |.ldo b _=>false
 |.aslg n b _=>false
 |.iax sz n a i=>match o.op with
  |.index t a' i'=>mO a a'&&mO i i'&&(match P.underlying t with
   |some (.array m el)=>m == n&&D6 P el sz true
   |_=>false)
  |_=>false
 |.asl n a=>false
 |.slis a lo hi=>match o.op with
  |.slice t a' lo' bR none=>mO a a'&&mOpt lo lo'&&mOpt hi bR&&(match P.underlying t with
   |some .string=>true
   |_=>false)
  |_=>false
 |.ext a i=>match o.op with
  |.extract a' i'=>mO a a'&&i == i'
  |_=>false
 |.fld off n agg a=>match o.op with
  |.field s y k=>mO a y&&(match P.underlying s with
   |some (.struct fs)=>(match fs[k]? with
    |some f=>f.offset == off&&D6 P f.type n agg
    |none=>false)
   |_=>false)
  |_=>false
 |.idx a i=>match o.op with
  |.index t a' i'=>mO a a'&&mO i i'&&(match P.underlying t with
   |some .string=>true
   |_=>false)
  |_=>false
 |.bld zero parts=>match o.op with
  |.build t parts'=>(match P.underlying t with
   |some (.struct fs)=>DX P t zero&&fs.toList.all (λf=>(P.info? f.type).isSome)&&Eh P fs zero.length parts parts'.toList
   |_=>false)
  |_=>false
 |.kQ sz parts=>match o.op with
  |.buildSlice t n parts'=>n == parts'.size&&decide (n * sz<=2 ^ 24)&&mRow 0 parts parts'.toList&&decide (sz≠0)&&(match P.underlying t with
   |some (.slice el)=>CW P el sz&&(match P.info? el with
    |some i=>i.zero.isSome
    |none=>false)
   |_=>false)
  |_=>false
 |.box a=>match o.op with
  |.box _ a'=>mO a a'
  |_=>false
 |.cvt k a=>match o.op with
  |.convert src dst a'=>mO a a'&&(match P.underlying dst,P.underlying src with
   |some (.int k'),some _=>k == k'
   |_,_=>false)
  |_=>false
 |.mkf f caps=>match o.op with
  |.makeFunc (.func f') ⟨[]⟩ caps'=>f == f'&&mOs caps caps'.toList
  |_=>false
 |.lup tag zero m k=>match o.op with
  |.lookup t m' k' false=>mO m m'&&mO k k'&&(match P.underlying t with
   |some (.map kt et)=>(match P.underlying kt with
    |some d=>E9 d tag
    |none=>false)&&(match P.info? et with
    |some i=>(match i.zero with
     |some z=>DT zero z
     |none=>false)
    |none=>false)
   |_=>false)
  |_=>false
 |.lup2 tag zero m k=>match o.op with
  |.lookup t m' k' true=>mO m m'&&mO k k'&&(match P.underlying t with
   |some (.map kt et)=>(match P.underlying kt with
    |some d=>E9 d tag
    |none=>false)&&(match P.info? et with
    |some i=>(match i.zero with
     |some z=>DT zero z
     |none=>false)
    |none=>false)
   |_=>false)
  |_=>false
 |.mx a b=>false
 |.mn a b=>match o.op with
  |.call { callee:=.builtin .min,args:=⟨[a',b']⟩,argTypes:=_ }=>mO a a'&&mO b b'
  |_=>false
theorem R8 {op:FOp}(hm:mF P o op=true)(hs:Sat H g w)(he:EnvOk w g e a)(hp:p=true)(ho:op.obl p e H):FOk P H g w e a o op:=by
 cases op with
 |mv x=>
  simp only[mF]at hm;split at hm
  ·exact s_mv (.inl ‹_›) hm hs he hp ho
  ·exact s_mv (.inr ‹_›) hm hs he hp ho
  ·simp at hm
 |pick c x y=>
  simp only[mF]at hm;split at hm
  ·simp only[Ja]at hm;exact Qb5r ‹_› hm.1.1 hm.1.2 hm.2 hs he hp ho
  ·simp at hm
 |bin tag bo x y=>
  simp only[mF]at hm;split at hm
  ·simp only[Ja,beq_iff_eq]at hm;obtain⟨⟨⟨rfl,h2⟩,h3⟩,h4⟩:=hm;exact Qb6u ‹_› h2 h3 h4 hs he hp ho
  ·simp at hm
 |not x=>
  simp only[mF]at hm;split at hm
  ·exact Qb7c ‹_› hm hs he hp ho
  ·simp at hm
 |fad off x=>
  simp only[mF]at hm;split at hm
  ·rename_i s y k b9
   rw[Ja]at hm;obtain⟨h1,h2⟩:=hm;split at h2
   ·rename_i fs rq
    split at h2
    ·rename_i f hf
     rw[Ja]at h2;obtain⟨h3,h4⟩:=h2;split at h4
     ·rename_i i hi
      exact Qb60 b9 rq hf (by simpa using h3) hi (by simpa using h4) h1 hs he hp ho
     ·simp at h4
    ·simp at h2
   ·simp at h2
  ·simp at hm
 |iad sz x y=>
  simp only[mF]at hm;split at hm
  ·rename_i t x' y' b9
   simp only[Ja]at hm;obtain⟨⟨h1,h2⟩,h3⟩:=hm;split at h3
   ·rename_i el gN
    obtain⟨i,hi,hz⟩:=GC h3;exact Qb63 b9 gN hi hz h1 h2 hs he hp ho
   ·simp at h3
  ·simp at hm
 |ld n agg x=>
  simp only[mF]at hm;split at hm
  ·rename_i t x' b9
   rw[Ja]at hm;obtain⟨d,i,h1,h2,h3,h4,h5⟩:=IN hm.2;exact s_ld b9 h1 h2 h3 h4 h5 hm.1 hs he hp ho
  ·simp at hm
 |nck x=>
  simp only[mF]at hm;split at hm
  ·exact Qb7b ‹_› hm hs he hp ho
  ·simp at hm
 |len x=>
  simp only[mF]at hm;split at hm
  ·rename_i x' ats b9
   rw[Ja]at hm;obtain⟨h1,h2⟩:=hm;split at h2
   ·rename_i t ht
    split at h2
    ·exact Qb68 b9 ht ‹_› h1 hs he hp ho
    ·simp at h2
   ·simp at h2
  ·simp at hm
 |lenx x=>
  simp[mF]at hm
 |lens x=>
  simp only[mF]at hm;split at hm
  ·rename_i x' ats b9
   rw[Ja]at hm;obtain⟨h1,h2⟩:=hm;split at h2
   ·rename_i t ht
    split at h2
    ·exact Qb5p b9 ht ‹_› h1 hs he hp ho
    ·simp at h2
   ·simp at h2
  ·simp at hm
 |lensx x=>
  simp[mF]at hm
 |lenm x=>
  simp[mF]at hm
 |sli sz x lo hi=>
  simp only[mF]at hm;split at hm
  ·rename_i t x' lo' bR b9
   simp only[Ja]at hm;obtain⟨⟨⟨h1,h2⟩,h3⟩,h4⟩:=hm;split at h4
   ·rename_i el gN
    obtain⟨i,hi,hz⟩:=GC h4;exact Qb7d b9 gN hi hz h1 h2 h3 hs he hp ho
   ·simp at h4
  ·simp at hm
 |iaa sz n x y=>
  simp only[mF]at hm;split at hm
  ·rename_i t x' y' b9
   simp only[Ja]at hm;obtain⟨⟨h1,h2⟩,h3⟩:=hm;split at h3
   ·rename_i m el gN
    rw[Ja,beq_iff_eq]at h3;obtain⟨rfl,h3⟩:=h3;obtain⟨i,hi,hz⟩:=GC h3;exact Qb62 b9 gN hi hz h1 h2 hs he hp ho
   ·simp at h3
  ·simp at hm
 |aslp n x hi=>
  simp only[mF]at hm;split at hm
  ·rename_i t x' bR b9
   simp only[Ja]at hm;obtain⟨⟨h1,h4⟩,h2⟩:=hm;split at h2
   ·rename_i m el eJ
    rw[Ja,beq_iff_eq]at h2;obtain⟨rfl,h3⟩:=h2;obtain⟨i,hi⟩:=J3.1 h3;exact Qb5k b9 eJ hi h1 h4 hs he hp ho
   ·simp at h2
  ·simp at hm
 |slm sz x hi=>
  simp[mF]at hm
 |ldg n b l=>
  simp only[mF]at hm;split at hm
  ·rename_i t b' b9
   simp only[Ja,beq_iff_eq]at hm;obtain⟨rfl,h2⟩:=hm;obtain⟨d,i,k1,k2,k3,k4,k5⟩:=IN h2;exact Qb67 b9 k1 k2 k3 (k4 rfl) hs ho
  ·simp at hm
 |ldo b l=>
  simp[mF]at hm
 |aslg n b l=>
  simp[mF]at hm
 |iax sz n x y=>
  simp only[mF]at hm;split at hm
  ·rename_i t x' y' b9
   simp only[Ja]at hm;obtain⟨⟨h1,h2⟩,h3⟩:=hm;split at h3
   ·rename_i m el gN
    rw[Ja,beq_iff_eq]at h3;obtain⟨rfl,h3⟩:=h3;obtain⟨d,i,k1,k2,k3,k4,k5⟩:=IN h3;exact Qb64 b9 gN k1 k3 k2 (k4 rfl) h1 h2 hs he hp ho
   ·simp at h3
  ·simp at hm
 |asl n x=>
  simp[mF]at hm
 |slis x lo hi=>
  simp only[mF]at hm;split at hm
  ·rename_i t x' lo' bR b9
   simp only[Ja]at hm;obtain⟨⟨⟨h1,h2⟩,h3⟩,h4⟩:=hm;split at h4
   ·exact Qb5s b9 ‹_› h1 h2 h3 hs he hp ho
   ·simp at h4
  ·simp at hm
 |ext x i=>
  simp only[mF]at hm;split at hm
  ·rename_i x' i' b9
   simp only[Ja,beq_iff_eq]at hm;obtain⟨h1,rfl⟩:=hm;exact Qb6z b9 h1 hs he hp ho
  ·simp at hm
 |fld off n agg x=>
  simp only[mF]at hm;split at hm
  ·rename_i s y k b9
   rw[Ja]at hm;obtain⟨h1,h2⟩:=hm;split at h2
   ·rename_i fs rq
    split at h2
    ·rename_i f hf
     rw[Ja]at h2;obtain⟨h3,h4⟩:=h2;obtain⟨d,i,k1,k2,k3,k4,k5⟩:=IN h4;exact Qb61 b9 rq hf (by simpa using h3) k2 k1 k3 k4 k5 h1 hs he hp ho
    ·simp at h2
   ·simp at h2
  ·simp at hm
 |idx x y=>
  simp only[mF]at hm;split at hm
  ·rename_i t x' y' b9
   simp only[Ja]at hm;obtain⟨⟨h1,h2⟩,h3⟩:=hm;split at h3
   ·exact Qb65 b9 ‹_› h1 h2 hs he hp ho
   ·simp at h3
  ·simp at hm
 |bld zero parts=>
  simp only[mF]at hm;split at hm
  ·rename_i t parts' b9
   split at hm
   ·rename_i fs rq
    simp only[Ja]at hm;obtain⟨⟨h1,h2⟩,h3⟩:=hm;obtain⟨i,z,k1,k2,k3⟩:=IM h1;obtain⟨k4,k5⟩:=OP _ _ h3;rw[Jau]at h2;refine Qb6v b9 rq k1 k2 k3 (λf hf=>J3.1 (h2 f hf)) (by simpa using k4) (λj x y e1 e2=>k5 j x y e1 Zad) hs he hp ho
   ·simp at hm
  ·simp at hm
 |kQ sz parts=>
  simp only[mF]at hm;split at hm
  ·rename_i t n parts' b9
   simp only[Ja,decide_eq_true_eq,beq_iff_eq]at hm;obtain⟨⟨⟨⟨h1,h2⟩,h3⟩,h4⟩,h5⟩:=hm;split at h5
   ·rename_i el gN
    rw[Ja]at h5;obtain⟨i,hi,hz⟩:=GC h5.1;have h6:=h5.2;rw[hi]at h6;obtain⟨z,dx⟩:=J3.1 h6;obtain⟨k1,k2⟩:=HQ _ _ _ h3;exact Qb6x b9 gN hi dx hz h4 h1 h2 (by simpa using k1) (λj x y e1 e2=>by
     have:=k2 j x y e1 Zad;exact⟨by simpa using this.1,this.2⟩) hs he hp ho
   ·simp at h5
  ·simp at hm
 |box x=>
  simp only[mF]at hm;split at hm
  ·exact Qb6w ‹_› hm hs he hp ho
  ·simp at hm
 |cvt k x=>
  simp only[mF]at hm;split at hm
  ·rename_i src dst x' b9
   rw[Ja]at hm;obtain⟨h1,h2⟩:=hm;split at h2
   ·simp only[beq_iff_eq]at h2;subst h2;exact Qb6y b9 ‹_› ‹_› h1 hs he hp ho
   ·simp at h2
  ·simp at hm
 |mkf f caps=>
  simp only[mF]at hm;split at hm
  ·rename_i f' caps' b9
   simp only[Ja,beq_iff_eq]at hm;obtain⟨rfl,h2⟩:=hm;obtain⟨k1,k2⟩:=HA _ _ h2;exact Qb7a b9 (by simpa using k1) (λj x y e1 e2=>k2 j x y e1 Zad) hs he hp ho
  ·simp at hm
 |lup tag zero m k=>
  simp only[mF]at hm;split at hm
  ·rename_i t m' k' b9
   simp only[Ja]at hm;obtain⟨⟨h1,h2⟩,h3⟩:=hm;split at h3
   ·rename_i kt et fW
    rw[Ja]at h3;obtain⟨h4,h5⟩:=h3;split at h4
    ·rename_i d hd
     have:=Q5f h4;subst this;split at h5
     ·rename_i i hi
      split at h5
      ·rename_i z hz
       exact Qb69 b9 fW hd hi hz h5 h1 h2 hs he hp ho
      ·simp at h5
     ·simp at h5
    ·simp at h4
   ·simp at h3
  ·simp at hm
 |lup2 tag zero m k=>
  simp only[mF]at hm;split at hm
  ·rename_i t m' k' b9
   simp only[Ja]at hm;obtain⟨⟨h1,h2⟩,h3⟩:=hm;split at h3
   ·rename_i kt et fW
    rw[Ja]at h3;obtain⟨h4,h5⟩:=h3;split at h4
    ·rename_i d hd
     have:=Q5f h4;subst this;split at h5
     ·rename_i i hi
      split at h5
      ·rename_i z hz
       exact Qb5q b9 fW hd hi hz h5 h1 h2 hs he hp ho
      ·simp at h5
     ·simp at h5
    ·simp at h4
   ·simp at h3
  ·simp at hm
 |mx x y=>
  simp[mF]at hm
 |mn x y=>
  simp only[mF]at hm;split at hm
  ·simp only[Ja]at hm;exact s_mn ‹_› hm.1 hm.2 hs he hp ho
  ·simp at hm
def EOk (P:Program)(H:Heap)(g:G)(w:World)(a:Act)(o:Oper)(K:V->Heap->Prop):Prop:=
 ∀(Q:Exit->Act->World->Prop) (next:Act->World->Prop),
  (∀x v w' H' g',K x H'->Stp H g w H' g' w'->RepV w' g' x v->next (a.put o.dst v) w')->
  (∀v w' H' g',K (.pn v) H'->Stp H g w H' g' w'->Q (.panic [{ v:=v,recovered:=false }]) a w')->o.wp P a w next Q
theorem EOk.value {K:V->Heap->Prop}{v:Value}{w':World}{x:V}{H':Heap}{g':G}(hr:(execOp a.eval o).run P w=.ok (.value v) w')(hk:K x H')(aN:Stp H g w H' g' w')(hv:RepV w' g' x v) :
  EOk P H g w a o K:=by
 intro Q next hn jC;unfold Oper.wp;rw[hr,Oper.upon_value];exact hn x v w' H' g' hk aN hv
theorem EOk.skip {K:V->Heap->Prop}{w':World}{H':Heap}{g':G}(hr:(execOp a.eval o).run P w=.ok .skip w')(hk:K .unk H')(aN:Stp H g w H' g' w') :
  EOk P H g w a o K:=by
 intro Q next hn jC;unfold Oper.wp;rw[hr,Oper.upon_skip];exact hn .unk undef w' H' g' hk aN (.unk _)
theorem Sat.newName (hs:Sat H g w):∃l,g.io l=none/\H l=.none:=by
 obtain⟨N,hN⟩:=hs.names;exact⟨N,hN N (Jw _),hs.none_of_io (hN N (Jw _))⟩
def G.newObj (g:G)(l nb sz base:Nat):G:=
 { g with own:=λb=>if b=nb then some (l,[])else g.own b,io:=λx=>if x=l then some (nb,sz,base)else g.io x }
theorem Gt (hs:Sat H g w){l:Nat}(hl:g.io l=none)(sz base:Nat)(x:Go.Obj):Le g w (g.newObj l w.heap.size sz base) (w.alloc x):=by
 refine⟨λb hb=>⟨hb,Fm _ _ (GK hs hb)⟩,λm y hm=>?_,ZD,λb T n hn=>?_,rfl,rfl,rfl⟩
 ·simp only[G.newObj];have:m≠l:=λh=>by subst h;rw[hl]at hm;simp at hm
  rw[if_neg this];exact hm
 ·rw[SF (Fm _ _ (Hw hn))];exact hn
theorem Qa2j (hs:Sat H g w){l:Nat}(sz base:Nat)(x:Go.Obj)(m:Nat):El g w (g.newObj l w.heap.size sz base) (w.alloc x) m:=by
 intro b q hb;have:=Ef hs hb;refine⟨?_,Fm _ _ this⟩;simp only[G.newObj];rw[if_neg ZB];exact hb
theorem Ff (hs:Sat H g w){l:Nat}(hl:g.io l=none)(sz base:Nat)(x:Go.Obj)(ob:Obj)
  (bg:∀g',g'=g.newObj l w.heap.size sz base->SatObj (H.set l ob) g' (w.alloc x) l ob) :
  Stp H g w (H.set l ob) (g.newObj l w.heap.size sz base) (w.alloc x):=by
 have aS:=Gt hs hl sz base x;have hk:=Qa2j hs (l:=l) sz base x;have hH:H l=.none:=hs.none_of_io hl;refine⟨aS,λm hm hn=>?_,⟨λb hb=>?_,?_,λb y hb=>?_,λb m q hb=>?_,λm=>?_⟩⟩
 ·have:m≠l:=λh=>by subst h;exact hm hl
  rw[Heap.aj _ _ this];exact⟨hn,λb q hb=>hk m b q hb⟩
 ·simp only[World.size_alloc]at hb;refine⟨(hs.fresh b ZB).1,?_⟩;simp only[G.newObj];rw[if_neg ZB];exact (hs.fresh b ZB).2
 ·obtain⟨N,hN⟩:=hs.names;refine⟨max N (l+1),λm hm=>?_⟩;simp only[G.newObj];rw[if_neg ZB];exact hN m ZB
 ·simp only[G.newObj]at hb;split at hb
  ·rename_i h;subst h;exact (hs.fresh _ (Jw _)).1
  ·exact hs.excl b y hb
 ·simp only[G.newObj]at hb⊢;split at hb
  ·simp at hb;obtain⟨rfl,rfl⟩:=hb;simp
  ·split
   ·simp
   ·exact hs.named b m q hb
 ·by_cases hm:m=l
  ·subst hm;rw[Heap.aF];exact bg _ rfl
  ·have dT:=Heap.aj H ob hm;rw[dT,<-dT];refine SatObj.keep hs aS (hk m) dT λm' v left cur hc v' es hv=>?_;by_cases eT:m'=l
   ·subst eT;have nX:=hs.objs m;rw[hc]at nX;obtain⟨b,mb,si,se,h1,h2,h3,h4,h5⟩:=nX;rw[hl]at h4;simp at h4
   ·rw[Heap.aj _ _ eT]at hv;exact .inl ⟨hv,hk m'⟩
theorem TR {l:Nat}{cells:List C}{vs:Array Value}{T:TypeId}{H':Heap}(hr:∀(j:Nat) (c:C) (u:Value),cells[j]? = some c->vs[j]? = some u->RepC w g c u)(bp:vs.size=cells.length)
  (aS:Le g w (g.newObj l w.heap.size cells.length 0) (w.alloc (.cells vs T))) :
  SatObj H' (g.newObj l w.heap.size cells.length 0) (w.alloc (.cells vs T)) l (.st cells):=by
 refine⟨w.heap.size,cells.length,T,vs,ZK,ZK,DR _ _,bp,λk c v h1 h2=>.plain _ _ _ _ ((hr k c v h1 h2).mono aS)⟩
theorem Qb1h {cells:List C}{t:TypeId}{i:TypeInfo}{z:Value}{K:V->Heap->Prop}(hm:o.op=.alloc t)(hi:P.info? t=some i)(hz:i.zero=some z)(cj:Db cells z=true)
  (hs:Sat H g w) (ho:(EOp.alloc cells).eff P p e H K):EOk P H g w a o K:=by
 obtain⟨l,hl,hH⟩:=hs.newName;have hr:=In (w:=w) (g:=g) cj;have aS:=Gt hs hl cells.length 0 (.cells z.cells t);have aN:=Ff hs hl cells.length 0 (.cells z.cells t) (.st cells) (λg' hg=>by subst hg;exact TR hr.2 hr.1 aS);refine EOk.value (v:=.pointer (some ⟨w.heap.size,0,none⟩)) (x:=.c (.ptr l 0)) ?_ (ho l hH) aN ?_
 ·simp[execOp,hm,Instr.alloc,DF hi hz,newVar,newRow]
 ·exact .c _ _ (.ptr l 0 w.heap.size cells.length 0 ZK)
theorem Qb4m {x:Opd}{x':Operand}{t:TypeId}{K:V->Heap->Prop}(hm:o.op=.box t x')(hx:mO x x'=true)
  (hs:Sat H g w) (he:EnvOk w g e a) (hp:p=true) (ho:(EOp.boxm x).eff P p e H K):EOk P H g w a o K:=by
 simp only[EOp.eff]at ho;obtain⟨h1,h2,h3⟩:=ho;have hr:=BS he hx hp h1;obtain⟨hz,hc⟩:=Id hr h2;obtain⟨l,hl,hH⟩:=hs.newName;have aS:=Gt hs hl (x.v e).cells.length 0 (.cells (a.eval x').cells t);have aN:=Ff hs hl (x.v e).cells.length 0 (.cells (a.eval x').cells t) (.st (x.v e).cells) (λg' hg=>by subst hg;exact TR hc hz aS);refine EOk.value (v:=.pointer (some ⟨w.heap.size,0,none⟩)) (x:=.c (.ptr l 0)) ?_ (h3 l hH) aN ?_
 ·simp[execOp,hm,Instr.box,newVar,newRow]
 ·exact .c _ _ (.ptr l 0 w.heap.size (x.v e).cells.length 0 ZK)
def World.aA (w:World)(b:Nat)(cs:Array Value)(T:TypeId):World:={ w with heap:=w.heap.setIfInBounds b (.cells cs T (0,0)) }
theorem I5 {w:World}{b:Nat}{cs:Array Value}{T:TypeId}(h:b<w.heap.size):(World.aA w b cs T).heap[b]? = some (.cells cs T (0,0)):=by
 simp[World.aA,h]
theorem Gx {w:World}{b b':Nat}{cs:Array Value}{T:TypeId}(h:b'≠b):(World.aA w b cs T).heap[b']? = w.heap[b']?:=by
 simp only[World.aA];rw[Js (Ne.symm h)]
theorem Qaee {w:World}{b k:Nat}{cs:Array Value}{T:TypeId}{v:Value}(h:w.heap[b]? = some (.cells cs T (0,0))) :
  w.setCell ⟨b,k,none⟩ v=World.aA w b (cs.setIfInBounds k v) T:=by
 simp only[World.setCell,World.aA];congr 1;apply Jae;apply Jbd;intro i;simp only[Ju,J9];by_cases hi:b=i
 ·subst hi;rw[if_pos rfl,h];have af:b<w.heap.size:=by
   rcases Jh b w.heap.size with h'|h'
   ·exact h'
   ·simp[Jm h']at h
  simp[af]
 ·rw[if_neg hi,Js hi]
theorem Q5p (w:World)(b:Nat)(cs cs':Array Value)(T:TypeId):World.aA (World.aA w b cs T) b cs' T=World.aA w b cs' T:=by
 simp only[World.aA,Array.setIfInBounds_setIfInBounds]
theorem IY:∀(vs:List Value) (i:Nat) (w:World) (b k:Nat) (cs:Array Value) (T:TypeId),w.heap[b]? = some (.cells cs T (0,0))->k+i+vs.length<=cs.size->(∀v∈vs,v.oneCell'=true)->
  (storeCells ⟨b,k,none⟩ vs i).run P w=.ok () (World.aA w b ((vs.zipIdx i).foldl (λ(cs:Array Value) (x:Value×Nat)=>cs.setIfInBounds (k+x.2) x.1) cs) T)
 |[],i,w,b,k,cs,T,h,_,_=>by
  simp only[storeCells,Sem.run_pure,List.zipIdx_nil,List.foldl_nil];congr 1;simp only[World.aA];have af:b<w.heap.size:=by
   rcases Jh b w.heap.size with h'|h'
   ·exact h'
   ·simp[Jm h']at h
  have:w.heap.setIfInBounds b (.cells cs T (0,0))=w.heap:=by
   apply Jae;apply Jbd;intro j;simp only[Ju];by_cases hj:b=j
   ·subst hj;rw[h];simp[af]
   ·rw[Js hj]
  rw[this]
 |v::vs,i,w,b,k,cs,T,h,hb,hv=>by
  simp only[J8]at hb;have af:k+i<cs.size:=ZB
  have bZ:w.cell? ⟨b,k+i,none⟩=some cs[k+i]:=by rw[F8 h];exact Jc af
  have fG:w.frozen? ⟨b,k+i,none⟩=false:=by simp[World.frozen?,h]
  have h1:=hv v ZD;have aN:(store ⟨b,k+i,none⟩ v).run P w=.ok () (w.setCell ⟨b,k+i,none⟩ v):=by
   rw[run_store _ _ _ _ _ h1];simp[bZ,fG]
  have jN:b<w.heap.size:=by
   rcases Jh b w.heap.size with h'|h'
   ·exact h'
   ·simp[Jm h']at h
  simp only[storeCells,Sem.run_bind,DI,aN,Result.andThen_ok];rw[Qaee h];rw[IY vs (i+1) _ b k (cs.setIfInBounds (k+i) v) T (I5 jN) ZG (λx hx=>hv x Zbj)];rw[Q5p];rfl
theorem Qbps (hs:Sat H g w){l b:Nat}(hb:g.own b=some (l,[])){w':World}(bp:w'.heap.size=w.heap.size)(kw:∀b',b'≠b->w'.heap[b']? = w.heap[b']?)
  (iH:∀T n,w.shape? b=some (T,n)->w'.shape? b=some (T,n)) (ht:w'.tape=w.tape) (jv:w'.os=w.os) (tN:w'.output=w.output):Le g w g w':=by
 refine⟨λb' aW=>⟨aW,kw b' λh=>?_⟩,λ_ _ h=>h,ZB,λb' T n hn=>?_,ht,jv,tN⟩
 ·subst h;rw[hs.excl _ _ hb]at aW;simp at aW
 ·by_cases h:b'=b
  ·subst h;exact iH T n hn
  ·rw[SF (kw b' h)];exact hn
theorem Qa0w {l b:Nat}(hb:g.own b=some (l,[])){w':World}(kw:∀b',b'≠b->w'.heap[b']? = w.heap[b']?){m:Nat}(hm:m≠l):El g w g w' m:=by
 intro b' q hq;refine⟨hq,kw b' λh=>?_⟩;subst h;rw[hb]at hq;simp at hq;exact hm hq.1.symm
theorem IX {l b:Nat}(hb:g.own b=some (l,[])){w':World}(aS:Le g w g w')(kw:∀b',b'≠b->w'.heap[b']? = w.heap[b']?){q:List Nat}(hq:q≠[]){c:C}{v:Value}
  (h:RepO w g l q c v):RepO w' g l q c v:=by
 refine h.move aS λr b' aW=>⟨aW,kw b' λh=>?_⟩;subst h;rw[hb]at aW;simp only[Jb,Jo,true_and]at aW;have:=congrArg List.length aW;simp at this;exact hq (Jx.1 ZB)
theorem Q7d (hs:Sat H g w){l b:Nat}(hb:g.own b=some (l,[])){w':World}(bp:w'.heap.size=w.heap.size)(kw:∀b',b'≠b->w'.heap[b']? = w.heap[b']?)
  (iH:∀T n,w.shape? b=some (T,n)->w'.shape? b=some (T,n)) (ht:w'.tape=w.tape) (jv:w'.os=w.os) (tN:w'.output=w.output) (ob:Obj) (iK:H l≠.none)
  (bg:Le g w g w'->SatObj (H.set l ob) g w' l ob) (qg:∀v es,ob=.map v es->∃v0 es0,H l=.map v0 es0/\v0<v):Stp H g w (H.set l ob) g w':=by
 have aS:=Qbps hs hb bp kw iH ht jv tN;have hk:=λ(m:Nat) (hm:m≠l)=>Qa0w (g:=g) (w:=w) hb kw hm;refine⟨aS,λm hm hn=>?_,⟨λb' aW=>hs.fresh b' ZB,hs.names,hs.excl,hs.named,λm=>?_⟩⟩
 ·have:m≠l:=λh=>iK (h▸hn);rw[Heap.aj _ _ this];exact⟨hn,λb' q hq=>hk m this b' q hq⟩
 ·by_cases hm:m=l
  ·subst hm;rw[Heap.aF];exact bg aS
  ·have dT:=Heap.aj H ob hm;rw[dT,<-dT];refine SatObj.keep hs aS (hk m hm) dT λm' v left cur hc v' es hv=>?_;by_cases eT:m'=l
   ·subst eT;rw[Heap.aF]at hv;obtain⟨v0,es0,q1,q2⟩:=qg v' es hv;exact .inr ⟨v0,es0,q1,q2⟩
   ·rw[Heap.aj _ _ eT]at hv;exact .inl ⟨hv,hk m' eT⟩
theorem Gs {w:World}{b:Nat}{x:Go.Obj}(h:w.heap[b]? = some x):b<w.heap.size:=by
 rcases Jh b w.heap.size with h'|h'
 ·exact h'
 ·simp[Jm h']at h
theorem I4 (hs:Sat H g w){l b:Nat}(hb:g.own b=some (l,[])){cs cs':Array Value}{T:TypeId}(hw:w.heap[b]? = some (.cells cs T (0,0)))(bp:cs'.size=cs.size)(ob:Obj)(iK:H l≠.none)
  (bg:Le g w g (World.aA w b cs' T)->(World.aA w b cs' T).heap[b]? = some (.cells cs' T (0,0))->SatObj (H.set l ob) g (World.aA w b cs' T) l ob)
  (qg:∀v es,ob≠.map v es):Stp H g w (H.set l ob) g (World.aA w b cs' T):=by
 have af:=Gs hw;refine Q7d hs hb (by simp[World.aA]) (λb' h=>Gx h) (λT' n hn=>?_) rfl rfl rfl ob iK (λaS=>bg aS (I5 af)) (λv es h=>absurd h (qg v es));simp only[World.shape?,hw,Jb,Jo]at hn;simp only[World.shape?,I5 af,Jb,Jo];rw[bp];exact hn
theorem M8 {row vs:List C}{k j:Nat}(hb:k+vs.length<=row.length):(EU row k vs)[j]? = if k<=j/\j<k+vs.length then vs[j-k]? else row[j]?:=by
 unfold EU;by_cases hj:k<=j/\j<k+vs.length
 ·rw[if_pos hj,Jz,Jj ZG,Ji ZG];congr 1;simp;omega
 ·rw[if_neg hj];by_cases hl:j<k
  ·rw[Jz,Ji ZG,Jp,if_pos hl]
  ·rw[Jj ZG,Jr];congr 1;simp;omega
theorem M7 {row vs:List C}{k:Nat}(hb:k+vs.length<=row.length):(EU row k vs).length=row.length:=by
 simp[EU];omega
theorem Qb6m {n:Nat}{x y:Opd}{x' y':Operand}{t:TypeId}{i:TypeInfo}{K:V->Heap->Prop}(hm:o.op=.store t x' y')(hi:P.info? t=some i)(bp:i.size=n)(hx:mO x x'=true)(hy:mO y y'=true)
  (hs:Sat H g w) (he:EnvOk w g e a) (hp:p=true) (ho:(EOp.sto n x y).eff P p e H K):EOk P H g w a o K:=by
 simp only[EOp.eff]at ho;obtain⟨h1,h2,h3,h4,h5,h6⟩:=ho;have hr:=BS he hx hp h1;have jB:=BS he hy hp h2;have cG:=Ix jB (λhn=>by rw[hn]at h4;simp at h4;omega);rw[CH h3]at hr;have du:=hr.aO;generalize hq:a.eval x'=xv at du;generalize fH:(x.v e).c1=cc at du h6;have jE:∀v∈(a.eval y').cells.toList,v.oneCell'=true:=by
  intro v hv;obtain⟨j,hj⟩:=J2 hv;have b6:(a.eval y').cells[j]? = some v:=ZV
  have af:j<(y.v e).cells.length:=by
   rw[<-cG.1];rcases Jh j (a.eval y').cells.size with h|h
   ·exact h
   ·rw[Jm h]at b6;simp at b6
  exact (cG.2 j _ v (Jd af) b6).one
 have run:∀(b k:Nat) (cs:Array Value) (T:TypeId),xv=.pointer (some ⟨b,k,none⟩)->w.heap[b]? = some (.cells cs T (0,0))->k+n<=cs.size->
   ∃cs':Array Value,(execOp a.eval o).run P w=.ok .skip (World.aA w b cs' T)/\cs'.size=cs.size/\
    ∀j,cs'[j]? = if k<=j/\j<k+n then (a.eval y').cells[j-k]? else cs[j]?:=by
  intro b k cs T hv hw hb;have am:(a.eval y').cells.toList.length=n:=by simp[cG.1,h4]
  have hf:=λj=>Ij k (a.eval y').cells.toList 0 cs j ZR;refine⟨_,?_,(hf 0).1,λj=>?_⟩
  ·have rP:(a.eval y').cells.size=n:=by rw[cG.1,h4]
   simp only[execOp,hm,hq,hv,Instr.storeAt,Instr.sureAddr,Sem.run_bind,Sem.run_pure,Result.andThen_ok,storeVar,CD hi,bp];rw[if_neg (by simp[rP])];rw[IY _ 0 w b k cs T hw ZR jE];rfl
  ·rw[(hf j).2];simp only[J0,am,Ju]
 cases du with
 |ptr l k b sz base bP=>
  simp only[D9]at h6;split at h6
  ·rename_i cells hH
   obtain⟨h7,h8⟩:=h6;have bg:=hs.objs l;rw[hH]at bg;obtain⟨b',sz',T,cs,q1,q2,q3,q4,q5⟩:=bg;rw[bP]at q1;simp only[Jb,Jo]at q1;obtain⟨rfl,rfl,rfl⟩:=q1;obtain⟨cs',r1,r2,r3⟩:=run b (0+k) cs T rfl q3 ZB;refine EOk.skip (g':=g) r1 h8 ?_;refine I4 hs q2 q3 r2 _ Zaw (λaS fR=>?_) ZD;refine⟨b,sz,T,cs',bP,q2,fR,by rw[r2,q4,M7 h7],λj c v e1 e2=>?_⟩;rw[M8 h7]at e1;rw[r3]at e2;by_cases hj:k<=j/\j<k+(y.v e).cells.length
   ·rw[if_pos hj]at e1;rw[if_pos ZB]at e2;exact .plain _ _ _ _ ((cG.2 _ _ _ e1 (by rw[<-e2];congr 1;omega)).mono aS)
   ·rw[if_neg hj]at e1;rw[if_neg ZB]at e2;exact IX q2 aS (λb' h=>Gx h) ZD (q5 j c v e1 e2)
  ·exact h6.elim
 |ep s z i k b off m cap eK hz dH=>
  simp only[D9]at h6;split at h6
  ·simp_all
  ·rename_i l sz st nn z' i' k' i8
   simp only[C.ep.injEq]at i8;obtain⟨rfl,rfl,rfl,rfl⟩:=i8;split at h6
   ·rename_i y' rows hH
    obtain⟨rfl,rfl,h7,h8,h9,db⟩:=h6;have bg:=hs.objs l;rw[hH]at bg
    cases eK with
    |bK=>omega
    |ah _ _ _ _ _ _ base T mm bP hn iH ez=>
     obtain⟨b',base',T',cs,val,q1,q2,q3,q4,q5,q6,q7,q8⟩:=SatVec.of bg bP;rw[bP]at q1;simp only[Jb,Jo,true_and]at q1;obtain⟨rfl,rfl⟩:=q1;have aC:rows[st+i]? = some (rows.getD (st+i) []):=by
      rw[J1,Jd ZB];rfl
     generalize ew:rows.getD (st+i) []=row at aC db;have cA:=q6 _ _ aC;have aR:(st+i) * z+z<=rows.length * z:=by
      have:(st+i+1) * z<=rows.length * z:=Jl _ ZB;rw[Jk,Jai]at this;exact this
     obtain⟨cs',r1,r2,r3⟩:=run b (base+st * z+i * z+k) cs T' rfl q3 (by
      have:st * z+i * z=(st+i) * z:=(by rw[Jk]);omega)
     refine EOk.skip (g':=g) r1 db ?_;refine I4 hs q2 q3 r2 _ Zaw (λaS fR=>?_) ZD;have iO:k+(y.v e).cells.length<=row.length:=ZB;have eL:∀(i2:Nat) (row2:List C) (j:Nat) (c:C),(rows.set (st+i) (EU row k (y.v e).cells))[i2]? = some row2->row2[j]? = some c->
       ∃v,cs'[base+i2 * z+j]? = some v/\RepO (World.aA w b cs' T') g l [i2,j] c v:=by
      intro i2 row2 j c e1 e2;have aN:st * z+i * z=(st+i) * z:=(by rw[Jk]);rw[Jaq]at e1;split at e1
      ·rename_i uu
       subst uu;rw[if_pos ZB]at e1;simp only[Jb]at e1;subst e1;rw[M8 iO]at e2;by_cases hj:k<=j/\j<k+(y.v e).cells.length
       ·rw[if_pos hj]at e2;have cN:j-k<(a.eval y').cells.size:=(by rw[cG.1];omega);refine⟨(a.eval y').cells[j-k],?_,?_⟩
        ·rw[r3,if_pos ZB];rw[show base+(st+i) * z+j-(base+st * z+i * z+k)=j-k by omega];exact Jc cN
        ·exact .plain _ _ _ _ ((cG.2 _ _ _ e2 (Jc cN)).mono aS)
       ·rw[if_neg hj]at e2;refine⟨val (st+i) j,?_,IX q2 aS (λb' h=>Gx h) ZD (q8 _ _ _ _ aC e2)⟩;rw[r3,if_neg ZB];exact q7 _ _ _ _ aC e2
      ·rename_i uu
       have cL:=q6 _ _ e1;have jK:j<z:=by
        rw[<-cL];rcases Jh j row2.length with h|h
        ·exact h
        ·rw[Jf h]at e2;simp at e2
       refine⟨val i2 j,?_,IX q2 aS (λb' h=>Gx h) ZD (q8 _ _ _ _ e1 e2)⟩;rw[r3,if_neg ?_]
       ·exact q7 _ _ _ _ e1 e2
       ·intro gP;rcases Jh i2 (st+i)with h|h
        ·have:(i2+1) * z<=(st+i) * z:=Jl _ ZB;rw[Jk,Jai]at this;omega
        ·have:(st+i+1) * z<=i2 * z:=Jl _ ZB;rw[Jk,Jai]at this;omega
     refine .inr ⟨b,base,T',cs',λi2 j=>cs'.getD (base+i2 * z+j) undef,bP,q2,fR,by rw[r2];simpa using q4,by simpa using q5,λi2 row2 e1=>?_,λi2 row2 j c e1 e2=>?_,λi2 row2 j c e1 e2=>?_⟩
     ·rw[Jaq]at e1;split at e1
      ·rw[if_pos ZB]at e1;simp only[Jb]at e1;subst e1;rw[M7 iO];exact cA
      ·exact q6 _ _ e1
     ·obtain⟨v,f1,f2⟩:=eL i2 row2 j c e1 e2;show _=some (cs'.getD (base+i2 * z+j) undef);rw[Je,f1];rfl
     ·obtain⟨v,f1,f2⟩:=eL i2 row2 j c e1 e2;show RepO _ _ _ _ _ (cs'.getD (base+i2 * z+j) undef);rw[Je,f1];exact f2
   ·exact h6.elim
  ·exact h6.elim
 |_=>simp[D9]at h6
theorem G5 {i j n sz:Nat}(hi:i<n)(hj:j<sz):i * sz+j<n * sz:=by
 have:(i+1) * sz<=n * sz:=Jl _ ZB;rw[Jk,Jai]at this;omega
theorem DK {q n sz:Nat}(h:q<n * sz):q / sz<n/\q % sz<sz/\q / sz * sz+q % sz=q:=by
 have hz:0<sz:=by
  rcases Jag sz with h0|h0
  ·subst h0;simp at h
  ·exact h0
 exact⟨Nat.div_lt_of_lt_mul (by rw[Ja2];exact h),Jbf _ hz,by rw[Ja2];exact Nat.div_add_mod q sz⟩
theorem If (hs:Sat H g w){s:C}{v:Value}(h:RepC w g s v)(ho:aZ H s){sz:Nat}(hz:s.aP=sz)(hn:∀r∈rowsOf H s,ak r=true) :
  ∃f:Nat->Value,(Builtin.firstCells sz (ay s) v).run P w=.ok ((List.range (ay s * sz)).map f).toArray w/\
   (∀q,q<ay s * sz->(f q).oneCell'=true)/\
   ∀(i:Nat) (row:List C) (j:Nat) (c:C),(rowsOf H s)[i]? = some row->row[j]? = some c->RepC w g c (f (i * sz+j)):=by
 obtain⟨ad,cap,rfl,h1,h2,h3,h4⟩:=G7 hs h ho;by_cases h0:ay s=0
 ·refine⟨λ_=>undef,?_,λq hq=>by rw[h0]at hq;simp at hq,λi row j c e1 _=>?_⟩
  ·rw[h0]
   cases ad with
   |none=>simp[Builtin.firstCells]
   |some x=>simp[Builtin.firstCells,loadCells,loadCellsFrom]
  ·have:(rowsOf H s)[i]? = none:=Jf ZB;rw[this]at e1;simp at e1
 ·obtain⟨b,off,rfl,h5⟩:=h4 h0;rw[hz]at h3 h5;have known:∀(i:Nat) (row:List C) (j:Nat) (c:C),(rowsOf H s)[i]? = some row->row[j]? = some c->w.cell? ⟨b,off+(i * sz+j),none⟩=some (getV w b off (i * sz+j))/\RepC w g c (getV w b off (i * sz+j)):=by
   intro i row j c e1 e2;obtain⟨u,k1,k2⟩:=h5 i row j c e1 e2 (Ky (hn row (Jg e1)) e2);rw[Jat]at k1;simp only[getV,k1,Jv];exact⟨trivial,k2⟩
  have flat:∀q,q<ay s * sz->w.cell? ⟨b,off+q,none⟩=some (getV w b off q)/\(getV w b off q).oneCell'=true:=by
   intro q hq;obtain⟨a1,a2,a3⟩:=DK hq;have e1:(rowsOf H s)[q / sz]? = some ((rowsOf H s)[q / sz]'ZB):=Jd ZB;have hl:=h3 _ _ e1;have e2:((rowsOf H s)[q / sz]'ZB)[q % sz]? = some (((rowsOf H s)[q / sz]'ZB)[q % sz]'ZB):=Jd ZB;have:=known _ _ _ _ e1 e2;rw[a3]at this;exact⟨this.1,this.2.one⟩
  refine⟨getV w b off,?_,λq hq=>(flat q hq).2,λi row j c e1 e2=>(known i row j c e1 e2).2⟩;simp only[Builtin.firstCells];exact run_loadCells w _ _ _ λj hj=>by rw[DI];exact (flat j hj).1
theorem R5 (n:Nat):∀(r c:Nat),Builtin.growBy n r c<=max c (n+(n+768) / 4)
 |0,c=>by simp[Builtin.growBy];omega
 |r+1,c=>by
  simp only[Builtin.growBy];split
  ·omega
  ·have:=R5 n r (c+(c+768) / 4);omega
theorem Qbmf {need cap:Nat}(h:cap<need):Builtin.nextslicecap need cap<=2 * need+512:=by
 unfold Builtin.nextslicecap;split
 ·omega
 ·split
  ·omega
  ·have:=R5 need 4 cap;omega
theorem Q5r {ats:Array TypeId}{ty t t2 el el2:TypeId}{i:TypeInfo}{sz:Nat}(h0:ats[0]? = some t)(h1:ats[1]? = some t2)(hu:P.underlying t=some (.slice el))(eJ:P.underlying t2=some (.slice el2))
  (hi:P.info? el=some i) (hz:i.size=sz) {base:Option Addr} {n cap m cap2:Nat} {a2:Option Addr} {f:Nat->Value} (fp:n+m<=cap)
  (hf:(Builtin.firstCells sz m (.slice a2 m cap2)).run P w=.ok ((List.range (m * sz)).map f).toArray w)
  {w':World} (aN:∀x,base=some x->(storeCells (x.add (n * sz)) ((List.range (m * sz)).map f)).run P w=.ok () w') (mi:base=none->w'=w) :
  (Builtin.append_ ats ty #[.slice base n cap,.slice a2 m cap2]).run P w=.ok (.slice base (n+m) cap) w':=by
 simp only[Builtin.append_,h0,h1];simp[BT hu,BT eJ,CD hi,hz,Builtin.lenOf,fp,hf]
 cases base with
 |none=>simp[mi rfl]
 |some x=>simp[aN x rfl]
theorem Nn {ats:Array TypeId}{ty t t2 el el2:TypeId}{i:TypeInfo}{sz:Nat}{z:Value}(h0:ats[0]? = some t)(h1:ats[1]? = some t2)(hu:P.underlying t=some (.slice el))(eJ:P.underlying t2=some (.slice el2))
  (hi:P.info? el=some i) (hz:i.size=sz) (cj:i.zero=some z) (gU:z.cells.size=sz) (rC:i.bytes<=128) (o6:i.bytes≠0) {base:Option Addr} {n cap m cap2:Nat} {a2:Option Addr} {f f1:Nat->Value} (fp:¬n+m<=cap) (fF:n+m<=LIM)
  (lr:(Builtin.firstCells sz m (.slice a2 m cap2)).run P w.drew=.ok ((List.range (m * sz)).map f).toArray w.drew)
  (mD:(Builtin.firstCells sz n (.slice base n cap)).run P w.drew=.ok ((List.range (n * sz)).map f1).toArray w.drew) :
  ∃(newCap:Nat) (rest:Array Value),n+m<=newCap/\rest.size=(newCap-(n+m)) * sz/\
   (Builtin.append_ ats ty #[.slice base n cap,.slice a2 m cap2]).run P w=.ok (.slice (some ⟨w.heap.size,0,none⟩) (n+m) newCap)
    (w.drew.alloc (.cells (((List.range (n * sz)).map f1).toArray++((List.range (m * sz)).map f).toArray++rest) el)):=by
 rw[E3]at fF;have vC:=Qbmf (Nat.lt_of_not_le fp);have tX:Builtin.nextslicecap (n+m) cap * i.bytes<=(2 * (n+m)+512) * 128:=Nat.mul_le_mul vC rC;have h48:(2:Nat) ^ 48=281474976710656:=ZO
 generalize eL:(Question.appendCap (n+m) cap el).cut (w.tape w.drawn (.appendCap (n+m) cap el))=newCap;refine⟨newCap,Builtin.zeroCells z.cells (newCap-(n+m)),?_,?_,?_⟩
 ·rw[<-eL];simp[Question.cut]
 ·simp[Builtin.zeroCells,gU]
 ·simp only[Builtin.append_,h0,h1];simp[BT hu,BT eJ,CD hi,hz,Builtin.lenOf,fp,IK hi,o6];rw[if_neg ZB];simp[Question.forced,eL,mD,lr,DF hi cj,newRow];rw[<-Jam];simp
def G.handOver (g:G)(l l' st n nb sz base:Nat):G:=
 { g with
  own:=λb=>if b=nb then some (l',[])else match g.own b with
   |none=>none
   |some (m,[])=>if m=l then none else some (m,[])
   |some (m,i::r)=>if m=l then (if st<=i/\i<st+n then some (l',(i-st)::r)else none)else some (m,i::r)
  io:=λx=>if x=l' then some (nb,sz,base)else g.io x }
theorem Qana {l l' st n nb sz base b m:Nat}{q:List Nat}(hb:g.own b=some (m,q))(hm:m≠l)(oe:b≠nb):(g.handOver l l' st n nb sz base).own b=some (m,q):=by
 simp only[G.handOver,if_neg oe,hb]
 cases q with
 |nil=>simp[hm]
 |cons i r=>simp[hm]
theorem Q13 {l l' st n nb sz base b i:Nat}{r:List Nat}(hb:g.own b=some (l,(st+i)::r))(hi:i<n)(oe:b≠nb):(g.handOver l l' st n nb sz base).own b=some (l',i::r):=by
 simp only[G.handOver,if_neg oe,hb];simp[hi]
theorem Pp (hs:Sat H g w){l l':Nat}(dm:g.io l'=none)(hl:H l≠.none){st n nb sz base:Nat}{w':World}{rows:List (List C)}
  (oe:(nb<w.heap.size/\g.own nb=some (l,[]))\/nb=w.heap.size) (bp:w.heap.size<=w'.heap.size) (lc:nb<w'.heap.size) (nL:w'.heap.size<=max w.heap.size (nb+1)) (kw:∀b,b≠nb->b<w.heap.size->w'.heap[b]? = w.heap[b]?)
  (iH:nb<w.heap.size->∀T k,w.shape? nb=some (T,k)->w'.shape? nb=some (T,k)) (ht:w'.tape=w.tape) (jv:w'.os=w.os) (tN:w'.output=w.output)
  (bg:Le g w (g.handOver l l' st n nb sz base) w'->SatVec (g.handOver l l' st n nb sz base) w' l' sz rows) (AG:∀v es,H l≠.map v es) :
  Stp H g w ((H.set l .none).set l' (.vec sz rows)) (g.handOver l l' st n nb sz base) w':=by
 have jI:l≠l':=λh=>by subst h;exact hl (hs.none_of_io dm)
 have df:g.per nb=false:=by
  rcases oe with ⟨_,h⟩|h
  ·exact hs.excl _ _ h
  ·exact (hs.fresh nb ZB).1
 have aS:Le g w (g.handOver l l' st n nb sz base) w':=by
  refine⟨λb hb=>⟨hb,kw b (λh=>by subst h;rw[df]at hb;simp at hb) (GK hs hb)⟩,λm x hm=>?_,bp,λb T k hn=>?_,ht,jv,tN⟩
  ·simp only[G.handOver];have:m≠l':=λh=>by subst h;rw[dm]at hm;simp at hm
   rw[if_neg this];exact hm
  ·have af:=Hw hn;by_cases h:b=nb
   ·subst h;exact iH af T k hn
   ·rw[SF (kw b h af)];exact hn
 have bd:∀(m b:Nat) (q:List Nat),g.own b=some (m,q)->m≠l->b≠nb:=by
  intro m b q hb hm h;subst h;rcases oe with ⟨_,h⟩|h
  ·rw[hb]at h;simp at h;exact hm h.1
  ·have:=Ef hs hb;omega
 have hk:∀m,m≠l->El g w (g.handOver l l' st n nb sz base) w' m:=by
  intro m hm b q hb;have h1:=bd m b q hb hm;exact⟨Qana hb hm h1,kw b h1 (Ef hs hb)⟩
 refine⟨aS,λm hm hn=>?_,⟨λb hb=>?_,?_,λb y hb=>?_,λb m q hb=>?_,λm=>?_⟩⟩
 ·have h1:m≠l':=λh=>by subst h;exact hm dm
  have h2:m≠l:=λh=>by subst h;exact hl hn
  rw[Heap.aj _ _ h1,Heap.aj _ _ h2];exact⟨hn,λb q hb=>hk m h2 b q hb⟩
 ·have h1:w.heap.size<=b:=ZB
  have h2:b≠nb:=ZB
  refine⟨(hs.fresh b h1).1,?_⟩;simp only[G.handOver,if_neg h2,(hs.fresh b h1).2]
 ·obtain⟨N,hN⟩:=hs.names;refine⟨max N (l'+1),λm hm=>?_⟩;simp only[G.handOver];rw[if_neg ZB];exact hN m ZB
 ·by_cases h:b=nb
  ·subst h;exact df
  ·have:∃z,g.own b=some z:=by
    simp only[G.handOver,if_neg h]at hb
    cases ho:g.own b with
    |none=>rw[ho]at hb;simp at hb
    |some z=>exact⟨z,rfl⟩
   obtain⟨z,hz⟩:=this;exact hs.excl b z hz
 ·simp only[G.handOver]at hb⊢;split
  ·simp
  ·rename_i iZ
   split at hb
   ·simp at hb;exact absurd hb.1.symm iZ
   ·split at hb
    ·simp at hb
    ·rename_i m0 ho
     split at hb
     ·simp at hb
     ·simp at hb;obtain⟨rfl,rfl⟩:=hb;exact hs.named _ _ _ ho
    ·rename_i m0 i r ho
     split at hb
     ·split at hb
      ·simp at hb;exact absurd hb.1.symm iZ
      ·simp at hb
     ·simp at hb;obtain⟨rfl,rfl⟩:=hb;exact hs.named _ _ _ ho
 ·by_cases eT:m=l'
  ·subst eT;rw[Heap.aF];exact .inr (bg aS)
  ·rw[Heap.aj _ _ eT];by_cases hm:m=l
   ·subst hm;rw[Heap.aF];trivial
   ·have dT:((H.set l .none).set l' (.vec sz rows)) m=H m:=(by rw[Heap.aj _ _ eT,Heap.aj _ _ hm]);rw[Heap.aj _ _ hm,<-dT];refine SatObj.keep hs aS (hk m hm) dT λk v left cur hc v' es hv=>?_;by_cases h1:k=l'
    ·subst h1;rw[Heap.aF]at hv;simp at hv
    ·rw[Heap.aj _ _ h1]at hv;by_cases h2:k=l
     ·subst h2;rw[Heap.aF]at hv;simp at hv
     ·rw[Heap.aj _ _ h2]at hv;exact .inl ⟨hv,hk k h2⟩
theorem IE {g':G}{w':World}{l' sz nb base n m:Nat}{T:TypeId}{arr:Array Value}{R1 R2:List (List C)}(bP:g'.io l'=some (nb,sz,base))(jD:g'.own nb=some (l',[]))
  (hw:w'.heap[nb]? = some (.cells arr T (0,0))) (aR:base+(n+m) * sz<=arr.size) (fF:n+m<=LIM) (ie:R1.length=n) (vd:R2.length=m)
  (qV:∀(i:Nat) (row:List C),R1[i]? = some row->row.length=sz) (kB:∀(i:Nat) (row:List C),R2[i]? = some row->row.length=sz)
  (h1:∀(i:Nat) (row:List C) (j:Nat) (c:C),R1[i]? = some row->row[j]? = some c->∃v,arr[base+i * sz+j]? = some v/\RepO w' g' l' [i,j] c v)
  (h2:∀(i:Nat) (row:List C) (j:Nat) (c:C),R2[i]? = some row->row[j]? = some c->∃v,arr[base+(n+i) * sz+j]? = some v/\RepC w' g' c v) :
  SatVec g' w' l' sz (R1++R2):=by
 have bT:∀(i:Nat) (row:List C) (j:Nat) (c:C),(R1++R2)[i]? = some row->row[j]? = some c->∃v,arr[base+i * sz+j]? = some v/\RepO w' g' l' [i,j] c v:=by
  intro i row j c e1 e2;by_cases hi:i<n
  ·rw[Ji ZB]at e1;exact h1 i row j c e1 e2
  ·rw[Jj ZB]at e1;obtain⟨v,k1,k2⟩:=h2 (i-R1.length) row j c e1 e2;rw[ie,show n+(i-n)=i by omega]at k1;exact⟨v,k1,.plain _ _ _ _ k2⟩
 refine⟨nb,base,T,arr,λi j=>arr.getD (base+i * sz+j) undef,bP,jD,hw,by rw[Jaf,ie,vd];exact aR,by rw[Jaf,ie,vd];exact fF,λi row e1=>?_,λi row j c e1 e2=>?_,λi row j c e1 e2=>?_⟩
 ·by_cases hi:i<n
  ·rw[Ji ZB]at e1;exact qV i row e1
  ·rw[Jj ZB]at e1;exact kB _ row e1
 ·obtain⟨v,k1,k2⟩:=bT i row j c e1 e2;show _=some (arr.getD (base+i * sz+j) undef);rw[Je,k1];rfl
 ·obtain⟨v,k1,k2⟩:=bT i row j c e1 e2;show RepO _ _ _ _ _ (arr.getD (base+i * sz+j) undef);rw[Je,k1];exact k2
theorem LV {n m sz:Nat}{f1 f:Nat->Value}{rest:Array Value} :
  (∀i j,i<n->j<sz->(((List.range (n * sz)).map f1).toArray++((List.range (m * sz)).map f).toArray++rest)[0+i * sz+j]? = some (f1 (i * sz+j)))/\
  (∀i j,i<m->j<sz->(((List.range (n * sz)).map f1).toArray++((List.range (m * sz)).map f).toArray++rest)[0+(n+i) * sz+j]? = some (f (i * sz+j))):=by
 constructor
 ·intro i j hi hj;have:=G5 hi hj;rw[Jam,Jal ZG];simp only[Jay,Jn,J5];rw[Jad this];rfl
 ·intro i j hi hj;have:=G5 hi hj;have e0:0+(n+i) * sz+j=n * sz+(i * sz+j):=Za7
  rw[e0,Jam,Array.getElem?_append_right ZD];rw[Jal ZG];simp only[Jay,Jn,List.size_toArray,List.length_map,Jbe,Nat.add_sub_cancel_left];rw[Jad this];rfl
def G.newVirt (g:G)(l sz:Nat):G:={ g with io:=λx=>if x=l then some (0,sz+1,0)else g.io x }
theorem NF (hs:Sat H g w){l:Nat}(hl:g.io l=none)(sz:Nat):Stp H g w (H.set l (.vec sz [])) (g.newVirt l sz) w:=by
 have aS:Le g w (g.newVirt l sz) w:=by
  refine⟨λb hb=>⟨hb,rfl⟩,λm x hm=>?_,Jw _,λ_ _ _ h=>h,rfl,rfl,rfl⟩;simp only[G.newVirt];have:m≠l:=λh=>by subst h;rw[hl]at hm;simp at hm
  rw[if_neg this];exact hm
 have hk:∀m,El g w (g.newVirt l sz) w m:=λm b q hb=>⟨hb,rfl⟩;refine⟨aS,λm hm hn=>?_,⟨hs.fresh,?_,hs.excl,λb m q hb=>?_,λm=>?_⟩⟩
 ·have:m≠l:=λh=>by subst h;exact hm hl
  rw[Heap.aj _ _ this];exact⟨hn,λb q hb=>hk m b q hb⟩
 ·obtain⟨N,hN⟩:=hs.names;refine⟨max N (l+1),λm hm=>?_⟩;simp only[G.newVirt];rw[if_neg ZB];exact hN m ZB
 ·simp only[G.newVirt];split
  ·simp
  ·exact hs.named b m q hb
 ·by_cases hm:m=l
  ·subst hm;rw[Heap.aF];exact .inl ⟨rfl,_,by simp[G.newVirt];rfl,ZD⟩
  ·have dT:=Heap.aj H (.vec sz []) hm;rw[dT,<-dT];refine SatObj.keep hs aS (hk m) dT λm' v left cur hc v' es hv=>?_;by_cases eT:m'=l
   ·subst eT;rw[Heap.aF]at hv;simp at hv
   ·rw[Heap.aj _ _ eT]at hv;exact .inl ⟨hv,hk m'⟩
theorem VG (hs:Sat H g w)(l:Nat)(hm:∀v es,H l≠.map v es):Stp H g w (H.set l .none) g w:=by
 refine⟨.refl _ _,λm hm hn=>?_,⟨hs.fresh,hs.names,hs.excl,hs.named,λm=>?_⟩⟩
 ·by_cases h:m=l
  ·subst h;rw[Heap.aF];exact⟨rfl,λb q hb=>⟨hb,rfl⟩⟩
  ·rw[Heap.aj _ _ h];exact⟨hn,λb q hb=>⟨hb,rfl⟩⟩
 ·by_cases h:m=l
  ·subst h;rw[Heap.aF];trivial
  ·have dT:=Heap.aj H .none h;rw[dT,<-dT];refine SatObj.keep hs (.refl _ _) (λb q hb=>⟨hb,rfl⟩) dT λm' v left cur hc v' es hv=>?_;by_cases eT:m'=l
   ·subst eT;rw[Heap.aF]at hv;simp at hv
   ·rw[Heap.aj _ _ eT]at hv;exact .inl ⟨hv,λb q hb=>⟨hb,rfl⟩⟩
theorem Qb6f {sz:Nat}{x y:Opd}{x' y':Operand}{ats:Array TypeId}{t t2 el el2:TypeId}{i:TypeInfo}{z:Value}{K:V->Heap->Prop}
  (hm:o.op=.call { callee:=.builtin .append,args:=#[x',y'],argTypes:=ats }) (h0:ats[0]? = some t) (h1:ats[1]? = some t2) (hu:P.underlying t=some (.slice el)) (eJ:P.underlying t2=some (.slice el2))
  (hi:P.info? el=some i) (hz:i.size=sz) (cj:i.zero=some z) (gU:z.cells.size=sz) (rC:i.bytes<=128) (o6:i.bytes≠0) (hx:mO x x'=true) (hy:mO y y'=true)
  (hs:Sat H g w) (he:EnvOk w g e a) (hp:p=true) (ho:(EOp.app sz x y).eff P p e H K):EOk P H g w a o K:=by
 simp only[EOp.eff]at ho;obtain⟨q1,q2,q3,q4,q5⟩:=ho;have gY:=BS he hx hp q1;have jB:=BS he hy hp q2;rw[CH q3]at gY;rw[CH q4]at jB;have jL:=gY.aO;have gO:=jB.aO;generalize nO:a.eval x'=xv at jL;generalize xn:a.eval y'=yv at gO;generalize (x.v e).c1=A at jL q5;generalize (y.v e).c1=B at gO q5;have ee:(execOp a.eval o).run P w=((Builtin.append_ ats o.type #[xv,yv]).run P w).andThen λv w'=>.ok (.value v) w':=by
  simp[execOp,hm,resolve,invoke,builtin,nO,xn]
 unfold appT at q5;obtain⟨b1,b2,q5⟩:=q5;obtain⟨ady,capy,na,by1,by2,by3,by4⟩:=G7 hs gO b1;rw[b2]at by3;have jV:=KI hs;split at q5
 ·
  rename_i z' rows
  obtain⟨rfl,c2,c3,c4,c5⟩:=q5;have sr:∀r∈rowsOf H B,ak r=true:=λr hr=>c3 r (Ja0 _ hr);have kg:∃ad,xv=.slice ad rows.length rows.length:=by
   cases jL with
   |bV _ _ ad=>exact⟨ad,rfl⟩
   |sl _ _ _ b off cap val hl hf fm df ew s0 ni=>rw[hf rfl];exact⟨_,rfl⟩
  obtain⟨ad,rfl⟩:=kg;by_cases mq:ay B=0
  ·have bI:rows=[]:=by
    rcases c2 with h|h
    ·exact h
    ·exact absurd (Jx.1 ZB) h
   subst bI;obtain⟨l,hl,Ag⟩:=hs.newName;obtain⟨f,f1,f2,f3⟩:=If hs gO b1 b2 sr;rw[na]at f1;have cE:=Q5r (P:=P) (w:=w) (ty:=o.type) (base:=ad) (n:=0) (cap:=0) (m:=ay B) h0 h1 hu eJ hi hz ZB f1 (w':=w)
    (λx _=>by rw[mq];simp[storeCells]) (λ_=>rfl)
   refine EOk.value (v:=.slice ad (0+ay B) 0) (by rw[ee,na];simp only[Jaz];rw[cE];rfl) (c5 l Ag) ?_ ?_ (g':=g.newVirt l z')
   ·have xl:rowsOf H B=[]:=Jx.1 ZB;rw[xl];exact NF hs hl z'
   ·simp only[Jaz,mq,J0];exact .c _ _ (.bK _ _ _ _)
  ·obtain⟨l,hl,Ag⟩:=jV.sat.newName;have zv:=jL.mono jV.le;have ry:=gO.mono jV.le;have hA:∀r∈rowsOf H (C.sl true z' rows),ak r=true:=λr hr=>c3 r (Ja3 _ hr);obtain⟨f,f1,f2,f3⟩:=If jV.sat ry b1 b2 sr;obtain⟨f',f1',f2',f3'⟩:=If jV.sat zv (s:=.sl true z' rows) trivial (sz:=z') rfl hA;rw[na]at f1;simp only[ay]at f1';obtain⟨newCap,rest,k1,k2,k3⟩:=Nn (P:=P) (w:=w) (ty:=o.type) h0 h1 hu eJ hi hz cj gU rC o6 (base:=ad) (n:=rows.length) (cap:=rows.length) (m:=ay B) ZB c4 f1 f1';have b7:=LV (n:=rows.length) (m:=ay B) (sz:=z') (f1:=f') (f:=f) (rest:=rest);generalize eB:(((List.range (rows.length * z')).map f').toArray++((List.range (ay B * z')).map f).toArray++rest)=arr at k3 b7;have mS:arr.size=newCap * z':=by
    rw[<-eB];simp[k2];rw[<-Jk,<-Jk];congr 1;omega
   have aN:=Ff jV.sat hl z' 0 (.cells arr el) (.vec z' (rows++rowsOf H B)) (λg' hg=>by
    subst hg;have aS:=Gt jV.sat hl z' 0 (.cells arr el);refine .inr (IE (nb:=w.drew.heap.size) (base:=0) (T:=el) (arr:=arr) (n:=rows.length) (m:=ay B) ZK ZK (DR _ _)
     (by rw[mS,J5];exact Jl _ k1) c4 rfl ZB ?_ by3 ?_ ?_)
    ·cases jL with
     |bV=>simp
     |sl _ _ _ b off cap val hl hf fm df ew s0 ni=>exact ew
    ·intro i row j c e1 e2;have AM:row.length=z':=by
      cases jL with
      |bV=>simp at e1
      |sl _ _ _ b off cap val hl hf fm df ew s0 ni=>exact ew _ _ e1
     refine⟨f' (i * z'+j),b7.1 i j ?_ ?_,.plain _ _ _ _ ((f3' i row j c e1 e2).mono aS)⟩
     ·rcases Jh i rows.length with h|h
      ·exact h
      ·rw[Jf h]at e1;simp at e1
     ·rw[<-AM];rcases Jh j row.length with h|h
      ·exact h
      ·rw[Jf h]at e2;simp at e2
    ·intro i row j c e1 e2;refine⟨f (i * z'+j),b7.2 i j ?_ ?_,(f3 i row j c e1 e2).mono aS⟩
     ·rcases Jh i (rowsOf H B).length with h|h
      ·omega
      ·rw[Jf h]at e1;simp at e1
     ·rw[<-by3 i row e1];rcases Jh j row.length with h|h
      ·exact h
      ·rw[Jf h]at e2;simp at e2)
   refine EOk.value (v:=.slice (some ⟨w.heap.size,0,none⟩) (rows.length+ay B) newCap) (by rw[ee,na,k3];rfl) (c5 l Ag) (jV.trans aN) ?_;have:=RepC.ah (w:=w.drew.alloc (.cells arr el)) (g:=g.newObj l w.drew.heap.size z' 0) l z' 0 (rows.length+ay B) newCap w.heap.size 0 el arr.size ZK k1
    Zac (by rw[mS];simp)
   simpa using RepV.c _ _ this
 ·
  rename_i l z' st n
  split at q5
  ·rename_i y0 rows hH
   obtain⟨we,wj,c2,sr,c4,c5⟩:=q5;subst wj;subst we;have bg:=hs.objs l;rw[hH]at bg;have oi:H l≠.none:=Zaw
   have jH:∀v es,H l≠.map v es:=Zaw
   have mM:(∃ad,xv=.slice ad 0 0/\n=0)\/∃b base cap T mm,xv=.slice (some ⟨b,base+st * z',none⟩) n cap/\g.io l=some (b,z',base)/\n<=cap/\w.shape? b=some (T,mm)/\base+(st+cap) * z'<=mm:=by
    cases jL with
    |bK _ _ _ ad=>exact .inl ⟨ad,rfl,rfl⟩
    |ah _ _ _ _ cap b base T mm bP hn iH ez=>exact .inr ⟨b,base,cap,T,mm,rfl,bP,hn,iH,ez⟩
   have bF:((rows.drop st).take n).length=n:=ZG
   have iT:∀(i:Nat) (row:List C),((rows.drop st).take n)[i]? = some row->i<n/\rows[st+i]? = some row:=by
    intro i row h;simp only[Jp,Jr]at h;split at h
    ·exact⟨by assumption,h⟩
    ·simp at h
   have jlt:∀{row:List C} {j:Nat} {c:C} {k:Nat},row.length=k->row[j]? = some c->j<k:=by
    intro row j c k hk hj;rw[<-hk];rcases Jh j row.length with h|h
    ·exact h
    ·rw[Jf h]at hj;simp at hj
   have grow:∀(ad:Option Addr) (cap:Nat),xv=.slice ad n cap->¬n+ay B<=cap->EOk P H g w a o K:=by
    intro ad cap kg sn;have ry:=gO.mono jV.le;obtain⟨f,f1,f2,f3⟩:=If jV.sat ry b1 b2 sr;rw[na]at f1;have jF:∃f':Nat->Value,(Builtin.firstCells z' n (.slice ad n cap)).run P w.drew=.ok ((List.range (n * z')).map f').toArray w.drew/\
      ∀(i:Nat) (row:List C) (j:Nat) (c:C),((rows.drop st).take n)[i]? = some row->row[j]? = some c->RepO w g l [st+i,j] c (f' (i * z'+j)):=by
     rcases mM with ⟨ad',h1,h2⟩|⟨b,base,cap',T,mm,h1,h2,h3,h4,h5⟩
     ·rw[kg]at h1;simp only[Value.slice.injEq]at h1;subst h2;refine⟨λ_=>undef,?_,λi row j c e1 _=>by simp at e1⟩
      cases ad with
      |none=>simp[Builtin.firstCells]
      |some q=>simp[Builtin.firstCells,loadCells,loadCellsFrom]
     ·rw[kg]at h1;simp only[Value.slice.injEq]at h1;obtain⟨rfl,_,rfl⟩:=h1;obtain⟨b',base',T',cs,val,r1,r2,r3,r4,r5,r6,r7,r8⟩:=SatVec.of bg h2;rw[h2]at r1;simp only[Jb,Jo,true_and]at r1;obtain⟨rfl,rfl⟩:=r1;have aR:(st+n) * z'<=rows.length * z':=Jl _ c2;rw[Jk]at aR;refine⟨λq=>cs.getD (base+st * z'+q) undef,?_,λi row j c e1 e2=>?_⟩
      ·simp only[Builtin.firstCells];refine run_loadCells _ _ _ _ λj hj=>?_;rw[DI];rw[show w.drew.cell? ⟨b,base+st * z'+j,none⟩=w.cell? ⟨b,base+st * z'+j,none⟩ from rfl,F8 r3];rw[Je,Jc ZB];rfl
      ·obtain⟨hi,e1'⟩:=iT i row e1;have:=r7 _ _ _ _ e1' e2;rw[Jk]at this;have e3:base+st * z'+(i * z'+j)=base+(st * z'+i * z')+j:=ZB;show RepO _ _ _ _ _ (cs.getD (base+st * z'+(i * z'+j)) undef);rw[e3,Je,this];exact r8 _ _ _ _ e1' e2
    obtain⟨f',f1',f3'⟩:=jF;obtain⟨newCap,rest,k1,k2,k3⟩:=Nn (P:=P) (w:=w) (ty:=o.type) h0 h1 hu eJ hi hz cj gU rC o6 (base:=ad) (n:=n) (cap:=cap) (m:=ay B) sn c4 f1 f1';have b7:=LV (n:=n) (m:=ay B) (sz:=z') (f1:=f') (f:=f) (rest:=rest);generalize eB:(((List.range (n * z')).map f').toArray++((List.range (ay B * z')).map f).toArray++rest)=arr at k3 b7;have mS:arr.size=newCap * z':=by
     rw[<-eB];simp[k2];rw[<-Jk,<-Jk];congr 1;omega
    obtain⟨l',dm,jo⟩:=jV.sat.newName;have jI:l'≠l:=λh=>ZaL;have aN:=Pp jV.sat (l:=l) (l':=l') dm oi (st:=st) (n:=n) (nb:=w.drew.heap.size) (sz:=z') (base:=0) (w':=w.drew.alloc (.cells arr el)) (rows:=(rows.drop st).take n++rowsOf H B)
     (.inr rfl) ZD ZD ZD (λb hb af=>Fm _ _ af) (λh=>absurd h (Nat.lt_irrefl _)) rfl rfl rfl (λaS=>by
      refine IE (nb:=w.drew.heap.size) (base:=0) (T:=el) (arr:=arr) (n:=n) (m:=ay B) Zau Zau (DR _ _)
       (by rw[mS,J5];exact Jl _ k1) c4 bF ZB (λi row h=>?_) by3 (λi row j c e1 e2=>?_) (λi row j c e1 e2=>?_)
      ·obtain⟨hi,h'⟩:=iT i row h;rcases bg with ⟨r1,_⟩|⟨b',base',T',cs,val,r1,r2,r3,r4,r5,r6,r7,r8⟩
       ·rw[r1]at h';simp at h'
       ·exact r6 _ _ h'
      ·obtain⟨hi,h'⟩:=iT i row e1;have cA:row.length=z':=by
        rcases bg with ⟨r1,_⟩|⟨b',base',T',cs,val,r1,r2,r3,r4,r5,r6,r7,r8⟩
        ·rw[r1]at h';simp at h'
        ·exact r6 _ _ h'
       refine⟨f' (i * z'+j),b7.1 i j hi (jlt cA e2),?_⟩;refine (f3' i row j c e1 e2).move (jV.le.trans aS) λq b hb=>?_;have bu:=Ef hs hb;have cR:b≠w.drew.heap.size:=(by simp only[World.size_drew];omega);exact⟨Q13 hb hi cR,Fm _ _ bu⟩
      ·refine⟨f (i * z'+j),b7.2 i j ?_ (jlt (by3 i row e1) e2),(f3 i row j c e1 e2).mono aS⟩;rcases Jh i (rowsOf H B).length with h|h
       ·omega
       ·rw[Jf h]at e1;simp at e1) jH
    refine EOk.value (v:=.slice (some ⟨w.heap.size,0,none⟩) (n+ay B) newCap) (by rw[ee,kg,na,k3];rfl) (c5 l' (by rw[Heap.aj _ _ jI];exact jo)) (jV.trans aN) ?_;have:=RepC.ah (w:=w.drew.alloc (.cells arr el)) (g:=g.handOver l l' st n w.drew.heap.size z' 0) l' z' 0 (n+ay B) newCap w.heap.size 0 el arr.size Zau k1
     Zac (by rw[mS];simp)
    simpa using RepV.c _ _ this
   rcases mM with ⟨ad,kg,rfl⟩|⟨b,base,cap,T,mm,kg,bP,AH,iH,ez⟩
   ·by_cases mq:ay B=0
    ·
     obtain⟨f,f1,f2,f3⟩:=If hs gO b1 b2 sr;rw[na]at f1;have cE:=Q5r (P:=P) (w:=w) (ty:=o.type) (base:=ad) (n:=0) (cap:=0) (m:=ay B) h0 h1 hu eJ hi hz ZB f1 (w':=w)
      (λx _=>by rw[mq];simp[storeCells]) (λ_=>rfl)
     have hd:=VG hs l jH;obtain⟨l',dm,jo⟩:=hd.sat.newName;refine EOk.value (v:=.slice ad (0+ay B) 0) (by rw[ee,kg,na,cE];rfl) (c5 l' jo) ?_ ?_ (g':=g.newVirt l' z')
     ·have xl:rowsOf H B=[]:=Jx.1 ZB;rw[xl];simp only[List.take_zero,Jax];exact hd.trans (NF hd.sat dm z')
     ·simp only[mq,J0];exact .c _ _ (.bK _ _ _ _)
    ·exact grow ad 0 kg ZB
   ·by_cases fp:n+ay B<=cap
    ·
     obtain⟨b',base',T',cs,val,r1,r2,r3,r4,r5,r6,r7,r8⟩:=SatVec.of bg bP;rw[bP]at r1;simp only[Jb,Jo,true_and]at r1;obtain⟨rfl,rfl⟩:=r1;have yk:mm=cs.size/\T=T':=by
      simp only[World.shape?,r3,Jb,Jo]at iH;exact⟨iH.2.symm,iH.1.symm⟩
     obtain⟨rfl,rfl⟩:=yk;obtain⟨f,f1,f2,f3⟩:=If hs gO b1 b2 sr;rw[na]at f1;have pC:(st+(n+ay B)) * z'<=(st+cap) * z':=Jl _ ZB;rw[Jk,Jk]at pC;have aR:base+st * z'+n * z'+ay B * z'<=cs.size:=by
      rw[Jk]at ez pC;omega
     have jY:=λk=>Ij (base+st * z'+n * z') ((List.range (ay B * z')).map f) 0 cs k ZG;generalize rz:(((List.range (ay B * z')).map f).zipIdx 0).foldl (λ(cs:Array Value) (x:Value×Nat)=>cs.setIfInBounds (base+st * z'+n * z'+x.2) x.1) cs=cs' at jY;have lT:=IY (P:=P) ((List.range (ay B * z')).map f) 0 w b (base+st * z'+n * z') cs T r3 ZG (by
      intro v hv;simp only[Jbg,Jbm]at hv;obtain⟨q,hq,rfl⟩:=hv;exact f2 q hq)
     rw[rz]at lT;have cE:=Q5r (P:=P) (w:=w) (ty:=o.type) (base:=some ⟨b,base+st * z',none⟩) (n:=n) (cap:=cap) (m:=ay B) h0 h1 hu eJ hi hz fp f1 (w':=World.aA w b cs' T)
      (λx hx=>by simp only[Jb]at hx;subst hx;rw[DI];exact lT) (λh=>ZI)
     have jN:=Gs r3;obtain⟨l',dm,jo⟩:=hs.newName;have jI:l'≠l:=λh=>ZaL;have nL:cs'.size=cs.size:=(jY 0).1;have aN:=Pp hs (l:=l) (l':=l') dm oi (st:=st) (n:=n) (nb:=b) (sz:=z') (base:=base+st * z') (w':=World.aA w b cs' T) (rows:=(rows.drop st).take n++rowsOf H B)
      (.inl ⟨jN,r2⟩) (by simp[World.aA]) (by simp[World.aA];exact jN) (by simp[World.aA];omega) (λb' aW _=>Gx aW)
      (λ_ T0 k hk=>by
       simp only[World.shape?,r3,Jb,Jo]at hk;simp only[World.shape?,I5 jN,nL,Jb,Jo];exact hk) rfl rfl rfl (λaS=>by
       refine IE (nb:=b) (base:=base+st * z') (T:=T) (arr:=cs') (n:=n) (m:=ay B) Zau Zau (I5 jN)
        (by rw[nL,Jk];omega) c4 bF ZB (λi row h=>r6 _ _ (iT i row h).2) by3 (λi row j c e1 e2=>?_) (λi row j c e1 e2=>?_)
       ·obtain⟨hi,h'⟩:=iT i row e1;have hj:=jlt (r6 _ _ h') e2;have af:=G5 hi hj;refine⟨val (st+i) j,?_,?_⟩
        ·rw[(jY _).2,if_neg ZB,<-r7 _ _ _ _ h' e2];congr 1;rw[Jk];omega
        ·refine (r8 _ _ _ _ h' e2).move aS λq b2 cp=>?_;have cR:b2≠b:=λh=>(by subst h;rw[r2]at cp;simp at cp);exact⟨Q13 cp hi cR,Gx cR⟩
       ·have hj:=jlt (by3 i row e1) e2;have hi:i<ay B:=by
         rcases Jh i (rowsOf H B).length with h|h
         ·omega
         ·rw[Jf h]at e1;simp at e1
        have af:=G5 hi hj;refine⟨f (i * z'+j),?_,(f3 i row j c e1 e2).mono aS⟩;have tX:(n+i) * z'=n * z'+i * z':=(by rw[Jk]);rw[(jY _).2,if_pos ZG];rw[show base+st * z'+(n+i) * z'+j-(base+st * z'+n * z'+0)=i * z'+j by omega];simp only[Jn];rw[Jad af];rfl) jH
     refine EOk.value (v:=.slice (some ⟨b,base+st * z',none⟩) (n+ay B) cap) (by rw[ee,kg,na,cE];rfl) (c5 l' (by rw[Heap.aj _ _ jI];exact jo)) aN ?_;have:=RepC.ah (w:=World.aA w b cs' T) (g:=g.handOver l l' st n b z' (base+st * z')) l' z' 0 (n+ay B) cap b (base+st * z') T cs.size Zau fp
      (by simp only[World.shape?,I5 jN,nL]) (by rw[J5];rw[Jk]at ez;omega)
     simpa using RepV.c _ _ this
    ·exact grow _ cap kg fp
  ·exact q5.elim
 ·exact q5.elim
end Go.AE
namespace Go.AE
open Go.MapKept (IsKey findNow_spec run_checkKey run_findKey run_keyThatStays)
variable {P:Program}{H:Heap}{g:G}{w:World}{e:Env}{a:Act}{o:Oper}{p:Bool}
theorem Qb6j {sz:Nat}{zero:List C}{x:Opd}{x' y':Operand}{t el:TypeId}{i:TypeInfo}{z:Value}{K:V->Heap->Prop}(hm:o.op=.makeSlice t x' y')(hu:P.underlying t=some (.slice el))
  (hi:P.info? el=some i) (hz:i.size=sz) (rQ:sz≠0) (cj:i.zero=some z) (iE:Db zero z=true) (gU:zero.length=sz) (rC:i.bytes<=128) (hx:mO x x'=true) (hy:mO x y'=true)
  (hs:Sat H g w) (he:EnvOk w g e a) (hp:p=true) (ho:(EOp.mks sz zero x).eff P p e H K):EOk P H g w a o K:=by
 simp only[EOp.eff]at ho;obtain⟨q1,q2,q3,q4,q5⟩:=ho;have e1:=DO he hx hp q1 q2;have e2:=DO he hy hp q1 q2;generalize hk:BL (x.v e)=k at *;have hr:=In (w:=w) (g:=g) iE;rw[E3]at q4;have Aw:IntKind.i64.wrap k=k:=I6 (by unfold inR;simp[IntKind.min,IntKind.max,IntKind.signed,IntKind.bits];omega);have vQ:(i.bytes:Int) * k<=128 * 549755813888:=by
  have h1:(i.bytes:Int) * k<=128 * k:=Int.mul_le_mul_of_nonneg_right ZB q3;omega
 have h48:(2:Int) ^ 48=281474976710656:=ZO
 obtain⟨l,hl,hH⟩:=hs.newName;have cH:z.cells.size=sz:=by rw[hr.1,gU]
 have cC:k.toNat * sz=0\/k.toNat * sz≠0:=ZB
 have cE:∃arr:Array Value,(execOp a.eval o).run P w=.ok (.value (.slice (some ⟨w.heap.size,0,none⟩) k.toNat k.toNat)) (w.alloc (.cells arr el))/\arr.size=k.toNat * sz/\
   ∀q,q<k.toNat * sz->arr[q]? = z.cells[q % sz]?:=by
  by_cases hn:k.toNat * sz=0
  ·refine⟨(Array.range 0).map (λ_=>default),?_,ZaQ,λq hq=>ZB⟩;simp only[execOp,hm,e1,e2,Instr.makeSlice,Sem.run_bind,BT hu,Result.andThen_ok,asInt,asIntOf,Sem.run_pure,IK hi,Aw];rw[if_neg ZG];simp[CD hi,hz,hn,newRow]
  ·refine⟨(Array.range (k.toNat * sz)).map (z.cells[· % z.cells.size]!),?_,ZD,λq hq=>?_⟩
   ·simp only[execOp,hm,e1,e2,Instr.makeSlice,Sem.run_bind,BT hu,Result.andThen_ok,asInt,asIntOf,Sem.run_pure,IK hi,Aw];rw[if_neg ZG];simp only[Sem.run_bind,run_askRoom,Result.andThen_ok,CD hi,hz,if_neg hn,DF hi cj,Sem.run_pure];simp[newRow]
   ·have af:q % sz<z.cells.size:=(by rw[cH];exact Jbf _ (by omega));simp only[Jan,cH];rw[Jak,if_pos hq];simp[af]
 obtain⟨arr,h1,h2,h3⟩:=cE;have aS:=Gt hs hl sz 0 (.cells arr el);have aN:=Ff hs hl sz 0 (.cells arr el) (.vec sz (List.replicate k.toNat zero)) (λg' hg=>by
  subst hg;have dt:∀(i:Nat) (row:List C),(List.replicate k.toNat zero)[i]? = some row->i<k.toNat/\row=zero:=by
   intro i row h;rw[Jar]at h;split at h
   ·exact⟨by assumption,by simpa using h.symm⟩
   ·simp at h
  have:=IE (g':=g.newObj l w.heap.size sz 0) (w':=w.alloc (.cells arr el)) (l':=l) (sz:=sz) (nb:=w.heap.size) (base:=0) (n:=k.toNat) (m:=0) (T:=el) (arr:=arr) (R1:=List.replicate k.toNat zero) (R2:=[])
   ZK ZK (DR _ _) Zab (by rw[E3];omega) ZD rfl (λi row h=>by rw[(dt i row h).2,gU]) ZD
   (λi row j c h h'=>by
    obtain⟨bR,rfl⟩:=dt i row h;have hj:j<sz:=by
     rw[<-gU];rcases Jh j row.length with h0|h0
     ·exact h0
     ·rw[Jf h0]at h';simp at h'
    have iO:=G5 bR hj;have qR:(i * sz+j) % sz=j:=(by rw[Ja2,Jbk];exact Jbi hj);have uk:j<z.cells.size:=(by rw[cH];exact hj);refine⟨z.cells[j],?_,.plain _ _ _ _ ((hr.2 j c _ h' (Jc uk)).mono aS)⟩;rw[J5,h3 _ iO,qR];exact Jc uk) ZD
  rw[Jax]at this;exact .inr this)
 refine EOk.value h1 (q5 l hH) aN ?_;have:=RepC.ah (w:=w.alloc (.cells arr el)) (g:=g.newObj l w.heap.size sz 0) l sz 0 k.toNat k.toNat w.heap.size 0 el arr.size ZK (Jw _)
  (by simp only[World.shape?,DR]) Zab
 simpa using RepV.c _ _ this
theorem Qb4n {K:V->Heap->Prop}{sz:Nat}{parts:List Opd}{t el:TypeId}{n:Nat}{parts':Array (Nat×Operand)}{i:TypeInfo}{z:Value}
  (hm:o.op=.buildSlice t n parts') (hu:P.underlying t=some (.slice el)) (hi:P.info? el=some i) (hz:i.zero=some z) (bp:i.size=sz) (qo:sz≠0)
  (hn:n=parts'.size) (rE:n * sz<=2 ^ 24) (iK:parts.length=parts'.size)
  (hx:∀(j:Nat) (x:Opd) (y:Nat×Operand),parts[j]? = some x->parts'[j]? = some y->y.1=j/\mO x y.2=true)
  (hs:Sat H g w) (he:EnvOk w g e a) (hp:p=true) (hK:(EOp.bslm sz parts).eff P p e H K):EOk P H g w a o K:=by
 simp only[EOp.eff]at hK;obtain⟨ho,hK⟩:=hK;have tD:(parts'.map λ(x:Nat×Operand)=>(x.1,a.eval x.2)).toList=parts'.toList.map λ(x:Nat×Operand)=>(x.1,a.eval x.2):=ZD
 have b7:∀(j:Nat) (y:Nat×Value),(parts'.toList.map λ(x:Nat×Operand)=>(x.1,a.eval x.2))[j]? = some y->
   ∃x y',parts[j]? = some x/\parts'[j]? = some y'/\y=(y'.1,a.eval y'.2):=by
  intro j y hj;simp only[Jn]at hj
  cases b6:parts'.toList[j]? with
  |none=>rw[b6]at hj;simp at hj
  |some y'=>
   rw[b6]at hj;simp at hj;have af:j<parts.length:=by
    rw[iK];rcases Jh j parts'.size with h|h
    ·exact h
    ·simp[Jm h]at b6
   exact⟨_,y',Jd af,by simpa using b6,hj.symm⟩
 have aC:∀x∈parts,x.fine p e/\(x.v e).cells.length=sz/\(x.v e).cells≠[]:=λx hx=>by
  obtain⟨q1,q2⟩:=ho x hx;exact⟨q1,q2,λhn=>qo (by rw[<-q2,hn];rfl)⟩
 have mu:(parts'.toList.map λ(x:Nat×Operand)=>(x.1,a.eval x.2)).length=n:=ZaQ
 obtain⟨out,f1,f2,f3,f4⟩:=HZ sz (parts'.toList.map λ(x:Nat×Operand)=>(x.1,a.eval x.2)) 0
  ((Array.range (n * sz)).map ((if n * sz=0 then #[]else z.cells)[· % (if n * sz=0 then #[]else z.cells).size]!)) (λj y hj=>by
   obtain⟨x,y',e1,e2,rfl⟩:=b7 j y hj;obtain⟨q1,q2⟩:=hx j x y' e1 e2;obtain⟨q3,q4,q5⟩:=aC x (Jg e1);refine⟨by simp[q1],?_⟩;rw[(Ix (BS he q2 hp q3) q5).1,q4]) (by rw[mu];simp)
 obtain⟨l,hl,hH⟩:=hs.newName;have cE:(execOp a.eval o).run P w=.ok (.value (.slice (some ⟨w.heap.size,0,none⟩) n n)) (w.alloc (.cells out el)):=by
  simp only[execOp,hm,Instr.buildSlice,Sem.run_bind,BT hu,Result.andThen_ok,CD hi,bp,tD];rw[if_neg ZB];by_cases h0:n * sz=0
  ·simp only[if_pos h0]at f1⊢;simp only[Sem.run_bind,Sem.run_pure,Result.andThen_ok];rw[f1];simp[newRow]
  ·simp only[if_neg h0]at f1⊢;simp only[Sem.run_bind,Sem.run_pure,Result.andThen_ok,DF hi hz];rw[f1];simp[newRow]
 have gZ:(parts.map λx=>(x.v e).cells).length=n:=by simp[iK,hn]
 have dM:∀(k:Nat) (row:List C),(parts.map λx=>(x.v e).cells)[k]? = some row->∃x y,parts[k]? = some x/\parts'[k]? = some y/\row=(x.v e).cells:=by
  intro k row hk;simp only[Jn]at hk
  cases hj:parts[k]? with
  |none=>rw[hj]at hk;simp at hk
  |some x=>
   rw[hj]at hk;simp at hk;have af:k<parts'.size:=by
    rw[<-iK];rcases Jh k parts.length with h|h
    ·exact h
    ·rw[Jf h]at hj;simp at hj
   exact⟨x,parts'[k],rfl,Jc af,hk.symm⟩
 have bZ:∀(k:Nat) (row:List C) (j:Nat) (c:C),(parts.map λx=>(x.v e).cells)[k]? = some row->row[j]? = some c->∃u,out[0+k * sz+j]? = some u/\RepC w g c u:=by
  intro k row j c hk hj;obtain⟨x,y,e1,e2,rfl⟩:=dM k row hk;obtain⟨q1,q2⟩:=hx k x y e1 e2;obtain⟨q3,q4,q5⟩:=aC x (Jg e1);have hr:=Ix (BS he q2 hp q3) q5;have jK:j<sz:=by
   rw[<-q4];rcases Jh j (x.v e).cells.length with h|h
   ·exact h
   ·rw[Jf h]at hj;simp at hj
  have cL:j<(a.eval y.2).cells.size:=by rw[hr.1,q4];exact jK
  have:=f4 k (y.1,a.eval y.2) j (by simp only[Jn,Ju,e2,Jq]) jK;simp only[J5]at this⊢;rw[this];exact⟨_,Jc cL,hr.2 j c _ hj (Jc cL)⟩
 have nS:out.size=n * sz:=by
  rw[f2];simp
 have hn24:n<=16777216:=by
  have cO:n * 1<=n * sz:=Ja6 _ ZB;have An:(2:Nat) ^ 24=16777216:=ZO
  rw[An]at rE;omega
 have aS:=Gt hs hl sz 0 (.cells out el);have aN:=Ff hs hl sz 0 (.cells out el) (.vec sz (parts.map λx=>(x.v e).cells)) (λg' hg=>by
  subst hg;have:=IE (g':=g.newObj l w.heap.size sz 0) (w':=w.alloc (.cells out el)) (l':=l) (sz:=sz) (nb:=w.heap.size) (base:=0) (n:=n) (m:=0) (T:=el) (arr:=out) (R1:=parts.map λx=>(x.v e).cells) (R2:=[])
   ZK ZK (DR _ _) (by rw[nS];simp) (by rw[E3];omega) gZ rfl
   (λk row hk=>by obtain⟨x,y,e1,e2,rfl⟩:=dM k row hk;exact (aC x (Jg e1)).2.1) ZD
   (λk row j c hk hj=>by
    obtain⟨u,e1,e2⟩:=bZ k row j c hk hj;exact⟨u,e1,.plain _ _ _ _ (e2.mono aS)⟩) ZD
  rw[Jax]at this;exact .inr this)
 have da:parts.length=n:=by rw[iK,hn]
 refine EOk.value cE (hK l hH) aN ?_;rw[da];have:=RepC.ah (w:=w.alloc (.cells out el)) (g:=g.newObj l w.heap.size sz 0) l sz 0 n n w.heap.size 0 el out.size ZK (Jw _)
  (by simp only[World.shape?,DR]) (by rw[nS];simp)
 simpa using RepV.c _ _ this
theorem Qb6i {t:TypeId}{K:V->Heap->Prop}(hm:o.op=.makeMap t none)(hs:Sat H g w)(ho:EOp.mkm.eff P p e H K):EOk P H g w a o K:=by
 simp only[EOp.eff]at ho;obtain⟨l,hl,hH⟩:=hs.newName;have aN:=Ff hs hl 0 0 (.map #[] 0) (.map 0 []) (λg' hg=>by
  subst hg;exact⟨w.heap.size,#[],0,ZK,ZK,DR _ _,rfl,by simp[E3],ZD,ZD,ZD⟩)
 refine EOk.value (v:=.map (some w.heap.size)) (w':=w.alloc (.map #[] 0)) (by simp[execOp,hm,Instr.makeMap]) (ho l hH) aN (.c _ _ (.mp l w.heap.size ZK))
def World.putObj' (w:World)(b:Nat)(x:Go.Obj):World:={ w with heap:=w.heap.setIfInBounds b x }
theorem Pg {w:World}{b:Nat}{x:Go.Obj}(h:b<w.heap.size):(World.putObj' w b x).heap[b]? = some x:=by simp[World.putObj',h]
theorem TD {w:World}{b b':Nat}{x:Go.Obj}(h:b'≠b):(World.putObj' w b x).heap[b']? = w.heap[b']?:=by
 simp only[World.putObj'];rw[Js (Ne.symm h)]
theorem Hx {b:Nat}{x y:Go.Obj}(h:w.heap[b]? = some x)(hx:∀c T f,x≠.cells c T f):(setObj b y).run P w=.ok () (World.putObj' w b y):=by
 simp only[setObj,Sem.run,h];cases x <;> first|rfl|exact absurd rfl (hx _ _ _)
theorem No (hs:Sat H g w){l b:Nat}(hb:g.own b=some (l,[])){ms ms':Array MapEntry}{clock clock':Nat}(hw:w.heap[b]? = some (.map ms clock)){n:Nat}{es es':List (C×V)}(hH:H l=.map n es)
  (bg:Le g w g (World.putObj' w b (.map ms' clock'))->(World.putObj' w b (.map ms' clock')).heap[b]? = some (.map ms' clock')->SatObj (H.set l (.map (n+1) es')) g (World.putObj' w b (.map ms' clock')) l (.map (n+1) es')) :
  Stp H g w (H.set l (.map (n+1) es')) g (World.putObj' w b (.map ms' clock')):=by
 have af:=Gs hw;refine Q7d hs hb (by simp[World.putObj']) (λb' h=>TD h) (λT' k hk=>?_) rfl rfl rfl _ Zaw (λaS=>bg aS (Pg af)) (λv x h=>?_)
 ·simp[World.shape?,hw]at hk
 ·simp at h;exact⟨n,es,hH,ZB⟩
theorem ML:∀(es:List (C×V)) (k:C) (v:V) (j:Nat) (x:C×V),es[j]? = some x->CC k x.1=true->(∀i y,i<j->es[i]? = some y->CC k y.1=false)->updE k v es=es.set j (k,v)
 |[],_,_,_,_,h,_,_=>ZI
 |y::es,k,v,0,x,h,hk,_=>by simp at h;subst h;simp[updE,hk]
 |y::es,k,v,j+1,x,h,hk,hh=>by
  have h0:=hh 0 y ZB rfl;simp only[updE,h0,Jt,if_false,List.set_cons_succ];rw[ML es k v j x ZL hk λi z hi hz=>hh (i+1) z ZB ZaW]
theorem LT:∀(es:List (C×V)) (k:C) (v:V),(∀x∈es,CC k x.1=false)->updE k v es=es++[(k,v)]
 |[],_,_,_=>rfl
 |y::es,k,v,h=>by
  simp only[updE,h y ZD,Jt,if_false,List.cons_append];rw[LT es k v λx hx=>h x Zbj]
theorem Mx {c:C}{v:Value}{l:Nat}(h:RepC w g (.mp l) v):∃b,v=.map (some b)/\g.io l=some (b,0,0):=by
 cases h with
 |mp _ b bP=>exact⟨b,rfl,bP⟩
theorem Ml {tag:Nat}{x k y:Opd}{x' k' y':Operand}{t kt et:TypeId}{K:V->Heap->Prop}(hm:o.op=.mapUpdate t x' k' y'\/o.op=.insert t x' k' y')(hu:P.underlying t=some (.map kt et))
  (vI:P.underlying kt=some (tagD tag)) (hx:mO x x'=true) (hk:mO k k'=true) (hy:mO y y'=true)
  (hs:Sat H g w) (he:EnvOk w g e a) (hp:p=true) (ho:(EOp.upd tag x k y).eff P p e H K):EOk P H g w a o K:=by
 simp only[EOp.eff]at ho;obtain⟨q1,q2,q3,q4,q5,_,q6⟩:=ho;have gY:=BS he hx hp q1;have oS:=BS he hk hp q2;have jB:=BS he hy hp q3;rw[CH q4]at gY;rw[CH q5]at oS;have jL:=gY.aO;have jM:=oS.aO;generalize nO:a.eval x'=xv at jL;generalize xq:a.eval k'=kv at jM;generalize xn:a.eval y'=yv at jB;generalize (x.v e).c1=A at jL q6;generalize (k.v e).c1=kc at jM q6;generalize y.v e=yc at jB q6;have ee:(execOp a.eval o).run P w=((Instr.mapUpdate t xv kv yv).run P w).andThen λ_ w'=>.ok .skip w':=by
  rcases hm with hm|hm <;> simp[execOp,hm,nO,xq,xn]
 unfold updT at q6;split at q6
 ·rename_i l
  split at q6
  ·rename_i n es hH
   obtain⟨c1,c2,c3⟩:=q6;obtain⟨b,rfl,bP⟩:=Mx (c:=.unk) jL;have bg:=hs.objs l;rw[hH]at bg;obtain⟨b',ms,clock,r1,r2,r3,r4,r5,r6,r7,r8⟩:=bg;rw[bP]at r1;simp only[Jb,Jo,and_true]at r1;subst r1;have eN:=FG c1 jM;have cP:(getObj b).run P w=.ok (.map ms clock) w:=Zay
   rcases RZ c1 jM r4 r6 r8 with ⟨f1,f2,f3⟩|⟨j,m,ent,f1,f2,f3,f4,f5,f6,f7⟩
   ·
    rw[LT es kc yc f3]at c3;refine EOk.skip (g':=g) (w':=World.putObj' w b (.map (ms.push { key:=kv,val:=yv,born:=clock }) (clock+1))) ?_ c3 ?_
    ·rw[ee];simp only[Instr.mapUpdate,Sem.run_bind,BT hu,Result.andThen_ok,cP,run_checkKey vI eN _ 9999,run_findKey vI f1,Hx r3 ZD]
    ·refine No hs r2 r3 hH λaS fR=>?_;refine⟨b,_,_,aS.io _ _ bP,r2,fR,by simp[r4],by simp;omega,λi' x' m' e1 e2=>?_,λi' m' e1=>?_,λi' j' m1 m2 e1 e2 kx=>?_⟩
     ·rw[J6]at e2;split at e2
      ·rename_i bR;simp at e2;subst e2
       rw[Jj ZB]at e1;rw[bR,r4]at e1;simp at e1;subst e1;exact⟨jM.mono aS,jB.mono aS⟩
      ·rename_i bR
       have:i'<es.length:=by
        rw[<-r4];rcases Jh i' ms.size with h|h
        ·exact h
        ·rw[Jm h]at e2;simp at e2
       rw[Ji this]at e1;exact (r6 i' x' m' e1 e2).mono aS
     ·rw[J6]at e1;split at e1
      ·simp at e1;subst e1;simp
      ·have:=r7 i' m' e1;omega
     ·have old:∀(i':Nat) (m1:MapEntry),ms[i']? = some m1->m1.born<clock/\m1.key≠kv:=by
       intro i' m1 h1;refine⟨r7 _ _ h1,λiz=>?_⟩;have af:i'<es.length:=by
        rw[<-r4];rcases Jh i' ms.size with h|h
        ·exact h
        ·rw[Jm h]at h1;simp at h1
       have vP:=Jd af;have:=(F4 c1 (Jg vP) jM (r6 _ _ _ vP h1).1).2 iz;rw[f3 _ (Jg vP)]at this;simp at this
      rw[J6]at e1 e2;split at e1 <;> split at e2
      ·omega
      ·simp at e1;subst e1;have:=old _ _ e2;rcases kx with h|h
       ·simp at h;omega
       ·simp at h;exact absurd h.symm this.2
      ·simp at e2;subst e2;have:=old _ _ e1;rcases kx with h|h
       ·simp at h;omega
       ·simp at h;exact absurd h this.2
      ·exact r8 _ _ _ _ e1 e2 kx
   ·
    rw[ML es kc yc j ent f4 f6 f7]at c3;have jK:j<ms.size:=by
     rcases Jh j ms.size with h|h
     ·exact h
     ·rw[Jm h]at f2;simp at f2
    refine EOk.skip (g':=g) (w':=World.putObj' w b (.map (ms.modify j λe=>{ e with key:=kv,val:=yv }) clock)) ?_ c3 ?_
    ·rw[ee];simp only[Instr.mapUpdate,Sem.run_bind,BT hu,Result.andThen_ok,cP,run_checkKey vI eN _ 9999,run_findKey vI f1,f2,Jq,Jv,f3,run_keyThatStays eN];rw[Hx r3 ZD];rfl
    ·refine No hs r2 r3 hH λaS fR=>?_;refine⟨b,_,_,aS.io _ _ bP,r2,fR,by simp[r4],by simpa using r5,λi' x' m' e1 e2=>?_,λi' m' e1=>?_,λi' j' m1 m2 e1 e2 kx=>?_⟩
     ·rw[J9]at e2;rw[Jaq]at e1;split at e2
      ·rename_i hj
       subst hj;rw[if_pos rfl,if_pos ZB]at e1;simp at e1;subst e1;rw[f2]at e2;simp at e2;subst e2;exact⟨jM.mono aS,jB.mono aS⟩
      ·rename_i hj
       rw[if_neg hj]at e1;exact (r6 i' x' m' e1 e2).mono aS
     ·rw[J9]at e1;split at e1
      ·rename_i hj;subst hj;rw[f2]at e1;simp at e1;subst e1;exact r7 j m f2
      ·exact r7 _ _ e1
     ·have old:∀(i':Nat) (m1:MapEntry),(ms.modify j λe=>{ e with key:=kv,val:=yv })[i']? = some m1->∃m0,ms[i']? = some m0/\m0.born=m1.born/\m0.key=m1.key:=by
       intro i' m1 h1;rw[J9]at h1;split at h1
       ·rename_i hj;subst hj;rw[f2]at h1;simp at h1;subst h1;exact⟨m,f2,rfl,f3⟩
       ·exact⟨m1,h1,rfl,rfl⟩
      obtain⟨n1,k1,k2,k3⟩:=old _ _ e1;obtain⟨n2,k4,k5,k6⟩:=old _ _ e2;refine r8 _ _ _ _ k1 k4 ?_;rcases kx with h|h
      ·exact .inl (by rw[k2,k5,h])
      ·exact .inr (by rw[k3,k6,h])
  ·exact q6.elim
 ·exact q6.elim
end Go.AE
namespace Go.AE
variable {P:Program}{H:Heap}{g:G}{w:World}{e:Env}{a:Act}{o:Oper}{p:Bool}
theorem TI {f:FuncId}(h:fnOk P f=true)(args:Array Value)(w:World):(callFunc f args).run P w=.ok (.enter f args) w:=by
 unfold fnOk at h;split at h
 ·rename_i fn hf
  simp only[Ja,bne_iff_ne,ne_eq]at h;obtain⟨h1,h2⟩:=h;have hn:fn.body≠none:=by intro hb;rw[hb]at h1;simp at h1
  simp[callFunc,hf,h2,hn]
 ·simp at h
theorem Ns {f:FuncId}{args:List V}{K:V->Heap->Prop}(hc:Qr P f args H K)(hs:Sat H g w){vs:List Value}(hl:vs.length=args.length)
  (hv:∀(j:Nat) (x:V) (u:Value),args[j]? = some x->vs[j]? = some u->RepV w g x u) (hr:(execOp a.eval o).run P w=.ok (.enter f vs.toArray) w):EOk P H g w a o K:=by
 intro Q next hn jC;unfold Oper.wp;rw[hr,Oper.upon_enter];refine (hc.2 g w vs hs hl hv).mono λen w' h=>?_;rcases h with ⟨v,x,H',g',rfl,hk,aN,dt⟩|⟨v,H',g',rfl,hk,aN⟩
 ·exact hn x v w' H' g' hk aN dt
 ·exact jC v w' H' g' hk aN
theorem LN (he:EnvOk w g e a)(hp:p=true){xs:List Opd}{ys:List Operand}(hm:mOs xs ys=true)(hf:∀x∈xs,x.fine p e) :
  (ys.map a.eval).length=(xs.map λx=>x.v e).length/\∀(j:Nat) (x:V) (u:Value),(xs.map λx=>x.v e)[j]? = some x->(ys.map a.eval)[j]? = some u->RepV w g x u:=by
 obtain⟨h1,h2⟩:=HA xs ys hm;refine⟨Zbk,λj x u e1 e2=>?_⟩;simp only[Jn]at e1 e2
 cases hj:xs[j]? with
 |none=>rw[hj]at e1;simp at e1
 |some x0=>
  cases b6:ys[j]? with
  |none=>rw[b6]at e2;simp at e2
  |some y0=>
   rw[hj]at e1;rw[b6]at e2;simp at e1 e2;subst e1;subst e2;exact BS he (h2 j x0 y0 hj b6) hp (hf x0 (Jg hj))
theorem Qb4o {f:Nat}{xs:List Opd}{as:Array Operand}{ats:Array TypeId}{K:V->Heap->Prop}(hm:o.op=.call { callee:=.value (.func f),args:=as,argTypes:=ats })(hx:mOs xs as.toList=true)
  (hs:Sat H g w) (he:EnvOk w g e a) (hp:p=true) (hf:∀x∈xs,x.fine p e) (hc:Qr P f (xs.map λx=>x.v e) H K):EOk P H g w a o K:=by
 obtain⟨h1,h2⟩:=LN he hp hx hf;refine Ns hc hs h1 h2 ?_;have eB:as.map a.eval=(as.toList.map a.eval).toArray:=by apply Jae;simp
 simp only[execOp,hm,resolve,Deferred.ofValue,Act.eval,Sem.run_bind,Sem.run_pure,Result.andThen_ok,invoke];have:(#[]++as.map a.eval++#[]:Array Value)=(as.toList.map a.eval).toArray:=by rw[eB];simp
 rw[this];exact TI hc.1 _ w
theorem Qb1i {x:Opd}{y:Operand}{xs:List Opd}{as:Array Operand}{ats:Array TypeId}{K:V->Heap->Prop}(hm:o.op=.call { callee:=.value y,args:=as,argTypes:=ats })(hy:mO x y=true)(hx:mOs xs as.toList=true)
  (hs:Sat H g w) (he:EnvOk w g e a) (hp:p=true) (ho:(EOp.f9 x xs).eff P p e H K):EOk P H g w a o K:=by
 simp only[EOp.eff]at ho;obtain⟨q1,hf,q2⟩:=ho;have hr:=BS he hy hp q1;split at q2
 ·rename_i n caps hv
  rw[hv]at hr;obtain⟨cv,hq,cG,lx⟩:=hr.aO.fn_inv;obtain⟨h1,h2⟩:=LN he hp hx hf;refine Ns (vs:=as.toList.map a.eval++cv) q2 hs (by rw[Jaf,Jaf,h1];simp[cG]) (λj z u e1 e2=>?_) ?_
  ·by_cases hj:j<(xs.map λx=>x.v e).length
   ·rw[Ji hj]at e1;rw[Ji (by rw[h1];exact hj)]at e2;exact h2 j z u e1 e2
   ·rw[Jj ZB]at e1 e2;rw[h1]at e2;simp only[Jn]at e1
    cases hc:caps[j-(xs.map λx=>x.v e).length]? with
    |none=>rw[hc]at e1;simp at e1
    |some c=>
     rw[hc]at e1;simp at e1;subst e1;exact .c _ _ (lx _ c u hc e2)
  ·have eB:as.map a.eval=(as.toList.map a.eval).toArray:=by apply Jae;simp
   simp only[execOp,hm,resolve,hq,Deferred.ofValue,Sem.run_bind,Sem.run_pure,Result.andThen_ok,invoke];have:(#[]++as.map a.eval++cv.toArray:Array Value)=(as.toList.map a.eval++cv).toArray:=by rw[eB];simp
   rw[this];exact TI q2.1 _ w
 ·exact q2.elim
theorem Qau6 {t el:TypeId}(h:P.underlying t=some (.slice el))(d:Nat)(b:Option Addr)(n c:Nat)(w:World):(Op.equalIn (d+1) t (.slice b n c) (.slice none 0 0)).run P w=.ok b.isNone w:=by
 cases b <;> simp[Op.equalIn,BT h]
theorem N2 {α:Type}:∀(l:List α) (i:Nat) (h:i<l.length),(l[i]::l.eraseIdx i).Perm l
 |x::l,0,_=>ZD
 |x::l,i+1,h=>by
  simp only[List.getElem_cons_succ,List.eraseIdx_cons_succ];exact (List.Perm.swap x _ _).trans ((N2 l i ZL).cons x)
theorem Qb4q {x:Opd}{x' y':Operand}{t t' el:TypeId}{K:V->Heap->Prop}(hm:o.op=.binOp .eql t x' y' t')(hu:P.underlying t=some (.slice el))(hx:mO x x'=true)(hy:a.eval y'=.slice none 0 0)
  (hs:Sat H g w) (he:EnvOk w g e a) (hp:p=true) (ho:(EOp.nilq x).eff P p e H K):EOk P H g w a o K:=by
 simp only[EOp.eff]at ho;obtain⟨q1,q2⟩:=ho;have hr:=BS he hx hp q1;split at q2
 ·rename_i fl sz rows hv
  rw[hv]at hr;have lx:=hr.aO;generalize hq:a.eval x'=xv at lx;have jZ:(execOp a.eval o).run P w=((binOp .eql t xv (.slice none 0 0)).run P w).andThen λv w'=>.ok (.value v) w':=by
   simp only[execOp,hm,hq,hy,Sem.run_bind];rw[C6]
   ·simp
   ·intro cs ds h;simp at h
   ·intro h;simp at h
  have i8:∀b:Option Addr,∀n c,(Op.equal t (.slice b n c) (.slice none 0 0)).run P w=.ok b.isNone w:=by
   intro b n c;exact Qau6 hu 9999 b n c w
  cases lx with
  |bV _ _ ad=>
   refine EOk.value (g':=g) (v:=.bool ad.isNone) (w':=w) ?_ (q2 ad.isNone (λ_=>rfl)) (.refl hs) (.c _ _ (.bool _));rw[jZ];simp only[binOp,Sem.run_bind,i8,Result.andThen_ok,Sem.run_pure]
  |sl=>
   refine EOk.value (g':=g) (v:=.bool false) (w':=w) ?_ (q2 false ZD) (.refl hs) (.c _ _ (.bool _));rw[jZ];simp only[binOp,Sem.run_bind,i8,Result.andThen_ok,Sem.run_pure];rfl
 ·exact q2.elim
theorem Qb6l {x:Opd}{x':Operand}{t kt et:TypeId}{K:V->Heap->Prop}(hm:o.op=.range t x')(hu:P.underlying t=some (.map kt et))(hx:mO x x'=true)
  (hs:Sat H g w) (he:EnvOk w g e a) (hp:p=true) (ho:(EOp.rng x).eff P p e H K):EOk P H g w a o K:=by
 simp only[EOp.eff]at ho;obtain⟨q1,q2⟩:=ho;have hr:=BS he hx hp q1;obtain⟨l',dm,jo⟩:=hs.newName;split at q2
 ·rename_i l hv
  rw[hv]at hr;split at q2
  ·rename_i n es hH
   obtain⟨c1,c2⟩:=q2;obtain⟨b,hq,bP⟩:=Mx (c:=.unk) hr.aO;have bg:=hs.objs l;rw[hH]at bg;obtain⟨b',ms,clock,r1,r2,r3,r4,r5,r6,r7,r8⟩:=bg;rw[bP]at r1;simp only[Jb,Jo,and_true]at r1;subst r1;have cP:(getObj b).run P w=.ok (.map ms clock) w:=Zay
   have jI:l≠l':=λh=>by subst h;rw[dm]at bP;simp at bP
   have aN:=Ff hs dm 0 0 (.mapIter (some b) clock #[] clock) (.iter (some (l,n)) es none) (λg' hg=>by
    subst hg;refine⟨w.heap.size,b,clock,#[],ZK,ZK,DR _ _,by simp[G.newObj,jI,bP],λv es' iG=>?_⟩;rw[Heap.aj _ _ jI,hH]at iG;simp only[Obj.map.injEq]at iG;obtain⟨rfl,rfl⟩:=iG;refine⟨Jw _,λ_=>⟨ms,(Fm _ _ (Gs r3)).trans r3,r4,c1,c1,λx=>⟨λhx=>?_,λhx=>?_⟩,ZD⟩⟩
    ·obtain⟨i,hi⟩:=J2 hx;have af:i<ms.size:=by
      rw[r4];rcases Jh i es.length with h|h
      ·exact h
      ·rw[Jf h]at hi;simp at hi
     exact⟨i,ms[i],hi,Jc af,ZD⟩
    ·obtain⟨i,m,h1,_⟩:=hx;exact Jg h1)
   refine EOk.value (v:=.pointer (some ⟨w.heap.size,0,none⟩)) (w':=w.alloc (.mapIter (some b) clock #[] clock)) ?_ (c2 l' jo) aN (.c _ _ (.itr l' w.heap.size ZK));simp[execOp,hm,hq,Instr.range,BT hu,cP]
  ·exact q2.elim
 ·rename_i hv
  rw[hv]at hr;have hq:a.eval x'=.map none:=by
   have:=hr.aO;generalize a.eval x'=xv at this;cases this;rfl
  have aN:=Ff hs dm 0 0 (.mapIter none 0 #[] 0) (.iter none [] none) (λg' hg=>by
   subst hg;exact⟨w.heap.size,0,#[],0,ZK,ZK,DR _ _,rfl⟩)
  refine EOk.value (v:=.pointer (some ⟨w.heap.size,0,none⟩)) (w':=w.alloc (.mapIter none 0 #[] 0)) ?_ (q2 l' jo) aN (.c _ _ (.itr l' w.heap.size ZK));simp[execOp,hm,hq,Instr.range,BT hu]
 ·exact q2.elim
theorem K1 {v:Value}{l:Nat}(h:RepC w g (.itr l) v):∃b,v=.pointer (some ⟨b,0,none⟩)/\g.io l=some (b,0,0):=by
 cases h with
 |itr _ b bP=>exact⟨b,rfl,bP⟩
theorem Qbmm {r mb since:Nat}{seen:Array Nat}{ms:Array MapEntry}{t:TypeId}(hr:w.heap[r]? = some (.mapIter (some mb) since seen since))(iI:w.heap[mb]? = some (.map ms since))
  (af:∀(i:Nat) (m:MapEntry),ms[i]? = some m->m.born<since) :
  ((∀(i:Nat) (m:MapEntry),ms[i]? = some m->m.born∈seen)/\(Instr.next (.pointer (some ⟨r,0,none⟩)) false t).run P w=.ok (.tuple #[.bool false]) w)\/
  ∃(w1:World) (i:Nat) (m:MapEntry),ms[i]? = some m/\m.born∉seen/\(w1=w\/w1=w.drew)/\
   (Instr.next (.pointer (some ⟨r,0,none⟩)) false t).run P w=.ok (.tuple #[.bool true,m.key,m.val]) (World.putObj' w1 r (.mapIter (some mb) since (seen.push m.born) since)):=by
 have g1:(getObj r).run P w=.ok (.mapIter (some mb) since seen since) w:=by simp[getObj,Sem.run,hr]
 have g2:(getObj mb).run P w=.ok (.map ms since) w:=by simp[getObj,Sem.run,iI]
 have jF:∀m∈ms,m.born<since:=by
  intro m hm;obtain⟨i,hi⟩:=Jaj hm;exact af i m hi
 have zx:(!seen.isEmpty&&!ms.isEmpty&&ms.all (λm=>decide (m.born≥since)))=false:=by
  by_cases h:ms=#[]
  ·subst h;simp
  ·have bd:0<ms.size:=by
    rcases Jag ms.size with h0|h0
    ·exact absurd (Jav.1 h0) h
    ·exact h0
   have:ms.all (λm=>decide (m.born≥since))=false:=by
    rw[Bool.eq_false_iff];intro bT;rw[Array.all_eq_true]at bT;have:=bT 0 bd;simp at this;have:=jF ms[0] (Jba bd);omega
   rw[this];simp
 generalize pj:ms.filter (λm=>!seen.contains m.born)=left;have ce:∀m,m∈left↔m∈ms/\m.born∉seen:=by
  intro m;rw[<-pj];simp[Array.mem_filter]
 have tP:left.filter (λm=>decide (m.born<since))=left:=by
  rw[Array.filter_eq_self];intro m hm;simpa using jF m ((ce m).1 hm).1
 have tT:left.filter (λm=>decide (m.born≥since))=#[]:=by
  rw[Array.filter_eq_empty_iff];intro m hm;have:=jF m ((ce m).1 hm).1;simp;omega
 have bY:(Instr.next (.pointer (some ⟨r,0,none⟩)) false t).run P w =
   ((choose (.mapNext ((if left.isEmpty then #[none]else #[])++left.map some).size)).run P w).andThen λk w'=>
    (match ((if left.isEmpty then #[none]else #[])++left.map some)[k]? with
     |some (some e)=>(do setObj r (.mapIter (some mb) since (seen.push e.born) since);pure (.tuple #[.bool true,e.key,e.val]):Sem Value)
     |some none=>pure (.tuple #[.bool false])
     | none => stuck "Next: no such candidate").run P w' := by
  simp only[Instr.next,Sem.run_bind,g1,Result.andThen_ok,g2];simp only[zx,Jt,if_false,pj,tP,tT,Array.append_empty];simp only[Sem.run_bind]
  first|rfl|(congr 1;funext k w';split <;> simp)
 by_cases vO:left=#[]
 ·left;refine⟨λi m hm=>?_,?_⟩
  ·by_cases hc:m.born∈seen
   ·exact hc
   ·have:m∈left:=(ce m).2 ⟨Jaw hm,hc⟩;rw[vO]at this;simp at this
  ·rw[bY,vO];simp[Question.forced]
 ·right;have mc:0<left.size:=by
   rcases Jag left.size with h0|h0
   ·exact absurd (Jav.1 h0) vO
   ·exact h0
  have jx:left.isEmpty=false:=by simpa using vO
  have hk:∃(k:Nat) (w1:World),k<left.size/\(w1=w\/w1=w.drew)/\(choose (.mapNext left.size)).run P w=.ok k w1:=by
   by_cases h1:left.size<=1
   ·exact⟨0,w,mc,.inl rfl,by simp[Question.forced,h1]⟩
   ·refine⟨w.tape w.drawn (.mapNext left.size) % left.size,w.drew,Jbf _ mc,.inr rfl,?_⟩;simp[Question.forced,h1,Question.cut]
  obtain⟨k,w1,k1,k2,k3⟩:=hk;have ug:left[k]? = some left[k]:=Jc k1;obtain⟨m1,m2⟩:=(ce left[k]).1 (Jba k1);obtain⟨i,hi⟩:=Jaj m1;refine⟨w1,i,left[k],hi,m2,k2,?_⟩;rw[bY];simp only[jx,Jt,if_false,Array.empty_append,Array.size_map,k3,Result.andThen_ok,Jan,ug,Jq,Sem.run_bind];have cI:w1.heap[r]? = some (.mapIter (some mb) since seen since):=by rcases k2 with rfl|rfl <;> exact hr
  rw[Hx cI ZD];rfl
theorem Qb6k {x:Opd}{x':Operand}{K:V->Heap->Prop}(hm:o.op=.next x' false)(hx:mO x x'=true)
  (hs:Sat H g w) (he:EnvOk w g e a) (hp:p=true) (ho:(EOp.nxt x).eff P p e H K):EOk P H g w a o K:=by
 simp only[EOp.eff]at ho;obtain⟨q1,q2⟩:=ho;have hr:=BS he hx hp q1;split at q2
 ·rename_i i hv
  rw[hv]at hr;obtain⟨b,hq,bP⟩:=K1 hr.aO;have bg:=hs.objs i;split at q2
  ·rename_i left cur hH
   rw[hH]at bg;obtain⟨b',si,se,la,r1,r2,r3,r4⟩:=bg;rw[bP]at r1;simp only[Jb,Jo,and_true]at r1;subst r1;have cP:(getObj b).run P w=.ok (.mapIter none si se la) w:=Zay
   refine EOk.value (g':=g) (v:=.tuple #[.bool false]) (w':=w) (by simp[execOp,hm,hq,Instr.next,cP]) q2 (.refl hs) (.tup _ [.bool false] rfl λj x u e1 e2=>?_)
   cases j with
   |zero=>simp at e1 e2;subst e1;subst e2;exact .c _ _ (.bool _)
   |succ j=>simp at e1
  ·rename_i l n left cur hH
   obtain⟨⟨es,rt⟩,c1,c2⟩:=q2;rw[hH]at bg;obtain⟨b',mb,si,se,r1,r2,r3,r4,r5⟩:=bg;rw[bP]at r1;simp only[Jb,Jo,and_true]at r1;subst r1;obtain⟨_,h5⟩:=r5 n es rt;obtain⟨ms,f1,f2,f3,f4,f5,f6⟩:=h5 rfl;have eM:=hs.objs l;rw[rt]at eM;obtain⟨mb',ms',clock,d1,d2,d3,d4,d5,d6,d7,d8⟩:=eM;rw[r4]at d1;simp only[Jb,Jo,and_true]at d1;subst d1;rw[f1]at d3;simp only[Jb,Go.Obj.map.injEq]at d3;obtain⟨rfl,rfl⟩:=d3;have ee:(execOp a.eval o).run P w=((Instr.next (.pointer (some ⟨b,0,none⟩)) false o.type).run P w).andThen λv w'=>.ok (.value v) w':=by
    simp[execOp,hm,hq]
   rcases Qbmm (P:=P) (t:=o.type) r3 f1 d7 with ⟨k1,k2⟩|⟨w1,ix,m,k1,k2,k3,k4⟩
   ·have iK:left=[]:=by
     cases left with
     |nil=>rfl
     |cons y r=>
      obtain⟨iy,my,a1,a2,a3⟩:=(f5 y).1 ZD;exact absurd (k1 iy my a2) a3
    refine EOk.value (g':=g) (v:=.tuple #[.bool false]) (w':=w) (by rw[ee,k2];rfl) (c1 iK) (.refl hs) (.tup _ [.bool false] rfl λj x u e1 e2=>?_)
    cases j with
    |zero=>simp at e1 e2;subst e1;subst e2;exact .c _ _ (.bool _)
    |succ j=>simp at e1
   ·have fO:ix<es.length:=by
     rw[<-f2];rcases Jh ix ms.size with h|h
     ·exact h
     ·rw[Jm h]at k1;simp at k1
    have iR:=Jd fO;generalize hxx:es[ix]=xx at iR;have eP:xx∈left:=(f5 xx).2 ⟨ix,m,iR,k1,k2⟩;obtain⟨q,qz,nO⟩:=List.getElem_of_mem eP;have me:=N2 left q qz;rw[nO]at me;have dh:(xx::left.eraseIdx q).Nodup:=me.nodup_iff.2 f4;have pg:∀y,y∈left.eraseIdx q↔y∈left/\y≠xx:=by
     intro y;rw[<-me.mem_iff];rw[Ja1]at dh;constructor
     ·intro hy;exact⟨by simp[hy],λh=>dh.1 (h▸hy)⟩
     ·rintro⟨hy,bd⟩;simp at hy;exact hy.resolve_left bd
    have hk:=c2 xx (left.eraseIdx q) eP pg (Ja1.1 dh).2 (by rw[List.length_eraseIdx,if_pos qz];omega);have dD:Stp H g w H g w1:=by
     rcases k3 with rfl|rfl
     ·exact .refl hs
     ·exact KI hs
    have gW:∀bb:Nat,w1.heap[bb]? = w.heap[bb]?:=(by intro bb;rcases k3 with rfl|rfl <;> rfl);have yz:l≠i:=λh=>(by subst h;rw[rt]at hH;simp at hH);have yn:mb≠b:=λh=>(by subst h;rw[f1]at r3;simp at r3);have aN:Stp H g w1 (H.set i (.iter (some (l,n)) (left.eraseIdx q) (some xx))) g (World.putObj' w1 b (.mapIter (some mb) si (se.push m.born) si)):=by
     have af:b<w1.heap.size:=Gs ((gW b).trans r3);refine Q7d dD.sat r2 (by simp[World.putObj']) (λb' h=>TD h) (λT' k hk=>?_) rfl rfl rfl _ Zaw (λaS=>?_) ZD
     ·simp[World.shape?,gW,r3]at hk
     ·refine⟨b,mb,si,se.push m.born,bP,r2,Pg af,r4,λv es' iG=>?_⟩;rw[Heap.aj _ _ yz,rt]at iG;simp only[Obj.map.injEq]at iG;obtain⟨rfl,rfl⟩:=iG;refine⟨Jw _,λ_=>⟨ms,?_,f2,f3,(Ja1.1 dh).2,λy=>?_,λy hy=>?_⟩⟩
      ·rw[TD yn,gW];exact f1
      ·rw[pg y,f5 y];constructor
       ·rintro⟨⟨iy,my,a1,a2,a3⟩,bd⟩;refine⟨iy,my,a1,a2,λdH=>?_⟩;rw[Jbl]at dH;rcases dH with dH|dH
        ·exact a3 dH
        ·have:=d8 iy ix my m a2 k1 (.inl dH);subst this;rw[iR]at a1;simp at a1;exact bd a1.symm
       ·rintro⟨iy,my,a1,a2,a3⟩;rw[Jbl,not_or]at a3;refine⟨⟨iy,my,a1,a2,a3.1⟩,λh=>?_⟩;subst h;have AW:iy<es.length:=by
         rcases Jh iy es.length with h|h
         ·exact h
         ·rw[Jf h]at a1;simp at a1
        have:iy=ix:=(List.getElem_inj (h₀:=AW) (h₁:=fO) f3).1 (by
         rw[Jd AW]at a1;simp at a1;rw[a1,hxx])
        subst this;rw[k1]at a2;simp at a2;subst a2;exact a3.2 rfl
      ·simp at hy;subst hy;exact⟨ix,m,iR,k1,ZD⟩
    have uZ:=d6 ix xx m iR k1;refine EOk.value (v:=.tuple #[.bool true,m.key,m.val]) (by rw[ee,k4];rfl) hk (dD.trans aN) (.tup _ [.bool true,m.key,m.val] rfl λj y u e1 e2=>?_);have uc:=(dD.trans aN).le
    match j with
    |0=>simp at e1 e2;subst e1;subst e2;exact .c _ _ (.bool _)
    |1=>simp at e1 e2;subst e1;subst e2;exact .c _ _ (uZ.1.mono uc)
    |2=>simp at e1 e2;subst e1;subst e2;exact uZ.2.mono uc
    |j+3=>simp at e1
  ·exact q2.elim
 ·exact q2.elim
theorem Qb6h {x:Opd}{x':Operand}{K:V->Heap->Prop}(hm:o.op=.entry x')(hx:mO x x'=true)
  (hs:Sat H g w) (he:EnvOk w g e a) (hp:p=true) (ho:(EOp.ent x).eff P p e H K):EOk P H g w a o K:=by
 simp only[EOp.eff]at ho;obtain⟨q1,q2⟩:=ho;have hr:=BS he hx hp q1;split at q2
 ·rename_i i hv
  rw[hv]at hr;obtain⟨b,hq,bP⟩:=K1 hr.aO;have bg:=hs.objs i;split at q2
  ·rename_i l n left xx hH
   obtain⟨⟨es,rt⟩,c1⟩:=q2;rw[hH]at bg;obtain⟨b',mb,si,se,r1,r2,r3,r4,r5⟩:=bg;rw[bP]at r1;simp only[Jb,Jo,and_true]at r1;subst r1;obtain⟨_,h5⟩:=r5 n es rt;obtain⟨ms,f1,f2,f3,f4,f5,f6⟩:=h5 rfl;obtain⟨ix,m,k1,k2,k3⟩:=f6 xx rfl;have eM:=hs.objs l;rw[rt]at eM;obtain⟨mb',ms',clock,d1,d2,d3,d4,d5,d6,d7,d8⟩:=eM;rw[r4]at d1;simp only[Jb,Jo,and_true]at d1;subst d1;rw[f1]at d3;simp only[Jb,Go.Obj.map.injEq]at d3;obtain⟨rfl,rfl⟩:=d3;have g1:(getObj b).run P w=.ok (.mapIter (some mb) si se si) w:=Zay
   have g2:(getObj mb).run P w=.ok (.map ms si) w:=by simp[getObj,Sem.run,f1]
   have uB:ms.find? (λx=>x.born == m.born)=some m:=by
    cases hf:ms.find? (λx=>x.born == m.born)with
    |none=>
     rw[Array.find?_eq_none]at hf;have:=hf m (Jaw k2);simp at this
    |some m'=>
     have h1:=Array.find?_some hf;obtain⟨i',bR⟩:=Jaj (Array.mem_of_find?_eq_some hf);have:i'=ix:=d8 i' ix m' m bR k2 (.inl ZZ);subst this;rw[k2]at bR;exact bR.symm
   refine EOk.value (g':=g) (v:=.tuple #[m.key,m.val]) (w':=w) ?_ c1 (.refl hs) (.tup _ [m.key,m.val] rfl λj y u e1 e2=>?_)
   ·simp[execOp,hm,hq,Instr.entry,g1,k3,g2,uB]
   ·have uZ:=d6 ix xx m k1 k2
    match j with
    |0=>simp at e1 e2;subst e1;subst e2;exact .c _ _ uZ.1
    |1=>simp at e1 e2;subst e1;subst e2;exact uZ.2
    |j+2=>simp at e1
  ·exact q2.elim
 ·exact q2.elim
theorem Qb4p {sz:Nat}{zero:List C}{x:Opd}{x':Operand}{ats:Array TypeId}{t el:TypeId}{i:TypeInfo}{z:Value}{K:V->Heap->Prop}
  (hm:o.op=.call { callee:=.builtin .clear,args:=#[x'],argTypes:=ats }) (br:ats[0]? = some t) (hu:P.underlying t=some (.slice el))
  (hi:P.info? el=some i) (hz:i.zero=some z) (iE:Db zero z=true) (gU:zero.length=sz) (hx:mO x x'=true)
  (hs:Sat H g w) (he:EnvOk w g e a) (hp:p=true) (ho:(EOp.clrs sz zero x).eff P p e H K):EOk P H g w a o K:=by
 simp only[EOp.eff]at ho;obtain⟨q1,q2⟩:=ho;have gY:=BS he hx hp q1;split at q2
 ·rename_i l z' st n hv
  obtain⟨rfl,q2⟩:=q2;split at q2
  ·rename_i y rows hH
   obtain⟨rfl,q3,q4⟩:=q2;rw[hv]at gY;have du:=gY.aO;generalize hq:a.eval x'=xv at du;have hr:=In (w:=w) (g:=g) iE;have cH:z.cells.size=y:=hr.1.trans gU;by_cases hn:n=0
   ·subst hn;have e0:rows.take st++List.replicate 0 zero++rows.drop (st+0)=rows:=ZD;rw[e0,Heap.set_self _ _ _ hH]at q4;refine EOk.value (g':=g) (v:=.tuple #[]) (w':=w) ?_ q4 (.refl hs) (.unk _)
    cases du with
    |bK _ _ _ ad=>cases ad <;> simp[execOp,hm,resolve,invoke,builtin,hq,Builtin.clear_,br,BT hu]
    |ah=>simp[execOp,hm,resolve,invoke,builtin,hq,Builtin.clear_,br,BT hu]
   ·cases du with
    |bK=>exact absurd rfl hn
    |ah _ _ _ _ cap b base T mm bP hn' iH ez=>
     have bg:=hs.objs l;rw[hH]at bg;obtain⟨b',base',T',cs,val,r1,r2,r3,r4,r5,r6,r7,r8⟩:=SatVec.of bg bP;rw[bP]at r1;simp only[Jb,Jo,true_and]at r1;obtain⟨rfl,rfl⟩:=r1;have b7:∀(q:Nat) (v:Value),(Builtin.zeroCells z.cells n)[q]? = some v->q<n * y/\z.cells[q % y]? = some v:=by
      intro q v h;simp only[Builtin.zeroCells,cH,Jan]at h;by_cases lZ:q<n * y
      ·rw[Jak,if_pos lZ]at h;have rS:0<y:=by
        rcases Jag y with h0|h0
        ·subst h0;simp at lZ
        ·exact h0
       have af:q % y<z.cells.size:=(by rw[cH];exact Jbf _ rS);refine⟨lZ,?_⟩;rw[Jc af];simp only[Jq,Jb]at h;rw[<-h];simp[af]
      ·rw[Jak,if_neg lZ]at h;simp at h
     have am:(Builtin.zeroCells z.cells n).toList.length=n * y:=(by simp[Builtin.zeroCells,cH]);have jE:∀v∈(Builtin.zeroCells z.cells n).toList,v.oneCell'=true:=by
      intro v hv;obtain⟨j,hj⟩:=J2 hv;obtain⟨h1,h2⟩:=b7 j v ZV;have af:j % y<zero.length:=by
       rcases Jh (j % y) z.cells.size with h|h
       ·rw[hr.1]at h;exact h
       ·rw[Jm h]at h2;simp at h2
      exact (hr.2 _ _ v (Jd af) h2).one
     have aR:(st+n) * y<=rows.length * y:=Jl _ q3;rw[Jk]at aR;have hf:=λj=>Ij (base+st * y) (Builtin.zeroCells z.cells n).toList 0 cs j ZR;have cE:=IY (P:=P) (Builtin.zeroCells z.cells n).toList 0 w b (base+st * y) cs T' r3 ZR jE;generalize rz:((Builtin.zeroCells z.cells n).toList.zipIdx 0).foldl (λ(cs:Array Value) (x:Value×Nat)=>cs.setIfInBounds (base+st * y+x.2) x.1) cs=cs' at hf cE;refine EOk.value (g':=g) (v:=.tuple #[]) (w':=World.aA w b cs' T') ?_ q4 ?_ (.unk _)
     ·obtain⟨n',rfl⟩:∃n',n=n'+1:=⟨n-1,ZB⟩;simp[execOp,hm,resolve,invoke,builtin,hq,Builtin.clear_,br,BT hu,DF hi hz,cE]
     ·refine I4 hs r2 r3 (hf 0).1 _ Zaw (λaS fR=>?_) ZD;have aC:∀(i2:Nat) (row:List C),(rows.take st++List.replicate n zero++rows.drop (st+n))[i2]? = some row->
        (st<=i2/\i2<st+n/\row=zero)\/((i2<st\/st+n<=i2)/\rows[i2]? = some row):=by
       intro i2 row h;by_cases h1:i2<st
       ·rw[Jz,Ji ZG,Jp,if_pos h1]at h;exact .inr ⟨.inl h1,h⟩
       ·by_cases h2:i2<st+n
        ·rw[Ji ZG,Jj ZG,Jar]at h;split at h
         ·exact .inl ⟨ZB,h2,by simpa using h.symm⟩
         ·simp at h
        ·rw[Jj ZG,Jr]at h;refine .inr ⟨.inr ZB,?_⟩;rw[<-h];congr 1;simp;omega
      have eG:∀(i2:Nat) (row:List C) (j:Nat) (c:C),(rows.take st++List.replicate n zero++rows.drop (st+n))[i2]? = some row->row[j]? = some c->
        ∃v,cs'[base+i2 * y+j]? = some v/\RepO (World.aA w b cs' T') g l [i2,j] c v:=by
       intro i2 row j c e1 e2;have cN:j<row.length:=(Jac.1 e2).1;rcases aC i2 row e1 with ⟨a1,a2,rfl⟩|⟨a1,a2⟩
       ·rw[gU]at cN;have xu:(i2-st) * y+j<n * y:=G5 ZB cN;have uk:j<z.cells.size:=(by rw[cH];exact cN);refine⟨z.cells[j],?_,.plain _ _ _ _ ((hr.2 j c _ e2 (Jc uk)).mono aS)⟩;have ov:i2 * y=st * y+(i2-st) * y:=(by rw[<-Jk];congr 1;omega);rw[(hf _).2,if_pos ZR,ov];have:base+(st * y+(i2-st) * y)+j-(base+st * y+0)=(i2-st) * y+j:=ZB;rw[this];have aT:(i2-st) * y+j<(Builtin.zeroCells z.cells n).toList.length:=(by rw[am];exact xu);rw[Jd aT];have h3:=b7 ((i2-st) * y+j) _ (by rw[<-Ju];exact Jd aT);have qR:((i2-st) * y+j) % y=j:=(by rw[Ja2,Jbk];exact Jbi cN);rw[qR,Jc uk]at h3;exact h3.2.symm
       ·refine⟨val i2 j,?_,IX r2 aS (λb' h=>Gx h) ZD (r8 _ _ _ _ a2 e2)⟩;have hjy:j<y:=(by rw[<-r6 _ _ a2];exact cN);rw[(hf _).2,if_neg ?_]
        ·exact r7 _ _ _ _ a2 e2
        ·rw[am];intro gP;rcases a1 with h|h
         ·have:(i2+1) * y<=st * y:=Jl _ ZB;rw[Jk,Jai]at this;omega
         ·have:(st+n) * y<=i2 * y:=Jl _ h;rw[Jk]at this;omega
      refine .inr ⟨b,base,T',cs',λi2 j=>cs'.getD (base+i2 * y+j) undef,bP,r2,fR,?_,?_,λi2 row h=>?_,λi2 row j c e1 e2=>?_,λi2 row j c e1 e2=>?_⟩
      ·rw[(hf 0).1];have:(rows.take st++List.replicate n zero++rows.drop (st+n)).length=rows.length:=ZG;rw[this];exact r4
      ·have:(rows.take st++List.replicate n zero++rows.drop (st+n)).length=rows.length:=ZG;rw[this];exact r5
      ·rcases aC i2 row h with ⟨_,_,rfl⟩|⟨_,a2⟩
       ·exact gU
       ·exact r6 _ _ a2
      ·obtain⟨v,h1,h2⟩:=eG i2 row j c e1 e2;rw[h1];simp[Je,h1]
      ·obtain⟨v,h1,h2⟩:=eG i2 row j c e1 e2;have e0:cs'.getD (base+i2 * y+j) undef=v:=(by simp[Je,h1]);show RepO _ _ _ _ _ (cs'.getD (base+i2 * y+j) undef);rw[e0];exact h2
  ·exact q2.elim
 ·exact q2.elim
theorem Qb6g {sz:Nat}{x y:Opd}{x' y':Operand}{ats:Array TypeId}{t el:TypeId}{i:TypeInfo}{K:V->Heap->Prop}
  (hm:o.op=.call { callee:=.builtin .copy,args:=#[x',y'],argTypes:=ats }) (br:ats[0]? = some t) (hu:P.underlying t=some (.slice el))
  (hi:P.info? el=some i) (hz:i.size=sz) (hx:mO x x'=true) (hy:mO y y'=true)
  (hs:Sat H g w) (he:EnvOk w g e a) (hp:p=true) (ho:(EOp.cpy sz x y).eff P p e H K):EOk P H g w a o K:=by
 simp only[EOp.eff]at ho;obtain⟨q1,q2,q3,q4,q5,q6,q7⟩:=ho;have gY:=BS he hx hp q1;have jB:=BS he hy hp q2;rw[CH q4]at jB;have sa:=jB.aO;generalize (y.v e).c1=sx at *;rw[CH q3]at gY;have du:=gY.aO;generalize (x.v e).c1=cx at *;generalize xt:a.eval x'=xv at du;generalize vz:a.eval y'=yv at sa;split at q7
 ·rename_i l z' st n
  split at q7
  ·rename_i y2 rows hH
   obtain⟨rfl,rfl,k3,k4,k5,k6⟩:=q7;obtain⟨f,f1,f2,f3⟩:=If (P:=P) hs sa q5 q6 k5;obtain⟨ad,cap2,rfl,r1',r2',r3',_⟩:=G7 hs sa q5;rw[q6]at r3';have yl:Nat.min (ay sx) n=ay sx:=Nat.min_eq_left k4;generalize mq:ay sx=m at *;by_cases su:m=0
   ·subst su;have bE:rowsOf H sx=[]:=Jx.1 ZB;have e0:rows.take st++rowsOf H sx++rows.drop (st+0)=rows:=(by rw[bE];simp);rw[e0,Heap.set_self _ _ _ hH]at k6;refine EOk.value (g':=g) (v:=.int .i64 0) (w':=w) ?_ k6 (.refl hs) (.c _ _ (.int _ _));simp at f1
    cases du with
    |bK _ _ _ ad2=>cases ad2 <;> simp[execOp,hm,resolve,invoke,builtin,xt,vz,Builtin.copy_,Builtin.lenOf,br,BT hu,CD hi,hz,f1,storeCells,goInt]
    |ah=>simp[execOp,hm,resolve,invoke,builtin,xt,vz,Builtin.copy_,Builtin.lenOf,br,BT hu,CD hi,hz,f1,storeCells,goInt]
   ·cases du with
    |bK=>exact absurd (Nat.le_zero.1 k4) su
    |ah _ _ _ _ cap b base T mm bP hn' iH ez=>
     have bg:=hs.objs l;rw[hH]at bg;obtain⟨b',base',T',cs,val,r1,r2,r3,r4,r5,r6,r7,r8⟩:=SatVec.of bg bP;rw[bP]at r1;simp only[Jb,Jo,true_and]at r1;obtain⟨rfl,rfl⟩:=r1;have am:((List.range (m * y2)).map f).length=m * y2:=ZD;have jE:∀v∈(List.range (m * y2)).map f,v.oneCell'=true:=by
      intro v hv;obtain⟨q,hq,rfl⟩:=Jbg.1 hv;exact f2 q (Jbm.1 hq)
     have aR:(st+n) * y2<=rows.length * y2:=Jl _ k3;have AY:m * y2<=n * y2:=Jl _ k4;rw[Jk]at aR;have hf:=λj=>Ij (base+st * y2) ((List.range (m * y2)).map f) 0 cs j ZR;have cE:=IY (P:=P) ((List.range (m * y2)).map f) 0 w b (base+st * y2) cs T' r3 ZR jE;generalize rz:(((List.range (m * y2)).map f).zipIdx 0).foldl (λ(cs:Array Value) (x:Value×Nat)=>cs.setIfInBounds (base+st * y2+x.2) x.1) cs=cs' at hf cE;refine EOk.value (g':=g) (v:=.int .i64 m) (w':=World.aA w b cs' T') ?_ k6 ?_ (.c _ _ (.int _ _))
     ·simp[execOp,hm,resolve,invoke,builtin,xt,vz,Builtin.copy_,Builtin.lenOf,br,BT hu,CD hi,hz,yl,f1,cE,goInt]
     ·refine I4 hs r2 r3 (hf 0).1 _ Zaw (λaS fR=>?_) ZD;have aC:∀(i2:Nat) (row:List C),(rows.take st++rowsOf H sx++rows.drop (st+m))[i2]? = some row->
        (st<=i2/\i2<st+m/\(rowsOf H sx)[i2-st]? = some row)\/((i2<st\/st+m<=i2)/\rows[i2]? = some row):=by
       intro i2 row h;by_cases h1:i2<st
       ·rw[Jz,Ji ZG,Jp,if_pos h1]at h;exact .inr ⟨.inl h1,h⟩
       ·by_cases h2:i2<st+m
        ·rw[Ji ZG,Jj ZG]at h;refine .inl ⟨ZB,h2,?_⟩;have e:i2-(rows.take st).length=i2-st:=ZG;rw[e]at h;exact h
        ·rw[Jj ZG,Jr]at h;refine .inr ⟨.inr ZB,?_⟩;rw[<-h];congr 1;simp;omega
      have eG:∀(i2:Nat) (row:List C) (j:Nat) (c:C),(rows.take st++rowsOf H sx++rows.drop (st+m))[i2]? = some row->row[j]? = some c->
        ∃v,cs'[base+i2 * y2+j]? = some v/\RepO (World.aA w b cs' T') g l [i2,j] c v:=by
       intro i2 row j c e1 e2;have cN:j<row.length:=(Jac.1 e2).1;rcases aC i2 row e1 with ⟨a1,a2,a3⟩|⟨a1,a2⟩
       ·rw[r3' _ _ a3]at cN;have xu:(i2-st) * y2+j<m * y2:=G5 ZB cN;refine⟨f ((i2-st) * y2+j),?_,.plain _ _ _ _ ((f3 _ _ _ _ a3 e2).mono aS)⟩;have ov:i2 * y2=st * y2+(i2-st) * y2:=(by rw[<-Jk];congr 1;omega);rw[(hf _).2,if_pos ZR,ov];have:base+(st * y2+(i2-st) * y2)+j-(base+st * y2+0)=(i2-st) * y2+j:=ZB;rw[this,Jn,Jad xu];rfl
       ·refine⟨val i2 j,?_,IX r2 aS (λb' h=>Gx h) ZD (r8 _ _ _ _ a2 e2)⟩;have hjy:j<y2:=(by rw[<-r6 _ _ a2];exact cN);rw[(hf _).2,if_neg ?_]
        ·exact r7 _ _ _ _ a2 e2
        ·rw[am];intro gP;rcases a1 with h|h
         ·have:(i2+1) * y2<=st * y2:=Jl _ ZB;rw[Jk,Jai]at this;omega
         ·have:(st+m) * y2<=i2 * y2:=Jl _ h;rw[Jk]at this;omega
      have jI:(rows.take st++rowsOf H sx++rows.drop (st+m)).length=rows.length:=ZG;refine .inr ⟨b,base,T',cs',λi2 j=>cs'.getD (base+i2 * y2+j) undef,bP,r2,fR,?_,?_,λi2 row h=>?_,λi2 row j c e1 e2=>?_,λi2 row j c e1 e2=>?_⟩
      ·rw[(hf 0).1,jI];exact r4
      ·rw[jI];exact r5
      ·rcases aC i2 row h with ⟨_,_,a3⟩|⟨_,a2⟩
       ·exact r3' _ _ a3
       ·exact r6 _ _ a2
      ·obtain⟨v,h1,h2⟩:=eG i2 row j c e1 e2;rw[h1];simp[Je,h1]
      ·obtain⟨v,h1,h2⟩:=eG i2 row j c e1 e2;have e0:cs'.getD (base+i2 * y2+j) undef=v:=(by simp[Je,h1]);show RepO _ _ _ _ _ (cs'.getD (base+i2 * y2+j) undef);rw[e0];exact h2
  ·exact q7.elim
 ·exact q7.elim
def Fp (P:Program)(el:TypeId)(sz:Nat):Bool:=
 match P.info? el with
 |some i=>i.size == sz&&decide (i.bytes<=128)&&decide (i.bytes≠0)&&(match i.zero with
  |some z=>z.cells.size == sz
  |none=>false)
 |none=>false
theorem MM {el:TypeId}{sz:Nat}(h:Fp P el sz=true):∃i z,P.info? el=some i/\i.size=sz/\i.zero=some z/\z.cells.size=sz/\i.bytes<=128/\i.bytes≠0:=by
 unfold Fp at h;split at h
 ·rename_i i hi
  simp only[Ja,decide_eq_true_eq,beq_iff_eq]at h;obtain⟨⟨⟨h1,h2⟩,h3⟩,h4⟩:=h;split at h4
  ·rename_i z hz;exact⟨i,z,hi,h1,hz,by simpa using h4,h2,h3⟩
  ·simp at h4
 ·simp at h
def mMap (P:Program)(t:TypeId)(tag:Nat):Bool:=
 match P.underlying t with
 |some (.map kt _)=>(match P.underlying kt with
  |some d=>E9 d tag
  |none=>false)
 |_=>false
theorem Rt {t:TypeId}{tag:Nat}(h:mMap P t tag=true):∃kt et,P.underlying t=some (.map kt et)/\P.underlying kt=some (tagD tag):=by
 unfold mMap at h;split at h
 ·rename_i kt et hu
  split at h
  ·rename_i d hd;have:=Q5f h;subst this;exact⟨kt,et,hu,hd⟩
  ·simp at h
 ·simp at h
def mE (P:Program)(o:Oper):EOp->Bool
 |.alloc cells=>match o.op with
  |.alloc t=>DX P t cells
  |_=>false
 |.boxm x=>match o.op with
  |.box _ x'=>mO x x'
  |_=>false
 |.sto n x y=>match o.op with
  |.store t x' y'=>CW P t n&&mO x x'&&mO y y'
  |_=>false
 |.app sz x y=>match o.op with
  |.call { callee:=.builtin .append,args:=⟨[x',y']⟩,argTypes:=ats }=>mO x x'&&mO y y'&&(match ats[0]?,ats[1]? with
   |some t,some t2=>(match P.underlying t,P.underlying t2 with
    |some (.slice el),some (.slice _)=>Fp P el sz
    |_,_=>false)
   |_,_=>false)
  |_=>false
 |.mks sz zero x=>match o.op with
  |.makeSlice t x' y'=>mO x x'&&mO x y'&&zero.length == sz&&decide (sz≠0)&&(match P.underlying t with
   |some (.slice el)=>Fp P el sz&&DX P el zero
   |_=>false)
  |_=>false
 |.mkm=>match o.op with
  |.makeMap _ none=>true
  |_=>false
 |.upd tag x k y=>match o.op with
  |.mapUpdate t x' k' y'=>mO x x'&&mO k k'&&mO y y'&&mMap P t tag
  |.insert t x' k' y'=>mO x x'&&mO k k'&&mO y y'&&mMap P t tag
  |_=>false
 |.del tag x k=>false
 |.clrm x=>false
 |.clrs sz zero x=>match o.op with
  |.call { callee:=.builtin .clear,args:=⟨[x']⟩,argTypes:=ats }=>mO x x'&&zero.length == sz&&(match ats[0]? with
   |some t=>(match P.underlying t with
    |some (.slice el)=>DX P el zero
    |_=>false)
   |none=>false)
  |_=>false
 |.call f xs=>match o.op with
  |.call { callee:=.value (.func f'),args:=as,argTypes:=_ }=>f == f'&&mOs xs as.toList
  |_=>false
 |.f9 x xs=>match o.op with
  |.call { callee:=.value y,args:=as,argTypes:=_ }=>mO x y&&mOs xs as.toList
  |_=>false
 |.rng x=>match o.op with
  |.range t x'=>mO x x'&&(match P.underlying t with
   |some (.map _ _)=>true
   |_=>false)
  |_=>false
 |.rngs x=>false
 |.nxts x=>false
 |.nxt x=>match o.op with
  |.next x' false=>mO x x'
  |_=>false
 |.ent x=>match o.op with
  |.entry x'=>mO x x'
  |_=>false
 |.nilq x=>match o.op with
  |.binOp .eql t x' (.const (.slice none 0 0)) _=>mO x x'&&(match P.underlying t with
   |some (.slice _)=>true
   |_=>false)
  |_=>false
 |.cpy sz x y=>match o.op with
  |.call { callee:=.builtin .copy,args:=⟨[x',y']⟩,argTypes:=ats }=>mO x x'&&mO y y'&&(match ats[0]? with
   |some t=>(match P.underlying t with
    |some (.slice el)=>CW P el sz
    |_=>false)
   |none=>false)
  |_=>false
 |.bslm sz parts=>match o.op with
  |.buildSlice t n parts'=>n == parts'.size&&decide (n * sz<=2 ^ 24)&&mRow 0 parts parts'.toList&&decide (sz≠0)&&(match P.underlying t with
   |some (.slice el)=>CW P el sz&&(match P.info? el with
    |some i=>i.zero.isSome
    |none=>false)
   |_=>false)
  |_=>false
theorem Ib {op:EOp}{K:V->Heap->Prop}(hm:mE P o op=true)(hs:Sat H g w)(he:EnvOk w g e a)(hp:p=true)(ho:op.eff P p e H K):EOk P H g w a o K:=by
 cases op with
 |alloc cells=>
  simp only[mE]at hm;split at hm
  ·obtain⟨i,z,h1,h2,h3⟩:=IM hm;exact Qb1h ‹_› h1 h2 h3 hs ho
  ·simp at hm
 |boxm x=>
  simp only[mE]at hm;split at hm
  ·exact Qb4m ‹_› hm hs he hp ho
  ·simp at hm
 |sto n x y=>
  simp only[mE]at hm;split at hm
  ·simp only[Ja]at hm;obtain⟨i,h1,h2⟩:=GC hm.1.1;exact Qb6m ‹_› h1 h2 hm.1.2 hm.2 hs he hp ho
  ·simp at hm
 |app sz x y=>
  simp only[mE]at hm;split at hm
  ·rename_i x' y' ats b9
   simp only[Ja]at hm;obtain⟨⟨h1,h2⟩,h3⟩:=hm;split at h3
   ·rename_i t t2 ht dy
    split at h3
    ·rename_i el el2 hu eJ
     obtain⟨i,z,k1,k2,k3,k4,k5,k6⟩:=MM h3;exact Qb6f b9 ht dy hu eJ k1 k2 k3 k4 k5 k6 h1 h2 hs he hp ho
    ·simp at h3
   ·simp at h3
  ·simp at hm
 |bslm sz parts=>
  simp only[mE]at hm;split at hm
  ·rename_i t n parts' b9
   simp only[Ja,decide_eq_true_eq,beq_iff_eq]at hm;obtain⟨⟨⟨⟨h1,h2⟩,h3⟩,h4⟩,h5⟩:=hm;split at h5
   ·rename_i el gN
    rw[Ja]at h5;obtain⟨i,hi,hz⟩:=GC h5.1;have h6:=h5.2;rw[hi]at h6;obtain⟨z,dx⟩:=J3.1 h6;obtain⟨k1,k2⟩:=HQ _ _ _ h3;exact Qb4n b9 gN hi dx hz h4 h1 h2 (by simpa using k1) (λj x y e1 e2=>by
     have:=k2 j x y e1 Zad;exact⟨by simpa using this.1,this.2⟩) hs he hp ho
   ·simp at h5
  ·simp at hm
 |mks sz zero x=>
  simp only[mE]at hm;split at hm
  ·rename_i t x' y' b9
   simp only[Ja,decide_eq_true_eq,beq_iff_eq]at hm;obtain⟨⟨⟨⟨h1,h2⟩,h3⟩,h4⟩,h5⟩:=hm;split at h5
   ·rename_i el hu
    rw[Ja]at h5;obtain⟨i,z,k1,k2,k3,k4,k5,k6⟩:=MM h5.1;obtain⟨i',z',l1,l2,l3⟩:=IM h5.2;rw[k1]at l1;simp at l1;subst l1;exact Qb6j b9 hu k1 k2 h4 l2 l3 h3 k5 h1 h2 hs he hp ho
   ·simp at h5
  ·simp at hm
 |mkm=>
  simp only[mE]at hm;split at hm
  ·exact Qb6i ‹_› hs ho
  ·simp at hm
 |upd tag x k y=>
  simp only[mE]at hm;split at hm
  ·simp only[Ja]at hm;obtain⟨kt,et,h1,h2⟩:=Rt hm.2;exact Ml (.inl ‹_›) h1 h2 hm.1.1.1 hm.1.1.2 hm.1.2 hs he hp ho
  ·simp only[Ja]at hm;obtain⟨kt,et,h1,h2⟩:=Rt hm.2;exact Ml (.inr ‹_›) h1 h2 hm.1.1.1 hm.1.1.2 hm.1.2 hs he hp ho
  ·simp at hm
 |del tag x k=>
  simp[mE]at hm
 |clrm x=>
  simp[mE]at hm
 |clrs sz zero x=>
  simp only[mE]at hm;split at hm
  ·rename_i x' ats b9
   rw[Ja,Ja,beq_iff_eq]at hm;obtain⟨⟨h1,h3⟩,h2⟩:=hm;split at h2
   ·rename_i t ht
    split at h2
    ·rename_i el hu
     obtain⟨i,z,l1,l2,l3⟩:=IM h2;exact Qb4p b9 ht hu l1 l2 l3 h3 h1 hs he hp ho
    ·simp at h2
   ·simp at h2
  ·simp at hm
 |call f xs=>
  simp only[mE]at hm;split at hm
  ·simp only[Ja,beq_iff_eq]at hm;obtain⟨rfl,h2⟩:=hm;simp only[EOp.eff]at ho;exact Qb4o ‹_› h2 hs he hp ho.1 ho.2
  ·simp at hm
 |f9 x xs=>
  simp only[mE]at hm;split at hm
  ·simp only[Ja]at hm;exact Qb1i ‹_› hm.1 hm.2 hs he hp ho
  ·simp at hm
 |rng x=>
  simp only[mE]at hm;split at hm
  ·rename_i t x' b9
   rw[Ja]at hm;obtain⟨h1,h2⟩:=hm;split at h2
   ·exact Qb6l b9 ‹_› h1 hs he hp ho
   ·simp at h2
  ·simp at hm
 |rngs x=>
  simp[mE]at hm
 |nxts x=>
  simp[mE]at hm
 |nxt x=>
  simp only[mE]at hm;split at hm
  ·exact Qb6k ‹_› hm hs he hp ho
  ·simp at hm
 |ent x=>
  simp only[mE]at hm;split at hm
  ·exact Qb6h ‹_› hm hs he hp ho
  ·simp at hm
 |cpy sz x y=>
  simp only[mE]at hm;split at hm
  ·rename_i x' y' ats b9
   rw[Ja,Ja]at hm;obtain⟨⟨h1,h3⟩,h2⟩:=hm;split at h2
   ·rename_i t ht
    split at h2
    ·rename_i el hu
     obtain⟨i,l1,l2⟩:=GC h2;exact Qb6g b9 ht hu l1 l2 h1 h3 hs he hp ho
    ·simp at h2
   ·simp at h2
  ·simp at hm
 |nilq x=>
  simp only[mE]at hm;split at hm
  ·rename_i t x' t' b9
   rw[Ja]at hm;obtain⟨h1,h2⟩:=hm;split at h2
   ·exact Qb4q b9 ‹_› h1 rfl hs he hp ho
   ·simp at h2
  ·simp at hm
def mG (ops:Array Oper):Option (Nat×Bool)->Option (Nat×Bool)->Bool
 |none,none=>true
 |some (j,b),some (t,b')=>(match ops[j]? with
  |some o=>o.dst == some t
  |none=>false)&&b == b'
 |_,_=>false
def mDst (n:Nat)(d d':Option Nat):Bool:=
 d == d'&&(match d with
  |some t=>decide (t<n)
  |none=>true)
def CF (P:Program)(n:Nat)(ops:Array Oper)(o:Oper):Item->Bool
 |.f d g op=>mDst n o.dst d&&mG ops o.guard g&&mF P o op
 |.p d g f xs=>mDst n o.dst d&&mG ops o.guard g&&mE P o (.call f xs)
 |.e d g op=>mDst n o.dst d&&mG ops o.guard g&&mE P o op
 |.chk _ _ _=>false
def mIts (P:Program)(n:Nat)(ops:Array Oper):Nat->List Item->Bool
 |i,[]=>i == ops.size
 |i,x::r=>(match ops[i]? with
  |some o=>CF P n ops o x
  |none=>false)&&mIts P n ops (i+1) r
def Post (n:Nat)(H:Heap)(g:G)(w:World)(K:Env->Heap->Prop)(a:Act)(w':World):Prop:=
 ∃e' H' g',K e' H'/\Stp H g w H' g' w'/\EnvOk w' g' e' a/\a.defers=[]/\a.tmps.size=n
theorem EnvOk.mono {g':G}{w':World}(aS:Le g w g' w')(h:EnvOk w g e a):EnvOk w' g' e a:=λt=>(h t).mono aS
theorem EnvOk.put {n:Nat}{d:Option Nat}{x:V}{v:Value}(h:EnvOk w g e a)(hv:RepV w g x v)(hn:a.tmps.size=n)(hd:∀t,d=some t->t<n):EnvOk w g (Cz d x e) (a.put d v):=by
 intro t
 cases d with
 |none=>exact h t
 |some s=>
  have hs:=hd s rfl;simp only[Cz,lk,Act.put];by_cases ht:t=s
  ·subst ht;rw[if_pos rfl];have:(a.tmps.setIfInBounds t v).getD t undef=v:=by
    rw[Je,Jaa ZB];rfl
   rw[this];exact hv
  ·rw[if_neg ht];have:(a.tmps.setIfInBounds s v).getD t undef=a.tmps.getD t undef:=by
    rw[Je,Js (Ne.symm ht),<-Je]
   rw[this];exact h t
theorem Dg (a:Act)(d:Option Nat)(v:Value):(a.put d v).tmps.size=a.tmps.size/\(a.put d v).defers=a.defers:=by
 cases d <;> simp[Act.put]
theorem Ip {n:Nat}{ops:Array Oper}{gd:Option (Nat×Bool)}(hm:mG ops o.guard gd=true)(he:EnvOk w g e a)(ho:gdO e gd):Region.wanted o (yielded ops a.tmps)=gdB e gd:=by
 unfold Region.wanted
 cases hg:o.guard with
 |none=>
  cases gd with
  |none=>rfl
  |some x=>rw[hg]at hm;simp[mG]at hm
 |some jb=>
  obtain⟨j,b⟩:=jb
  cases gd with
  |none=>rw[hg]at hm;simp[mG]at hm
  |some tb=>
   obtain⟨t,b'⟩:=tb;rw[hg]at hm;simp only[mG,Ja,beq_iff_eq]at hm;obtain⟨h1,rfl⟩:=hm;split at h1
   ·rename_i oj hoj
    simp at h1;simp only[yielded,hoj,Option.bind_some,h1];have hv:=he t;simp only[gdO]at ho;simp only[gdB];have b7:∀c,a.tmps.getD t undef=.bool c->a.tmps[t]? = some (.bool c):=by
     intro c hc;rw[Je]at hc
     cases hx:a.tmps[t]? with
     |none=>rw[hx]at hc;simp[undef]at hc
     |some y=>rw[hx]at hc;simp at hc;rw[hc]
    have bD:a.tmps.getD t undef=undef->∀c,a.tmps[t]?≠some (.bool c):=by
     intro hu c hc;rw[Je,hc]at hu;simp[undef]at hu
    split at ho
    ·rename_i c gm
     rw[gm]at hv;have:=b7 _ hv.aO.bx;simp only[gm];simp[this]
    ·rename_i q c gm
     rw[gm]at hv;simp only[gm]
     cases hv with
     |gd _ _ _ k1 k2=>
      cases q with
      |true=>
       have:=b7 _ (k1 rfl).aO.bx;simp[this]
      |false=>
       have:=bD (k2 rfl);simp only[Bool.false_and]
       cases hx:a.tmps[t]? with
       |none=>simp
       |some y=>cases y <;> simp_all
    ·rename_i q v oe gm
     rw[gm]at hv;subst ho;have e0:gdB e (some (t,b))=false:=by
      simp only[gdB,gm]
      cases v with
      |c x=>cases x <;> simp
      |_=>rfl
     refine Eq.trans ?_ e0.symm
     cases hv with
     |gd _ _ _ k1 k2=>
      have:=bD (k2 rfl)
      cases hx:a.tmps[t]? with
      |none=>simp
      |some y=>cases y <;> simp_all
    ·exact ho.elim
   ·simp at h1
theorem Fd {n:Nat}{d d':Option Nat}(h:mDst n d d'=true):d=d'/\∀t,d=some t->t<n:=by
 unfold mDst at h;rw[Ja]at h;refine⟨by simpa using h.1,λt ht=>?_⟩;subst ht;simpa using h.2
theorem L8 {f:Nat}{xs:List Opd}{r:V}(hm:mE P o (.call f xs)=true)(hs:Sat H g w)(he:EnvOk w g e a)(hp:p=true)(hf:∀x∈xs,x.fine p e)(hc:Fs P f (xs.map λx=>x.v e) r) :
  EOk P H g w a o (λv H'=>v=r/\H'=H):=
 Ib (op:=.call f xs) hm hs he hp ⟨hf,hc.2 H _ ⟨rfl,rfl⟩⟩
theorem LZ {KP:Value->Heap->Prop}{K:V->Heap->Prop}{x:V}{v:Value}(h:Dm KP K x H)(hr:RepV w g x v):K x H:=by
 cases hr <;> exact h
theorem Qblp {n:Nat}{ops:Array Oper}{i:Nat}{x:Item}{rest:List Item}{KP:Value->Heap->Prop}{K:Env->Heap->Prop}{Q:Exit->Act->World->Prop}{next:Act->World->Prop}(sh:ops[i]? = some o)(hm:CF P n ops o x=true)
  (hs:Sat H g w) (he:EnvOk w g e a) (hn:a.tmps.size=n) (hd:a.defers=[]) (hr:regT P (x::rest) e H KP K)
  (jC:∀v H' g' w',KP v H'->Stp H g w H' g' w'->Q (.panic [{ v:=v,recovered:=false }]) a w')
  (bY:∀e' H' g' a' w',regT P rest e' H' KP K->Stp H g w H' g' w'->EnvOk w' g' e' a'->a'.tmps.size=n->a'.defers=[]->next a' w') :
  (if Region.wanted o (yielded ops a.tmps)then o.wp P a w next Q\/(o.asks P a w/\LetsOut Q)else next (a.put o.dst undef) w):=by
 cases x with
 |f d gd op=>
  simp only[CF,Ja]at hm;obtain⟨⟨h1,h2⟩,h3⟩:=hm;obtain⟨dv,eU⟩:=Fd h1;simp only[regT]at hr;obtain⟨r1,r2,r3⟩:=hr;rw[Ip (n:=n) h2 he r1];by_cases hg:gdB e gd=true
  ·rw[if_pos hg];obtain⟨v,w',g',k1,k2,k3,k4⟩:=R8 h3 hs he hg (r2 hg);left;unfold Oper.wp;rw[k1,Oper.upon_value,dv];refine bY _ _ _ _ _ (r3 λ_=>k4) k2 (((he.mono k2.le).put (n:=n) ?_ hn (dv▸eU))) Zal Zam
   cases gd with
   |none=>exact k3
   |some tb=>exact .gd _ _ _ (λ_=>k3) (λh=>by rw[hg]at h;simp at h)
  ·rw[if_neg hg];have mA:gdB e gd=false:=Zak
   rw[dv];refine bY _ _ _ _ _ (r3 λh=>absurd h hg) (.refl hs) (he.put (n:=n) ?_ hn (dv▸eU)) Zal Zam
   cases gd with
   |none=>simp[gdB]at mA
   |some tb=>exact .gd _ _ _ (λh=>absurd h hg) (λ_=>rfl)
 |p d gd f xs=>
  simp only[CF,Ja]at hm;obtain⟨⟨h1,h2⟩,h3⟩:=hm;obtain⟨dv,eU⟩:=Fd h1;simp only[regT]at hr;obtain⟨r1,v0,r2,r3⟩:=hr;rw[Ip (n:=n) h2 he r1];by_cases hg:gdB e gd=true
  ·rw[if_pos hg];obtain⟨s1,s2⟩:=r2 hg;left;refine L8 h3 hs he hg s1 s2 Q next (λx v w' H' g' hk aN dt=>?_) λv w' H' g' hk _=>absurd hk.1.symm (s2.1 v);obtain⟨rfl,rfl⟩:=hk;rw[dv];refine bY _ _ _ _ _ r3 aN (((he.mono aN.le).put (n:=n) ?_ hn (dv▸eU))) Zal Zam
   cases gd with
   |none=>exact dt
   |some tb=>exact .gd _ _ _ (λ_=>dt) (λh=>by rw[hg]at h;simp at h)
  ·rw[if_neg hg];have mA:gdB e gd=false:=Zak
   rw[dv];refine bY _ _ _ _ _ r3 (.refl hs) (he.put (n:=n) ?_ hn (dv▸eU)) Zal Zam
   cases gd with
   |none=>simp[gdB]at mA
   |some tb=>exact .gd _ _ _ (λh=>absurd h hg) (λ_=>rfl)
 |e d gd op=>
  simp only[CF,Ja]at hm;obtain⟨⟨h1,h2⟩,h3⟩:=hm;obtain⟨dv,eU⟩:=Fd h1;simp only[regT]at hr;obtain⟨r1,r2,r3⟩:=hr;rw[Ip (n:=n) h2 he r1];by_cases hg:gdB e gd=true
  ·rw[if_pos hg];left;refine Ib h3 hs he hg (r2 hg) Q next (λx v w' H' g' hk aN dt=>?_) λv w' H' g' hk aN=>jC v H' g' w' hk aN;rw[dv];exact bY _ _ _ _ _ (LZ hk dt) aN (((he.mono aN.le).put (n:=n) dt hn (dv▸eU))) Zal Zam
  ·rw[if_neg hg];have mA:gdB e gd=false:=Zak
   rw[dv];exact bY _ _ _ _ _ (r3 mA) (.refl hs) (he.put (n:=n) (.unk _) hn (dv▸eU)) Zal Zam
 |chk d gd op=>simp[CF]at hm
theorem Q8h {n:Nat}{ops:Array Oper}{KP:Value->Heap->Prop}{K:Env->Heap->Prop}{Q:Exit->Act->World->Prop}{H0:Heap}{g0:G}{w0:World}(hQ:∀a' w',Post n H0 g0 w0 K a' w'->Q .normal a' w')
  (hP:∀v a' w',Post n H0 g0 w0 (λ_ H'=>KP v H') a' w'->Q (.panic [{ v:=v,recovered:=false }]) a' w') :
  ∀(its:List Item) (i:Nat) (e:Env) (H:Heap) (g:G) (w:World) (a:Act),mIts P n ops i its=true->Stp H0 g0 w0 H g w->EnvOk w g e a->a.tmps.size=n->a.defers=[]->regT P its e H KP K->
   wpOps P ops Q (List.range' i its.length) a w
 |[],i,e,H,g,w,a,_,aN,he,hn,hd,hr=>hQ a w ⟨e,H,g,hr,aN,he,hd,hn⟩
 |x::rest,i,e,H,g,w,a,hm,aN,he,hn,hd,hr=>by
  simp only[mIts,Ja]at hm;obtain⟨h1,h2⟩:=hm;split at h1
  ·rename_i o ho
   simp only[J8,List.range'_succ,wpOps,ho];have:=Qblp (Q:=Q) (next:=wpOps P ops Q (List.range' (i+1) rest.length)) ho h1 aN.sat he hn hd hr (λv H' g' w' k1 k2=>hP v a w' ⟨e,H',g',k1,aN.trans k2,he.mono k2.le,hd,hn⟩) λe' H' g' a' w' k1 k2 k3 k4 k5=>
    Q8h hQ hP rest (i+1) e' H' g' w' a' h2 (aN.trans k2) k3 k4 k5 k1
   simpa using this
  ·simp at h1
theorem Lk {n:Nat}{ops:Array Oper}:∀(its:List Item) (i:Nat),mIts P n ops i its=true->i+its.length=ops.size
 |[],i,h=>by simpa[mIts]using h
 |x::r,i,h=>by
  simp only[mIts,Ja]at h;have:=Lk r (i+1) h.2;simp only[J8];omega
end Go.AE
namespace Go.AE
variable {P:Program}
def optL:Option Opd->List Opd
 |none=>[]
 |some x=>[x]
def FOp.opds:FOp->List Opd
 |.mv x=>[x]
 |.pick c a b=>[c,a,b]
 |.bin _ _ a b=>[a,b]
 |.not a=>[a]
 |.fad _ a=>[a]
 |.iad _ a i=>[a,i]
 |.ld _ _ a=>[a]
 |.nck a=>[a]
 |.len a=>[a]
 |.lenx a=>[a]
 |.lens a=>[a]
 |.lensx a=>[a]
 |.lenm a=>[a]
 |.sli _ a lo hi=>a::(optL lo++optL hi)
 |.slis a lo hi=>a::(optL lo++optL hi)
 |.ext a _=>[a]
 |.asl _ a=>[a]
 |.aslp _ a hi=>a::optL hi
 |.ldg _ _ _=>[]
 |.ldo _ _=>[]
 |.aslg _ _ _=>[]
 |.iax _ _ a i=>[a,i]
 |.slm _ a hi=>[a,hi]
 |.iaa _ _ a i=>[a,i]
 |.fld _ _ _ a=>[a]
 |.idx a i=>[a,i]
 |.bld _ parts=>parts.map λp=>p.2.2
 |.kQ _ parts=>parts
 |.box a=>[a]
 |.cvt _ a=>[a]
 |.mkf _ caps=>caps
 |.lup _ _ m k=>[m,k]
 |.lup2 _ _ m k=>[m,k]
 |.mx a b=>[a,b]
 |.mn a b=>[a,b]
def EOp.opds:EOp->List Opd
 |.alloc _=>[]
 |.boxm a=>[a]
 |.sto _ a v=>[a,v]
 |.app _ a b=>[a,b]
 |.mks _ _ n=>[n]
 |.mkm=>[]
 |.upd _ m k v=>[m,k,v]
 |.del _ m k=>[m,k]
 |.clrm m=>[m]
 |.clrs _ _ m=>[m]
 |.call _ args=>args
 |.f9 f args=>f::args
 |.rng m=>[m]
 |.nxt it=>[it]
 |.rngs m=>[m]
 |.nxts it=>[it]
 |.ent it=>[it]
 |.nilq a=>[a]
 |.bslm _ parts=>parts
 |.cpy _ a b=>[a,b]
def FOp.hfree:FOp->Bool
 |.iad _ _ _=>false
 |.ld _ _ _=>false
 |.len _=>false
 |.lenx _=>false
 |.lenm _=>false
 |.sli _ _ _ _=>false
 |.lup _ _ _ _=>false
 |.asl _ _=>false
 |.ldg _ _ _=>false
 |.ldo _ _=>false
 |.aslg _ _ _=>false
 |.lup2 _ _ _ _=>false
 |_=>true
theorem Opd.aU {e e':Env}{x:Opd}(h:x.raw e'=x.raw e):x.v e'=x.v e:=by
 simp only[Opd.v,h]
theorem Opd.aE {e e':Env}{x:Opd}{p:Bool}(h:x.raw e'=x.raw e):x.fine p e'↔x.fine p e:=by
 simp only[Opd.fine,h]
theorem IG {e e':Env}{x:Option Opd}{p:Bool}(h:∀y∈optL x,y.raw e'=y.raw e) :
  (x.map λy=>BL (y.v e'))=(x.map λy=>BL (y.v e))/\(optF p x e'↔optF p x e)/\(optI x e'↔optI x e):=by
 cases x with
 |none=>exact⟨rfl,Jbc,Jbc⟩
 |some y=>
  have:=h y (by simp[optL]);simp only[Jq,optF,optI,Opd.aU this,Opd.aE this,and_self]
theorem FOp.congr {op:FOp}{e e':Env}{H:Heap}{p:Bool}(h:∀x∈op.opds,x.raw e'=x.raw e) :
  op.val e' H=op.val e H/\(op.obl p e' H↔op.obl p e H):=by
 cases op <;> simp only[FOp.opds,Jas,Jbh,or_false,forall_eq_or_imp,forall_eq,List.mem_append,Jbg,forall_exists_index,and_imp]at h
 case sli sz a lo hi=>
  have h1:=Opd.aU h.1;have h2:=IG (x:=lo) (p:=p) λy hy=>h.2 y (.inl hy);have h3:=IG (x:=hi) (p:=p) λy hy=>h.2 y (.inr hy);simp only[FOp.val,FOp.obl,h1,h2.1,h3.1,h2.2.1,h3.2.1,h2.2.2,h3.2.2,Opd.aE h.1,and_self]
 case ldg n b l=>exact⟨rfl,Jbc⟩
 case ldo b l=>exact⟨rfl,Jbc⟩
 case aslg n b l=>exact⟨rfl,Jbc⟩
 case aslp n a hi=>
  have h1:=Opd.aU h.1;have h3:=IG (x:=hi) (p:=p) λy hy=>h.2 y hy;simp only[FOp.val,FOp.obl,h1,h3.1,h3.2.1,h3.2.2,Opd.aE h.1,and_self]
 case slis a lo hi=>
  have h1:=Opd.aU h.1;have h2:=IG (x:=lo) (p:=p) λy hy=>h.2 y (.inl hy);have h3:=IG (x:=hi) (p:=p) λy hy=>h.2 y (.inr hy);simp only[FOp.val,FOp.obl,h1,h2.1,h3.1,h2.2.1,h3.2.1,h2.2.2,h3.2.2,Opd.aE h.1,and_self]
 case bld zero parts=>
  have h1:∀x∈parts,x.2.2.raw e'=x.2.2.raw e:=λx hx=>h _ x hx rfl;refine⟨?_,?_⟩
  ·simp only[FOp.val];have:(parts.map λp=>(p.1,(p.2.2.v e').cells))=parts.map λp=>(p.1,(p.2.2.v e).cells):=
    J7 λx hx=>by rw[Opd.aU (h1 x hx)]
   rw[this]
  ·simp only[FOp.obl];exact forall_congr' λx=>forall_congr' λhx=>by rw[Opd.aE (h1 x hx),Opd.aU (h1 x hx)]
 case kQ sz parts=>
  refine⟨?_,?_⟩
  ·simp only[FOp.val];have:(parts.map λx=>(x.v e').cells)=parts.map λx=>(x.v e).cells:=
    J7 λx hx=>Za1
   rw[this]
  ·simp only[FOp.obl];exact forall_congr' λx=>forall_congr' λhx=>ZaM
 case mkf f caps=>
  refine⟨?_,?_⟩
  ·simp only[FOp.val];have:(caps.map λx=>(x.v e').c1)=caps.map λx=>(x.v e).c1:=
    J7 λx hx=>Za1
   rw[this]
  ·simp only[FOp.obl];exact forall_congr' λx=>forall_congr' λhx=>ZaM
 case pick c a b=>
  simp only[FOp.val,FOp.obl,Opd.aU h.1,Opd.aU h.2.1,Opd.aU h.2.2,Opd.aE h.1,true_and];constructor <;> rintro⟨k1,k2⟩ <;> refine⟨k1,?_⟩ <;> split at k2 <;> first|exact k2.elim|skip
  ·rw[Opd.aE h.2.1,Opd.aE h.2.2]at k2;exact k2
  ·rw[Opd.aE h.2.1,Opd.aE h.2.2];exact k2
 all_goals first
  |(have h1:=Opd.aU h;simp only[FOp.val,FOp.obl,h1,Opd.aE h,and_self])
  |(have h1:=Opd.aU h.1;have h2:=Opd.aU h.2;simp only[FOp.val,FOp.obl,h1,h2,Opd.aE h.1,Opd.aE h.2,and_self])
theorem FOp.hcongr {op:FOp}{e:Env}{H H':Heap}{p:Bool}(h:op.hfree=true):op.val e H'=op.val e H/\(op.obl p e H'↔op.obl p e H):=by
 cases op <;> first|(simp[FOp.hfree]at h;done)|exact⟨rfl,Jbc⟩
theorem Q45 {e e':Env}{xs:List Opd}(h:∀x∈xs,x.raw e'=x.raw e):(xs.map λx=>x.v e')=(xs.map λx=>x.v e):=
 J7 λx hx=>Opd.aU (h x hx)
theorem Tx {e e':Env}{xs:List Opd}{p:Bool}(h:∀x∈xs,x.raw e'=x.raw e):(∀x∈xs,x.fine p e')↔(∀x∈xs,x.fine p e):=
 forall_congr' λx=>forall_congr' λhx=>Opd.aE (h x hx)
theorem EOp.congr {op:EOp}{e e':Env}{H:Heap}{p:Bool}{K:V->Heap->Prop}(h:∀x∈op.opds,x.raw e'=x.raw e)(he:op.eff P p e H K):op.eff P p e' H K:=by
 cases op
 case call f xs=>
  simp only[EOp.opds]at h;simp only[EOp.eff]at he⊢;rw[Q45 h,Tx h];exact he
 case f9 f xs=>
  simp only[EOp.opds,Jas,forall_eq_or_imp]at h;simp only[EOp.eff]at he⊢;rw[Q45 h.2,Tx h.2,Opd.aE h.1,Opd.aU h.1];exact he
 case bslm sz parts=>
  simp only[EOp.opds]at h;simp only[EOp.eff]at he⊢;have:(parts.map λx=>(x.v e').cells)=parts.map λx=>(x.v e).cells:=
   J7 λx hx=>Za1
  rw[this];exact⟨λx hx=>by rw[Opd.aE (h x hx),Opd.aU (h x hx)];exact he.1 x hx,he.2⟩
 all_goals simp only[EOp.opds,Jas,Jbh,or_false,forall_eq_or_imp,forall_eq]at h
 all_goals first
  |exact he
  |(simp only[EOp.eff,Opd.aU h,Opd.aE h]at he⊢;exact he)
  |(simp only[EOp.eff,Opd.aU h.1,Opd.aE h.1,Opd.aU h.2,Opd.aE h.2]at he⊢;exact he)
  |(simp only[EOp.eff,Opd.aU h.1,Opd.aE h.1,Opd.aU h.2.1,Opd.aE h.2.1,Opd.aU h.2.2,Opd.aE h.2.2]at he⊢;exact he)
def Item.dst:Item->Option Nat
 |.f d _ _=>d
 |.p d _ _ _=>d
 |.e d _ _=>d
 |.chk _ _ _=>none
def Item.gd:Item->Option (Nat×Bool)
 |.f _ g _=>g
 |.p _ g _ _=>g
 |.e _ g _=>g
 |.chk _ g _=>g
def Item.opds:Item->List Opd
 |.f _ _ op=>op.opds
 |.p _ _ _ xs=>xs
 |.e _ _ op=>op.opds
 |.chk _ _ op=>op.opds
def Opd.tm:Opd->List Nat
 |.t n=>[n]
 |_=>[]
def Item.looks (x:Item):List Nat:=x.opds.flatMap Opd.tm++(match x.gd with
 |some (t,_)=>[t]
 |none=>[])
theorem Qbsr {e e':Env}{x:Opd}(h:∀t∈x.tm,lk t e'=lk t e):x.raw e'=x.raw e:=by
 cases x with
 |t n=>simpa[Opd.raw,Opd.tm]using h
 |k v=>rfl
theorem Ru {e e':Env}{x:Item}(h:∀t∈x.looks,lk t e'=lk t e):∀y∈x.opds,y.raw e'=y.raw e:=λy hy=>
 Qbsr λt ht=>h t (Ja3 _ (List.mem_flatMap.2 ⟨y,hy,ht⟩))
theorem YS {e e':Env}{gd:Option (Nat×Bool)}(h:∀t b,gd=some (t,b)->lk t e'=lk t e):gdB e' gd=gdB e gd/\(gdO e' gd↔gdO e gd):=by
 cases gd with
 |none=>exact⟨rfl,Jbc⟩
 |some x=>
  obtain⟨t,b⟩:=x;have:=h t b rfl;simp only[gdB,gdO,this,and_self]
theorem Ll {e e':Env}{x:Item}(h:∀t∈x.looks,lk t e'=lk t e):gdB e' x.gd=gdB e x.gd/\(gdO e' x.gd↔gdO e x.gd):=
 YS λt b hg=>h t (Ja0 _ (by rw[hg];simp))
theorem FE (ks:List Nat)(e:Env)(t:Nat):lk t (trim ks e)=if t∈ks then lk t e else .unk:=by
 unfold trim
 induction ks with
 |nil=>simp[lk]
 |cons k ks ih=>
  simp only[Jbn,lk,ih,Jas];by_cases h:t=k
  ·subst h;simp
  ·simp[h]
end Go.AE
namespace Go.AE
abbrev Ui (n:Int):C:=.int .i64 n
abbrev Uv (n:Int):V:=.c (.int .i64 n)
abbrev Up (x:Nat):V:=.c (.ptr x 0)
abbrev Ul:=List (Nat×Obj)
abbrev Uk:=V->Heap->Prop
end Go.AE
