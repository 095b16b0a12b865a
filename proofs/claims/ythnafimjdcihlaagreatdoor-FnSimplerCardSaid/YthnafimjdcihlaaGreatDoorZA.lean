/- Part 1 of the proof: the engine, codes, walks and plain laws, each named where it stands. -/
import Derived.Laws.BytesArg
import Derived.Laws.RangeAny
import Derived.MapKept
import Derived.WalkKit
open Nat (reduceEqDiff reduceAdd reduceLeDiff reduceLT)
set_option linter.unusedVariables false
set_option linter.unusedSimpArgs false
set_option maxRecDepth 4000
open Array renaming getD_eq_getD_getElem?->Je,getElem?_eq_getElem->Jf,getElem?_eq_none->Jl,getElem?_setIfInBounds_ne->Jq,getElem?_toList->Jw,getElem?_push->J7,getElem?_modify->J9,getElem?_setIfInBounds_self_of_lt->Jaa,ext'->Jab,append_assoc->Jaf,getElem?_append_left->Jam,toList_zipIdx->Jaz,foldl_toList->Ja0
open Bool renaming and_eq_true->Ja,false_eq_true->Jy,or_eq_true->Jag,not_eq_true'->Jap,eq_iff_iff->Jbc
open ByteArray renaming ext->Ja1
open ByteArray.mk renaming injEq->Jbj
open Function renaming comp_def->Ja3
open Iff renaming rfl->Ja4
open Int renaming toNat_natCast->Jaq,natCast_nonneg->Ja2
open List renaming getElem?_eq_none->Jc,getElem?_eq_getElem->Jd,mem_of_getElem?->Ji,getElem?_map->Jj,getElem?_take->Jn,getElem?_append_left->Jo,getElem?_append_right->Jp,getElem?_drop->Js,length_eq_zero_iff->Jt,getD_eq_getElem?_getD->Jv,append_assoc->J3,map_congr_left->J4,all_eq_true->J5,length_cons->J8,extract_eq_take_drop->Jac,getElem?_range->Jad,length_append->Jah,length_nil->Jai,getElem?_of_mem->Jak,mem_append_left->Jal,getElem?_eq_some_iff->Jan,getElem?_zip_eq_some->Jao,getElem?_set->Jar,mem_cons->Jas,append_nil->Jav,getElem?_toArray->Jaw,mem_append_right->Jax,drop_take->Jay,ext_getElem?->Ja5,length_range->Ja6,map_map->Ja7,mem_map->Ja8,any_eq_true->Ja9,not_mem_nil->Jba,mem_range->Jbd,take_zero->Jbe,map_cons->Jbg
open Nat renaming lt_or_ge->Jg,add_mul->Jh,mul_le_mul_right->Jm,add_zero->Jx,le_refl->Jz,zero_add->J2,mul_le_mul_left->Jae,add_assoc->Jat,one_mul->Jau,lt_of_not_le->Jbb,mul_le_mul->Jbf,lt_irrefl->Jbh,mul_comm->Jbi
open Option renaming map_some->Jr,getD_some->Ju,getD_none->J0,isSome_iff_exists->J1,map_none->J6,isSome_none->Jaj
open Option.some renaming injEq->Jb,inj->Jbk
open Prod.mk renaming injEq->Jk
namespace Go.AE
theorem Za{G g:Prop}(h:g)(e:g→G:=by intro h;refine Qa ?_;simp only[go_sem];exact h):G:=e h
theorem Zb{G g:Prop}(h:g)(e:g→G:=by intro h;refine Qi ?_;simp only[go_sem,Qq,Q0,Ja,forall_eq,RS.op];exact h):G:=e h
theorem Zc{G g:Prop}(h:g)(e:g→G:=by intro h;refine Qd ?_;(try simp only[go_sem]);exact h):G:=e h
theorem Zd{G g P0:Prop}(p0:P0)(h:g)(e:P0→g→G:=by intro p0 h;refine Qa ?_;simp only[go_sem,p0];exact h):G:=e p0 h
theorem Ze{G g:Prop}(h:g)(e:g→G:=by intro h;refine Qd ?_;simp only[go_sem];exact h):G:=e h
theorem Zf{G g:Prop}(h:g)(e:g→G:=by intro h;refine Qd ?_;(try simp only[go_sem,AE.X.next]);exact h):G:=e h
theorem Zg{G g:Prop}(h:g)(e:g→G:=by intro h;refine Qy ?_;simp only[go_sem,AE.X.next];exact h):G:=e h
theorem Zh{G g:Prop}(h:g)(e:g→G:=by intro h;refine Qi ?_;simp only[go_sem,X.next,Qq,Q0,Ja,forall_eq,RS.op];exact h):G:=e h
theorem Zi{G g P0 P1:Prop}(p0:P0)(p1:P1)(h:g)(e:P0→P1→g→G:=by intro p0 p1 h;refine Qa ?_;simp only[go_sem,p0,p1];exact h):G:=e p0 p1 h
theorem Zj{G g P0 P1 P2 P3 P4:Prop}(p0:P0)(p1:P1)(p2:P2)(p3:P3)(p4:P4)(h:g)(e:P0→P1→P2→P3→P4→g→G:=by intro p0 p1 p2 p3 p4 h;refine Qa ?_;simp only[go_sem,p0,p1,p2,p3,p4];exact h):G:=e p0 p1 p2 p3 p4 h
theorem Zk{G g:Prop}(h:g)(e:g→G:=by intro h;refine Qr ?_;simp only[go_sem,AE.X.next];exact h):G:=e h
theorem Zl{G g P0:Prop}(p0:P0)(h:g)(e:P0→g→G:=by intro p0 h;refine Qr ?_;simp only[go_sem,AE.X.next,p0];exact h):G:=e p0 h
theorem Zm{G g:Prop}(h:g)(e:g→G:=by intro h;refine Qy ?_;simp only[go_sem,X.next];exact h):G:=e h
theorem Zn{G g:Prop}(h:g)(e:g→G:=by intro h;refine Qi ?_;simp only[go_sem];exact h):G:=e h
theorem Zo{G g:Prop}(h:g)(e:g→G:=by intro h;refine Qr ?_;simp only[go_sem,X.next];exact h):G:=e h
theorem Zp{G g:Prop}(h:g)(e:g→G:=by intro h;refine Qr ?_;simp only[go_sem];exact h):G:=e h
theorem Zq{G g P0:Prop}(p0:P0)(h:g)(e:P0→g→G:=by intro p0 h;refine Qi ?_;simp only[go_sem,Qq,Q0,Ja,forall_eq,RS.op,p0];exact h):G:=e p0 h
theorem Zr{G g P0 P1 P2:Prop}(p0:P0)(p1:P1)(p2:P2)(h:g)(e:P0→P1→P2→g→G:=by intro p0 p1 p2 h;refine Qa ?_;simp only[go_sem,p0,p1,p2];exact h):G:=e p0 p1 p2 h
theorem Zs{G g:Prop}(h:g)(e:g→G:=by intro h;refine Qi ?_;simp only[go_sem,Qq,Q0,Jb,forall_eq,RS.op];exact h):G:=e h
theorem Zt{G g:Prop}(h:g)(e:g→G:=by intro h;refine Qd ?_;simp only[go_sem,AE.X.next];exact h):G:=e h
theorem Zu{G g:Prop}(h:g)(e:g→G:=by intro h;refine Qa ?_;simp only[go_sem,x.aa];exact h):G:=e h
theorem Zv{G g:Prop}(h:g)(e:g→G:=by intro h;refine Qi ?_;(try simp only[go_sem,AE.X.next]);exact h):G:=e h
theorem Zw{G g P0 P1 P2:Prop}(p0:P0)(p1:P1)(p2:P2)(h:g)(e:P0→P1→P2→g→G:=by intro p0 p1 p2 h;refine Qa ?_;simp only[go_sem,Qh,Qs _ _ bq,Ex.aa,p0,p1,p2];exact h):G:=e p0 p1 p2 h
theorem Zx{G g:Prop}(h:g)(e:g→G:=by intro h;refine Qi ?_;simp only[go_sem,AE.X.next];exact h):G:=e h
theorem Zy{G g:Prop}(h:g)(e:g→G:=by intro h;refine Qy ?_;(try simp only[go_sem,AE.X.next]);exact h):G:=e h
theorem Zz{G g P0:Prop}(p0:P0)(h:g)(e:P0→g→G:=by intro p0 h;refine Qi ?_;simp only[go_sem,Qq,Q0,Jb,forall_eq,RS.op,p0];exact h):G:=e p0 h
theorem ZA{G g:Prop}(h:g)(e:g→G:=by intro h;refine Qi ?_;simp only[go_sem,X.next];exact h):G:=e h
theorem ZB{G g P0:Prop}(p0:P0)(h:g)(e:P0→g→G:=by intro p0 h;refine Qr ?_;simp only[go_sem,p0];exact h):G:=e p0 h
theorem ZC{G g P0 P1:Prop}(p0:P0)(p1:P1)(h:g)(e:P0→P1→g→G:=by intro p0 p1 h;refine Qi ?_;simp only[go_sem,Qq,Q0,Ja,forall_eq,RS.op,p0,p1];exact h):G:=e p0 p1 h
theorem ZD{G g P0:Prop}(p0:P0)(h:g)(e:P0→g→G:=by intro p0 h;refine Qi ?_;simp only[go_sem,AE.X.next,Qq,Q0,Jb,forall_eq,RS.op,p0];exact h):G:=e p0 h
theorem ZE{G g P0 P1:Prop}(p0:P0)(p1:P1)(h:g)(e:P0→P1→g→G:=by intro p0 p1 h;refine Qr ?_;simp only[go_sem,p0,p1];exact h):G:=e p0 p1 h
theorem ZF{G g P0 P1 P2:Prop}(p0:P0)(p1:P1)(p2:P2)(h:g)(e:P0→P1→P2→g→G:=by intro p0 p1 p2 h;refine Qa ?_;simp only[go_sem,Qp,Q9 _ _ af,x.aa,p0,p1,p2];exact h):G:=e p0 p1 p2 h
theorem ZG{G g P0 P1 P2 P3:Prop}(p0:P0)(p1:P1)(p2:P2)(p3:P3)(h:g)(e:P0→P1→P2→P3→g→G:=by intro p0 p1 p2 p3 h;refine Qa ?_;simp only[go_sem,p0,p1,p2,p3];exact h):G:=e p0 p1 p2 p3 h
theorem ZH{G g:Prop}(h:g)(e:g→G:=by intro h;refine Qi ?_;simp only[go_sem,Qq,Q0,Je,forall_eq,RS.op];exact h):G:=e h
theorem ZI{G g:Prop}(h:g)(e:g→G:=by intro h;refine Qa ?_;simp only[go_sem,Ex.aa,Ex.op,Ex.n,Ex.name,Ex.kids];exact h):G:=e h
theorem ZJ{G g P0:Prop}(p0:P0)(h:g)(e:P0→g→G:=by intro p0 h;refine Qa ?_;simp only[go_sem,Qh,Qs _ _ af,Ex.bA,Ex.aU,Ex.ae,p0];exact h):G:=e p0 h
theorem ZK{G g P0 P1:Prop}(p0:P0)(p1:P1)(h:g)(e:P0→P1→g→G:=by intro p0 p1 h;refine Qi ?_;simp only[go_sem,Qq,Q0,Jb,forall_eq,RS.op,p0,p1];exact h):G:=e p0 p1 h
theorem ZL{G g P0:Prop}(p0:P0)(h:g)(e:P0→g→G:=by intro p0 h;refine Qi ?_;simp only[go_sem,Qq,Q0,Je,forall_eq,RS.op,p0];exact h):G:=e p0 h
theorem ZM{G g P0:Prop}(p0:P0)(h:g)(e:P0→g→G:=by intro p0 h;refine Qa ?_;simp only[go_sem,GS.o,p0];exact h):G:=e p0 h
theorem ZN{G g P0 P1:Prop}(p0:P0)(p1:P1)(h:g)(e:P0→P1→g→G:=by intro p0 p1 h;refine Qa ?_;simp only[go_sem,Qt,BT _ _ af,p0,p1];exact h):G:=e p0 p1 h
theorem ZO{G g P0:Prop}(p0:P0)(h:g)(e:P0→g→G:=by intro p0 h;refine Qd ?_;(try simp only[go_sem,AE.X.next,p0]);exact h):G:=e p0 h
theorem ZP{G g:Prop}(h:g)(e:g→G:=by intro h;refine Qa ?_;simp only[go_sem,Fn.cells];exact h):G:=e h
theorem ZQ{G g P0:Prop}(p0:P0)(h:g)(e:P0→g→G:=by intro p0 h;refine Qi ?_;simp only[go_sem,AE.X.next,Qq,Q0,Ja,forall_eq,RS.op,p0];exact h):G:=e p0 h
theorem ZR{G g:Prop}(h:g)(e:g→G:=by intro h;refine Qi ?_;simp only[go_sem,AE.X.next,Qq,Q0,RS.op];exact h):G:=e h
theorem ZS{G g:Prop}(h:g)(e:g→G:=by intro h;refine Qi ?_;simp only[go_sem,Qq,Q0,RS.op];exact h):G:=e h
theorem ZT{P:Prop}(h:P:=by omega):P:=h
theorem ZU{P:Prop}(h:P:=by simpa using hc):P:=h
theorem ZV{P:Prop}(h:P:=by simp):P:=h
theorem ZW{P:Prop}(h:P:=by kernel_rfl):P:=h
theorem ZX{P:Prop}(h:P:=by simp[lk]):P:=h
theorem ZY{P:Prop}(h:P:=by rw[show (Ex.mk op n name kids).kids=kids from rfl,hk];simp):P:=h
theorem ZZ{P:Prop}(h:P:=by simpa using au):P:=h
theorem Zaa{P:Prop}(h:P:=by simp at h):P:=h
theorem Zab{P:Prop}(h:P:=by decide):P:=h
theorem Zac{P:Prop}(h:P:=by simp;omega):P:=h
theorem Zad{P:Prop}(h:P:=by rw[St.cutS_args];exact h2):P:=h
theorem Zae{P:Prop}(h:P:=by rw[St.foldS_args];exact BE h2):P:=h
theorem Zaf{P:Prop}(h:P:=by simp[G.newObj]):P:=h
theorem Zag{P:Prop}(h:P:=by rw[decide_eq_decide];omega):P:=h
theorem Zah{P:Prop}(h:P:=by symm;rw[decide_eq_false_iff_not];omega):P:=h
theorem Zai{P:Prop}(h:P:=by rw[hk];simp):P:=h
theorem Zaj{P:Prop}(h:P:=by rw[St.foldS_op];exact h1):P:=h
theorem Zak{P:Prop}(h:P:=by simp only[World.shape?];rw[show w.heap.size=w.drew.heap.size from rfl,Cl]):P:=h
theorem Zal{P:Prop}(h:P:=by rw[St.cutS_op];exact h1):P:=h
theorem Zam{P:Prop}(h:P:=by simp at hc):P:=h
theorem Zan{P:Prop}(h:P:=by rw[hc]at hb;simpa using hb.symm):P:=h
theorem Zao{P:Prop}(h:P:=by rw[←eZ];exact bS.ows (by rw[Qp];simp[fi]) dj B9 iV):P:=h
theorem Zap{P:Prop}(h:P:=by simp[hp]):P:=h
theorem Zaq{P:Prop}(h:P:=by simpa using bT):P:=h
theorem Zar{P:Prop}(h:P:=by simp[G.handOver]):P:=h
theorem Zas{P:Prop}(h:P:=by simpa using hb):P:=h
theorem Zat{P:Prop}(h:P:=by simpa using hp):P:=h
theorem Zau{P:Prop}(h:P:=by rw[h]):P:=h
theorem Zav{P:Prop}(h:P:=by simp only[LIM];omega):P:=h
theorem Zaw{P:Prop}(h:P:=by simp only[FOp.val,hv];exact .c _ _ (.int _ _)):P:=h
theorem Zax{P:Prop}(h:P:=by simp[ai,C.ah]):P:=h
theorem Zay{P:Prop}(h:P:=by simp only[Jj,Ji,LIM];omega):P:=h
theorem Zaz{P:Prop}(h:P:=by simpa using h):P:=h
theorem ZaA{P:Prop}(h:P:=by rw[hI.split];simp[hz]):P:=h
theorem ZaB{P:Prop}(h:P:=by rw[h]at hc;simp at hc):P:=h
theorem ZaC{P:Prop}(h:P:=by rw[gy0];nofun):P:=h
theorem ZaD{P:Prop}(h:P:=by subst h;exact gt (hs.none_of_io dd)):P:=h
theorem ZaE{P:Prop}(h:P:=by rw[St.cutS_body (by have:=hf.2;omega)];exact f2):P:=h
theorem ZaF{P:Prop}(h:P:=by rw[←hx];exact Jp af):P:=h
theorem ZaG{P:Prop}(h:P:=by simpa using hl):P:=h
theorem ZaH{P:Prop}(h:P:=by simpa using e2):P:=h
theorem ZaI{P:Prop}(h:P:=by rw[h2];simp):P:=h
theorem ZaJ{P:Prop}(h:P:=by simp[obU]):P:=h
theorem ZaK{P:Prop}(h:P:=by rw[St.foldS_body];exact f2):P:=h
theorem ZaL{P:Prop}(h:P:=by simp[ai,Dg,CH,Df,bR,bt,cL]):P:=h
theorem ZaM{P:Prop}(h:P:=by simp only[Jc,Jf,LIM];omega):P:=h
theorem ZaN{P:Prop}(h:P:=by rw[df];exact eD):P:=h
theorem ZaO{P:Prop}(h:P:=by nofun):P:=h
theorem ZaP{P:Prop}(h:P:=by rw[aM];omega):P:=h
theorem ZaQ{P:Prop}(h:P:=by rw[(B2 _ _ _).1,hn]):P:=h
theorem ZaR{P:Prop}(h:P:=by rw[(B2 _ _ _).2,hd]):P:=h
theorem ZaS{P:Prop}(h:P:=by rw[hx,hy]at h;rw[gX.2 h]at au;simp at au):P:=h
theorem ZaT{P:Prop}(h:P:=by rw[hx,hy];exact gX.1 (by simpa using au)):P:=h
theorem ZaU{P:Prop}(h:P:=by rw[Heap.aj _ _ jn];exact ew):P:=h
theorem ZaV{P:Prop}(h:P:=by simp only[EOp.eff,Bu]):P:=h
theorem ZaW{P:Prop}(h:P:=by simpa using kn):P:=h
theorem ZaX{P:Prop}(h:P:=by simp[IntKind.wrap,IntKind.signed,IntKind.bits];omega):P:=h
theorem ZaY{P:Prop}(h:P:=by rw[List.mem_take_iff_getElem];exact⟨j,by omega,rfl⟩):P:=h
theorem ZaZ{P:Prop}(h:P:=by rw[hH];simp):P:=h
theorem Za0{P:Prop}(h:P:=by rw[acN,if_pos (by omega),AO,if_neg (by omega)];rfl):P:=h
theorem Za1{P:Prop}(h:P:=by rw[fE,J2];exact Jm _ k1):P:=h
theorem Za2{P:Prop}(h:P:=by simp only[Aj,h3,bP,cK,and_self,if_true,if_false]):P:=h
theorem Za3{P:Prop}(h:P:=by rw[hI.lsz];exact (Jl.1 ho.op).1):P:=h
theorem Za4{P:Prop}(h:P:=by simpa using h1):P:=h
theorem Za5{P:Prop}(h:P:=by simpa using hg):P:=h
theorem Za6{P:Prop}(h:P:=by first|simpa using au|(rw[←kE];simpa using au)):P:=h
theorem Za7{P:Prop}(h:P:=by simp only[Qp,Jf,Jg,LIM];omega):P:=h
theorem Za8{P:Prop}(h:P:=by simp only[nm,Jv]at dy⊢;rw[dy]):P:=h
theorem Za9{P:Prop}(h:P:=by rw[St.foldS_args];exact Ey h2):P:=h
theorem Zba{P:Prop}(h:P:=by simp only[Ap,hh]):P:=h
theorem Zbb{P:Prop}(h:P:=by rw[h1];exact h2):P:=h
theorem Zbc{P:Prop}(h:P:=by rw[eN];simp[lk]):P:=h
theorem Zbd{P:Prop}(h:P:=by rw[fw];simp[lk]):P:=h
theorem Zbe{P:Prop}(h:P:=by show op≤9;omega):P:=h
theorem Zbf{P:Prop}(h:P:=by simpa using h2):P:=h
theorem Zbg{P:Prop}(h:P:=by simpa using hj):P:=h
theorem Zbh{P:Prop}(h:P:=by simpa using hz):P:=h
theorem Zbi{P:Prop}(h:P:=by simp[k1]):P:=h
theorem Zbj{P:Prop}(h:P:=by simp only[Ay,ScD.ob,ScD.ls,J2,Ja2];rfl):P:=h
theorem Zbk{P:Prop}(h:P:=by simp only[Ex.valid,Jb]at dG;exact dG.1):P:=h
theorem Zbl{P:Prop}(h:P:=by simp only[Ex.valid,Jb]at lt;exact lt.1):P:=h
theorem Zbm{P:Prop}(h:P:=by simp only[Ex.valid,Jb]at hv;exact hv.1):P:=h
theorem Zbn{P:Prop}(h:P:=by rw[hF.injDst (ey _ bF) iu dT bN eQ h]):P:=h
theorem Zbo{P:Prop}(h:P:=by simp[Jf,af]):P:=h
theorem Zbp{P:Prop}(h:P:=by simp only[Ex.size];omega):P:=h
theorem Zbq{P:Prop}(h:P:=by simp only[Qh,Jr,Jaj,Jc,Jf,LIM];omega):P:=h
theorem Zbr{P:Prop}(h:P:=by rw[Opd.aA (h x hx),Opd.aL (h x hx)]):P:=h
theorem Zbs{P:Prop}(h:P:=by rw[List.flatten_cons];exact Ja _ hp):P:=h
theorem Zbt{P:Prop}(h:P:=by rw[h1];rfl):P:=h
theorem Zbu{P:Prop}(h:P:=by simp at bh;omega):P:=h
theorem Zbv{P:Prop}(h:P:=by simpa using y.ai):P:=h
theorem Zbw{P:Prop}(h:P:=by simp[hx]):P:=h
theorem Zbx{P:Prop}(h:P:=by rw[hI.size];exact Tj ho.item t ht):P:=h
theorem Zby{P:Prop}(h:P:=by simp only[Cf,Qj,St.size,Qw];omega):P:=h
theorem Zbz{P:Prop}(h:P:=by simp[hr]):P:=h
theorem ZbA{P:Prop}(h:P:=by simp[jt]):P:=h
theorem ZbB{P:Prop}(h:P:=by simp only[FOp.val,hv]):P:=h
theorem ZbC{P:Prop}(h:P:=by rw[Dr af (BD au)];rfl):P:=h
theorem ZbD{P:Prop}(h:P:=by simp only[World.size_drew];omega):P:=h
theorem ZbE{P:Prop}(h:P:=by simp only[World.shape?,D5 ev,gU]):P:=h
theorem ZbF{P:Prop}(h:P:=by simp only[Qh,J2,Jf,Jg,LIM];omega):P:=h
theorem ZbG{P:Prop}(h:P:=by rw[Jr];exact hj):P:=h
theorem ZbH{P:Prop}(h:P:=by rw[df];exact o5):P:=h
theorem ZbI{P:Prop}(h:P:=by rw[←ho.len,(g x).ae]):P:=h
theorem ZbJ{P:Prop}(h:P:=by simp[Aj,h3,bP,cK,hr]):P:=h
theorem ZbK{P:Prop}(h:P:=by rw[hh];simp):P:=h
theorem ZbL{P:Prop}(h:P:=by rw[hm];simp):P:=h
theorem ZbM{P:Prop}(h:P:=by simpa using e1):P:=h
theorem ZbN{P:Prop}(h:P:=by simpa using iP):P:=h
theorem ZbO{P:Prop}(h:P:=by rw[←bG,hz];rfl):P:=h
theorem ZbP{P:Prop}(h:P:=by rw[Opd.aL (h x hx)]):P:=h
theorem ZbQ{P:Prop}(h:P:=by rw[h];simp only[Q2]):P:=h
theorem ZbR{P:Prop}(h:P:=by simp[hz]):P:=h
theorem ZbS{P:Prop}(h:P:=by rw[hc];rfl):P:=h
theorem ZbT{P:Prop}(h:P:=by rw[hf];rfl):P:=h
theorem ZbU{P:Prop}(h:P:=by simp[bv]):P:=h
theorem ZbV{P:Prop}(h:P:=by simp[Mn.F]):P:=h
theorem ZbW{P:Prop}(h:P:=by rw[hI.split];simp):P:=h
theorem ZbX{P:Prop}(h:P:=by simpa using ho.ai):P:=h
theorem ZbY{P:Prop}(h:P:=by rw[Jd];exact Jg _):P:=h
theorem ZbZ{P:Prop}(h:P:=by simp[Mn.F,ScD.ob]):P:=h
theorem Zb0{P:Prop}(h:P:=by rw[Jh];omega):P:=h
theorem Zb1{P:Prop}(h:P:=by rw[x.aa];rfl):P:=h
theorem Zb2{P:Prop}(h:P:=by simp[lk];rfl):P:=h
theorem Zb3{P:Prop}(h:P:=by rw[g.keys];nofun):P:=h
theorem Zb4{P:Prop}(h:P:=by simp at hc;omega):P:=h
theorem Zb5{P:Prop}(h:P:=by rw[←D0];exact hf):P:=h
theorem Zb6{P:Prop}(h:P:=by rw[fE];simp):P:=h
theorem Zb7{P:Prop}(h:P:=by simp[Am,vT]):P:=h
theorem Zb8{P:Prop}(h:P:=by rw[eU];simp):P:=h
theorem Zb9{P:Prop}(h:P:=by rw[fC];exact ha):P:=h
theorem Zca{P:Prop}(h:P:=by rw[Js];exact kn):P:=h
theorem Zcb{P:Prop}(h:P:=by rw[h1,h2];nofun):P:=h
theorem Zcc{P:Prop}(h:P:=by rw[hF];simp[Aw]):P:=h
theorem Zcd{P:Prop}(h:P:=by rw[←D0];exact h):P:=h
theorem Zce{P:Prop}(h:P:=by simp[hn]):P:=h
theorem Zcf{P:Prop}(h:P:=by simp[Qw]):P:=h
theorem Zcg{P:Prop}(h:P:=by simp[fi]):P:=h
theorem Zch{P:Prop}(h:P:=by simp at hl):P:=h
theorem Zci{P:Prop}(h:P:=by rw[hH];rfl):P:=h
theorem Zcj{P:Prop}(h:P:=by simp[ih.1]):P:=h
theorem Zck{P:Prop}(h:P:=by rw[h4];rfl):P:=h
theorem Zcl{P:Prop}(h:P:=by rw[h5];rfl):P:=h
theorem Zcm{P:Prop}(h:P:=by rw[h6];rfl):P:=h
theorem Zcn{P:Prop}(h:P:=by rw[cU]):P:=h
theorem Zco{P:Prop}(h:P:=by rw[←iU]):P:=h
end Go.AE
namespace Go.AE
def LIM:Nat:=549755813888
inductive C where
 |int (k:IntKind) (n:Int)
 |bool (b:Bool)
 |str (s:List UInt8)
 |sl (full:Bool) (sz:Nat) (rows:List (List C))
 |pp (cells:List C)
 |ep (s:C) (sz i k:Nat)
 |pnil
 |ptr (l k:Nat)
 |aw (l sz st n:Nat)
 |mp (l:Nat)
 |mnil
 |slb (n:Nat)
 |stb (n:Nat)
 |cm (agg:Bool) (ks:List C) (rows:List (List C))
 |fn (f:Nat) (caps:List C)
 |fnil
 |itr (l:Nat)
 |ow (sz:Nat) (rows:List (List C))
 |unk
 deriving Inhabited
inductive V where
 |c (x:C)
 |ag (cs:List C)
 |tup (vs:List V)
 |gd (p:Bool) (v:V)
 |unk
 |pn (v:Value)
 |asl (l k n:Nat)
 deriving Inhabited
inductive Obj where
 |none
 |st (cells:List C)
 |vec (sz:Nat) (rows:List (List C))
 |map (ver:Nat) (es:List (C×V))
 |iter (m:Option (Nat×Nat)) (left:List (C×V)) (cur:Option (C×V))
 |gl (b:Nat) (cells:List C)
 |sit (s:List UInt8) (q:Nat)
abbrev Heap:=Nat→Obj
def Heap.set (H:Heap)(l:Nat)(o:Obj):Heap:=fun x=>if x=l then o else H x
theorem Heap.aK (H:Heap)(l:Nat)(o:Obj):H.set l o l=o:=by simp[Heap.set]
theorem Heap.aj (H:Heap){l x:Nat}(o:Obj)(h:x≠l):H.set l o x=H x:=by simp[Heap.set,h]
theorem Heap.set_self (H:Heap)(l:Nat)(o:Obj)(h:H l=o):H.set l o=H:=by
 funext x;simp only[Heap.set];split
 ·subst_vars;rfl
 ·rfl
structure G where
 per:Nat→Bool
 own:Nat→Option (Nat×List Nat)
 io:Nat→Option (Nat×Nat×Nat)
def C.aN:C→Nat
 |.sl _ sz _=>sz
 |.aw _ sz _ _=>sz
 |_=>0
inductive RepC (w:World)(g:G):C→Value→Prop
 |int (k n):RepC w g (.int k n) (.int k n)
 |bool (b):RepC w g (.bool b) (.bool b)
 |str (s:List UInt8) (h:s.length≤LIM):RepC w g (.str s) (.string ⟨s.toArray⟩)
 |bn (fl sz a):RepC w g (.sl fl sz []) (.slice a 0 0)
 |sl (fl:Bool) (sz:Nat) (rows:List (List C)) (b off cap:Nat) (val:Nat→Nat→Value) (hl:rows.length≤LIM) (hf:fl=true→cap=rows.length) (cR:rows.length≤cap)
   (hp:g.per b=true) (hr:∀(i:Nat) (row:List C),rows[i]? = some row→row.length=sz)
   (hc:∀(i:Nat) (row:List C) (j:Nat) (c:C),rows[i]? = some row→row[j]? = some c→w.cell? ⟨b,off+i * sz+j,none⟩=some (val i j))
   (hv:∀(i:Nat) (row:List C) (j:Nat) (c:C),rows[i]? = some row→row[j]? = some c→RepC w g c (val i j)) :
   RepC w g (.sl fl sz rows) (.slice (some ⟨b,off,none⟩) rows.length cap)
 |pp (cells:List C) (b off:Nat) (val:Nat→Value) (hp:g.per b=true)
   (hc:∀(j:Nat) (c:C),cells[j]? = some c→w.cell? ⟨b,off+j,none⟩=some (val j))
   (hv:∀(j:Nat) (c:C),cells[j]? = some c→RepC w g c (val j)) :
   RepC w g (.pp cells) (.pointer (some ⟨b,off,none⟩))
 |ep (s sz i k b off n cap) (hs:RepC w g s (.slice (some ⟨b,off,none⟩) n cap)) (hz:s.aN=sz) (hi:i<n) :
   RepC w g (.ep s sz i k) (.pointer (some ⟨b,off+i * sz+k,none⟩))
 |pnil:RepC w g .pnil (.pointer none)
 |ptr (l k b sz base) (h:g.io l=some (b,sz,base)):RepC w g (.ptr l k) (.pointer (some ⟨b,base+k,none⟩))
 |bD (l sz st a):RepC w g (.aw l sz st 0) (.slice a 0 0)
 |aw (l sz st n cap b base T m) (h:g.io l=some (b,sz,base)) (hn:n≤cap) (hs:w.shape? b=some (T,m))
   (hm:base+(st+cap) * sz≤m) :
   RepC w g (.aw l sz st n) (.slice (some ⟨b,base+st * sz,none⟩) n cap)
 |mp (l b) (h:g.io l=some (b,0,0)):RepC w g (.mp l) (.map (some b))
 |mnil:RepC w g .mnil (.map none)
 |slb (n a cap) (h:n<2 ^ 63):RepC w g (.slb n) (.slice a n cap)
 |stb (s:ByteArray) (h:s.size<2 ^ 63):RepC w g (.stb s.size) (.string s)
 |cm (agg:Bool) (ks:List C) (rows:List (List C)) (b:Nat) (ms:Array MapEntry) (clock:Nat) (val:Nat→Nat→Value) (hp:g.per b=true) (hb:w.heap[b]? = some (.map ms clock))
   (aO:ms.size=ks.length) (co:rows.length=ks.length) (hl:ks.length≤LIM)
   (hd:∀(i j:Nat) (m m':MapEntry),ms[i]? = some m→ms[j]? = some m'→(m.born=m'.born∨m.key=m'.key)→i=j)
   (hm:∀(i:Nat) (row:List C) (m:MapEntry),rows[i]? = some row→ms[i]? = some m→m.val=(if agg then .agg ((List.range row.length).map (val i)).toArray else val i 0)∧(agg=false→row.length=1))
   (hk:∀(i:Nat) (k:C) (m:MapEntry),ks[i]? = some k→ms[i]? = some m→RepC w g k m.key)
   (hv:∀(i:Nat) (row:List C) (j:Nat) (c:C),rows[i]? = some row→row[j]? = some c→RepC w g c (val i j)) :
   RepC w g (.cm agg ks rows) (.map (some b))
 |fn (f:Nat) (caps:List C) (vs:List Value) (hl:vs.length=caps.length)
   (hv:∀(j:Nat) (c:C) (u:Value),caps[j]? = some c→vs[j]? = some u→RepC w g c u) :
   RepC w g (.fn f caps) (.func (.func f) #[] vs.toArray)
 |fnil:RepC w g .fnil .nilFunc
 |itr (l b) (h:g.io l=some (b,0,0)):RepC w g (.itr l) (.pointer (some ⟨b,0,none⟩))
 |unk (v) (h:v.oneCell'=true):RepC w g .unk v
inductive RepV (w:World)(g:G):V→Value→Prop
 |c (x v) (h:RepC w g x v):RepV w g (.c x) v
 |ag (cs:List C) (vs:List Value) (hl:vs.length=cs.length) (h:∀(j:Nat) (c:C) (u:Value),cs[j]? = some c→vs[j]? = some u→RepC w g c u) :
   RepV w g (.ag cs) (.agg vs.toArray)
 |tup (xs:List V) (vs:List Value) (hl:vs.length=xs.length) (h:∀(j:Nat) (x:V) (u:Value),xs[j]? = some x→vs[j]? = some u→RepV w g x u) :
   RepV w g (.tup xs) (.tuple vs.toArray)
 |gd (p:Bool) (x v) (h:p=true→RepV w g x v) (h':p=false→v=undef):RepV w g (.gd p x) v
 |unk (v):RepV w g .unk v
 |asl (l k n b sz) (h:g.io l=some (b,sz,0)):RepV w g (.asl l k n) (.slice (some ⟨b,k,none⟩) n n)
inductive RepO (w:World)(g:G):Nat→List Nat→C→Value→Prop
 |plain (l p c v) (h:RepC w g c v):RepO w g l p c v
 |ownil (l p sz a):RepO w g l p (.ow sz []) (.slice a 0 0)
 |ow (l:Nat) (p:List Nat) (sz:Nat) (rows:List (List C)) (b off cap:Nat) (T:TypeId) (cs:Array Value) (val:Nat→Nat→Value) (hl:rows.length≤LIM) (cR:rows.length≤cap)
   (kU:g.own b=some (l,p)) (hb:w.heap[b]? = some (.cells cs T (0,0))) (aO:off+cap * sz≤cs.size)
   (hr:∀(i:Nat) (row:List C),rows[i]? = some row→row.length=sz)
   (hc:∀(i:Nat) (row:List C) (j:Nat) (c:C),rows[i]? = some row→row[j]? = some c→cs[off+i * sz+j]? = some (val i j))
   (hv:∀(i:Nat) (row:List C) (j:Nat) (c:C),rows[i]? = some row→row[j]? = some c→RepO w g l (p++[i,j]) c (val i j)) :
   RepO w g l p (.ow sz rows) (.slice (some ⟨b,off,none⟩) rows.length cap)
structure Le (g:G)(w:World)(g':G)(w':World):Prop where
 per:∀b,g.per b=true→g'.per b=true∧w'.heap[b]? = w.heap[b]?
 io:∀l x,g.io l=some x→g'.io l=some x
 size:w.heap.size≤w'.heap.size
 shp:∀b T n,w.shape? b=some (T,n)→w'.shape? b=some (T,n)
 tape:w'.tape=w.tape
 os:w'.os=w.os
 output:w'.output=w.output
theorem Le.refl (g:G)(w:World):Le g w g w:=⟨fun _ h=>⟨h,rfl⟩,fun _ _ h=>h,Jz _,fun _ _ _ h=>h,rfl,rfl,rfl⟩
theorem Le.trans {g g' g'':G}{w w' w'':World}(h:Le g w g' w')(k:Le g' w' g'' w''):Le g w g'' w'':=
 ⟨fun b hb=>⟨(k.per b (h.per b hb).1).1,((k.per b (h.per b hb).1).2).trans (h.per b hb).2⟩,fun l x hx=>k.io l x (h.io l x hx),
  Nat.le_trans h.size k.size,fun b T n hn=>k.shp b T n (h.shp b T n hn),k.tape.trans h.tape,k.os.trans h.os,k.output.trans h.output⟩
theorem SJ {w w':World}{a:Addr}(h:w'.heap[a.block]? = w.heap[a.block]?):w'.cell? a=w.cell? a:=by
 simp only[World.cell?,h]
theorem RepC.mono {g g':G}{w w':World}(aE:Le g w g' w'){c:C}{v:Value}(h:RepC w g c v):RepC w' g' c v:=by
 induction h with
 |int k n=>exact .int k n
 |bool b=>exact .bool b
 |str s h=>exact .str s h
 |bn fl sz a=>exact .bn fl sz a
 |sl fl sz rows b off cap val hl hf cR hp hr hc hv ih=>
  refine .sl fl sz rows b off cap val hl hf cR (aE.per b hp).1 hr (fun i row j c h1 h2=>?_) ih;rw[SJ (w:=w) (aE.per b hp).2];exact hc i row j c h1 h2
 |pp cells b off val hp hc hv ih=>
  refine .pp cells b off val (aE.per b hp).1 (fun j c h1=>?_) ih;rw[SJ (w:=w) (aE.per b hp).2];exact hc j c h1
 |ep s sz i k b off n cap hs hz hi ih=>exact .ep s sz i k b off n cap ih hz hi
 |pnil=>exact .pnil
 |ptr l k b sz base h=>exact .ptr l k b sz base (aE.io _ _ h)
 |bD l sz st a=>exact .bD l sz st a
 |aw l sz st n cap b base T m h hn hs hm=>exact .aw l sz st n cap b base T m (aE.io _ _ h) hn (aE.shp _ _ _ hs) hm
 |mp l b h=>exact .mp l b (aE.io _ _ h)
 |mnil=>exact .mnil
 |slb n a cap h=>exact .slb n a cap h
 |stb s h=>exact .stb s h
 |cm agg ks rows b ms clock val hp hb aO co hl hd hm hk hv ihk ihv=>exact .cm agg ks rows b ms clock val (aE.per b hp).1 ((aE.per b hp).2.trans hb) aO co hl hd hm ihk ihv
 |fn f caps vs hl hv ih=>exact .fn f caps vs hl ih
 |fnil=>exact .fnil
 |itr l b h=>exact .itr l b (aE.io _ _ h)
 |unk v h=>exact .unk v h
theorem RepV.mono {g g':G}{w w':World}(aE:Le g w g' w'){x:V}{v:Value}(h:RepV w g x v):RepV w' g' x v:=by
 induction h with
 |c x v h=>exact .c x v (h.mono aE)
 |ag cs vs hl h=>exact .ag cs vs hl fun j c u h1 h2=>(h j c u h1 h2).mono aE
 |tup xs vs hl h ih=>exact .tup xs vs hl ih
 |gd p x v h h' ih=>exact .gd p x v ih h'
 |asl l k n b sz h=>exact .asl l k n b sz (aE.io _ _ h)
 |unk v=>exact .unk v
theorem RepC.one {w:World}{g:G}{c:C}{v:Value}(h:RepC w g c v):v.oneCell'=true:=by
 cases h <;> first|rfl|assumption
theorem RepO.move {g g':G}{w w':World}(aE:Le g w g' w'){l:Nat}{p:List Nat}{c:C}{v:Value}(h:RepO w g l p c v) :
  ∀{l':Nat} {p':List Nat},(∀q b,g.own b=some (l,p++q)→g'.own b=some (l',p'++q)∧w'.heap[b]? = w.heap[b]?)→
  RepO w' g' l' p' c v:=by
 induction h with
 |plain p c v h=>exact fun _=>.plain _ _ c v (h.mono aE)
 |ownil p sz a=>exact fun _=>.ownil _ _ sz a
 |ow p sz rows b off cap T cs val hl cR kU hb aO hr hc hv ih=>
  intro l' p' hk;have h0:=hk [] b (by simpa using kU);refine .ow l' p' sz rows b off cap T cs val hl cR (by simpa using h0.1) (h0.2.trans hb) aO hr hc fun i row j c h1 h2=>?_;refine ih i row j c h1 h2 fun q b hq=>?_;have:=hk ([i,j]++q) b (by rw[←J3];exact hq);rw[J3];exact this
theorem RepO.plain_of {w:World}{g:G}{l:Nat}{p:List Nat}{c:C}{v:Value}(h:RepO w g l p c v)(hn:∀sz rows,c≠.ow sz rows):RepC w g c v:=by
 cases h with
 |plain _ _ _ h=>exact h
 |ownil=>exact absurd rfl (hn _ _)
 |ow=>exact absurd rfl (hn _ _)
def RepE (w:World)(g:G)(e:C×V)(m:MapEntry):Prop:=RepC w g e.1 m.key∧RepV w g e.2 m.val
def SatVec (g:G)(w:World)(l sz:Nat)(rows:List (List C)):Prop:=
 ∃(b base:Nat) (T:TypeId) (cs:Array Value) (val:Nat→Nat→Value),g.io l=some (b,sz,base)∧g.own b=some (l,[])∧
   w.heap[b]? = some (.cells cs T (0,0))∧base+rows.length * sz≤cs.size∧rows.length≤LIM∧
   (∀(i:Nat) (row:List C),rows[i]? = some row→row.length=sz)∧
   (∀(i:Nat) (row:List C) (j:Nat) (c:C),rows[i]? = some row→row[j]? = some c→cs[base+i * sz+j]? = some (val i j))∧
   ∀(i:Nat) (row:List C) (j:Nat) (c:C),rows[i]? = some row→row[j]? = some c→RepO w g l [i,j] c (val i j)
theorem SatVec.of {g:G}{w:World}{l sz:Nat}{rows:List (List C)}{b base:Nat}(h:(rows=[]∧∃x,g.io l=some x∧x.2.1≠sz)∨SatVec g w l sz rows)(bI:g.io l=some (b,sz,base)):SatVec g w l sz rows:=by
 rcases h with ⟨_,x,h1,h2⟩|h
 ·rw[bI]at h1;simp at h1;subst h1;exact absurd rfl h2
 ·exact h
def SatObj (H:Heap)(g:G)(w:World)(l:Nat):Obj→Prop
 |.none=>True
 |.st cells=>∃(b sz:Nat) (T:TypeId) (cs:Array Value),g.io l=some (b,sz,0)∧g.own b=some (l,[])∧w.heap[b]? = some (.cells cs T (0,0))∧
   cs.size=cells.length∧∀(k:Nat) (c:C) (v:Value),cells[k]? = some c→cs[k]? = some v→RepO w g l [k] c v
 |.vec sz rows=>(rows=[]∧∃x,g.io l=some x∧x.2.1≠sz)∨SatVec g w l sz rows
 |.map _ es=>∃(b:Nat) (ms:Array MapEntry) (clock:Nat),g.io l=some (b,0,0)∧g.own b=some (l,[])∧w.heap[b]? = some (.map ms clock)∧
   ms.size=es.length∧es.length≤LIM∧(∀(i:Nat) (e:C×V) (m:MapEntry),es[i]? = some e→ms[i]? = some m→RepE w g e m)∧
   (∀(i:Nat) (m:MapEntry),ms[i]? = some m→m.born<clock)∧(∀(i j:Nat) (m m':MapEntry),ms[i]? = some m→ms[j]? = some m'→(m.born=m'.born∨m.key=m'.key)→i=j)
 |.iter none left cur=>∃(b since:Nat) (seen:Array Nat) (last:Nat),g.io l=some (b,0,0)∧g.own b=some (l,[])∧
   w.heap[b]? = some (.mapIter none since seen last)∧left=[]
 |.iter (some (m,ver)) left cur=>∃(b mb since:Nat) (seen:Array Nat),g.io l=some (b,0,0)∧g.own b=some (l,[])∧
   w.heap[b]? = some (.mapIter (some mb) since seen since)∧g.io m=some (mb,0,0)∧
   ∀v es,H m=.map v es→ver≤v∧(v=ver→∃(ms:Array MapEntry),w.heap[mb]? = some (.map ms since)∧ms.size=es.length∧
    es.Nodup∧left.Nodup∧(∀e,e∈left↔∃i:Nat,∃m:MapEntry,es[i]? = some e∧ms[i]? = some m∧m.born∉seen)∧
    (∀e,cur=some e→∃i:Nat,∃m:MapEntry,es[i]? = some e∧ms[i]? = some m∧seen.back? = some m.born))
 |.sit s q=>∃b:Nat,g.io l=some (b,0,0)∧g.own b=some (l,[])∧w.heap[b]? = some (.stringIter ⟨s.toArray⟩ q)∧s.length≤LIM
 |.gl b cells=>∃(sz:Nat) (val:Nat→Value),g.io l=some (b,sz,0)∧g.per b=true∧(∀(j:Nat) (c:C),cells[j]? = some c→w.cell? ⟨b,j,none⟩=some (val j))∧
   ∀(j:Nat) (c:C),cells[j]? = some c→RepC w g c (val j)
structure Sat (H:Heap)(g:G)(w:World):Prop where
 fresh:∀b,w.heap.size≤b→g.per b=false∧g.own b=none
 names:∃N,∀l,N≤l→g.io l=none
 excl:∀b x,g.own b=some x→g.per b=false
 named:∀b l p,g.own b=some (l,p)→g.io l≠none
 objs:∀l,SatObj H g w l (H l)
def Fr (H:Heap)(g:G)(w:World)(H':Heap)(g':G)(w':World):Prop:=
 ∀l,g.io l≠none→H l=.none→H' l=.none∧∀b p,g.own b=some (l,p)→g'.own b=some (l,p)∧w'.heap[b]? = w.heap[b]?
theorem Fr.refl (H:Heap)(g:G)(w:World):Fr H g w H g w:=fun _ _ h=>⟨h,fun _ _ h=>⟨h,rfl⟩⟩
theorem Fr.trans {H H' H'':Heap}{g g' g'':G}{w w' w'':World}(aE:Le g w g' w')(h:Fr H g w H' g' w')(k:Fr H' g' w' H'' g'' w''):Fr H g w H'' g'' w'':=by
 intro l hl hn;obtain⟨h1,h2⟩:=h l hl hn;have dd:g'.io l≠none:=by
  cases hx:g.io l with
  |none=>exact absurd hx hl
  |some x=>rw[aE.io l x hx];simp
 obtain⟨k1,k2⟩:=k l dd h1;refine⟨k1,fun b p hb=>?_⟩;obtain⟨a1,a2⟩:=h2 b p hb;obtain⟨b1,b2⟩:=k2 b p a1;exact⟨b1,b2.trans a2⟩
structure Stp (H:Heap)(g:G)(w:World)(H':Heap)(g':G)(w':World):Prop where
 le:Le g w g' w'
 fr:Fr H g w H' g' w'
 sat:Sat H' g' w'
theorem Stp.refl {H:Heap}{g:G}{w:World}(h:Sat H g w):Stp H g w H g w:=⟨.refl _ _,.refl _ _ _,h⟩
theorem Stp.trans {H H' H'':Heap}{g g' g'':G}{w w' w'':World}(h:Stp H g w H' g' w')(k:Stp H' g' w' H'' g'' w''):Stp H g w H'' g'' w'':=
 ⟨h.le.trans k.le,h.fr.trans h.le k.fr,k.sat⟩
theorem Sat.io_some {H:Heap}{g:G}{w:World}(h:Sat H g w){l:Nat}(hl:H l≠.none):g.io l≠none:=by
 have:=h.objs l
 cases ho:H l with
 |none=>exact absurd ho hl
 |st cells=>rw[ho]at this;obtain⟨b,sz,T,cs,h1,_⟩:=this;rw[h1];simp
 |vec sz rows=>
  rw[ho]at this;rcases this with ⟨_,x,h1,_⟩|⟨b,sz,T,cs,v,h1,_⟩
  ·rw[h1];simp
  ·rw[h1];simp
 |map v es=>rw[ho]at this;obtain⟨b,ms,clock,h1,_⟩:=this;rw[h1];simp
 |gl b cells=>rw[ho]at this;obtain⟨sz,val,h1,_⟩:=this;rw[h1];simp
 |sit s q=>rw[ho]at this;obtain⟨b,h1,_⟩:=this;rw[h1];simp
 |iter m left cur=>
  rw[ho]at this
  cases m with
  |none=>obtain⟨b,s,se,la,h1,_⟩:=this;rw[h1];simp
  |some m=>obtain⟨m,v⟩:=m;obtain⟨b,mb,s,se,h1,_⟩:=this;rw[h1];simp
theorem Sat.none_of_io {H:Heap}{g:G}{w:World}(h:Sat H g w){l:Nat}(hl:g.io l=none):H l=.none:=by
 cases ho:H l with
 |none=>rfl
 |_=>exact absurd hl (h.io_some (by rw[ho];simp))
abbrev Env:=List (Nat×V)
def lk (t:Nat):Env→V
 |[]=>.unk
 |(s,v)::e=>if t=s then v else lk t e
inductive Opd where
 |t (n:Nat)
 |k (v:V)
 deriving Inhabited
def V.bare:V→V
 |.gd _ v=>v
 |v=>v
def V.fine (p:Bool):V→Prop
 |.gd q _=>p=true→q=true
 |_=>True
def Opd.raw (e:Env):Opd→V
 |.t n=>lk n e
 |.k v=>v
def Opd.v (e:Env)(o:Opd):V:=(o.raw e).bare
def Opd.fine (p:Bool)(e:Env)(o:Opd):Prop:=(o.raw e).fine p
def C.ah:C→Bool
 |.ow _ _=>true
 |_=>false
def rowsOf (H:Heap):C→List (List C)
 |.sl _ _ rows=>rows
 |.aw l _ st n=>match H l with
  |.vec _ rows=>(rows.drop st).take n
  |_=>[]
 |_=>[]
def aT (H:Heap):C→Prop
 |.sl _ _ _=>True
 |.aw l sz st n=>match H l with
  |.vec z rows=>z=sz∧st+n≤rows.length
  |_=>False
 |_=>False
def a9:C→Nat
 |.sl _ _ rows=>rows.length
 |.aw _ _ _ n=>n
 |_=>0
def lenX:C→Nat
 |.slb n=>n
 |c=>a9 c
def Ij:C→Prop
 |.slb _=>True
 |_=>False
def inR (k:IntKind)(n:Int):Prop:=k.min≤n∧n≤k.max
def C4 (op:BinOp)(k:IntKind)(a b:Int):Int:=
 match op with
 |.and=>k.wrap (BitVec.ofInt k.bits a&&& BitVec.ofInt k.bits b).toNat
 |.or=>k.wrap (BitVec.ofInt k.bits a ||| BitVec.ofInt k.bits b).toNat
 |_=>k.wrap (BitVec.ofInt k.bits a ^^^ BitVec.ofInt k.bits b).toNat
def C.isPtr:C→Bool
 |.pp _|.ep _ _ _ _|.ptr _ _=>true
 |_=>false
def binC:BinOp→C→C→C
 |.add,.int k a,.int _ b=>.int k (a+b)
 |.sub,.int k a,.int _ b=>.int k (a-b)
 |.mul,.int k a,.int _ b=>.int k (a * b)
 |.quo,.int k a,.int _ b=>.int k (a.tdiv b)
 |.rem,.int k a,.int _ b=>.int k (a.tmod b)
 |.and,.int k a,.int _ b=>.int k (C4 .and k a b)
 |.or,.int k a,.int _ b=>.int k (C4 .or k a b)
 |.xor,.int k a,.int _ b=>.int k (C4 .xor k a b)
 |.eql,.int _ a,.int _ b=>.bool (decide (a=b))
 |.neq,.int _ a,.int _ b=>.bool (!decide (a=b))
 |.lss,.int _ a,.int _ b=>.bool (decide (a<b))
 |.leq,.int _ a,.int _ b=>.bool (decide (a≤b))
 |.gtr,.int _ a,.int _ b=>.bool (decide (b<a))
 |.geq,.int _ a,.int _ b=>.bool (decide (b≤a))
 |.eql,.bool a,.bool b=>.bool (a == b)
 |.neq,.bool a,.bool b=>.bool (!(a == b))
 |.add,.str a,.str b=>.str (a++b)
 |.eql,.str a,.str b=>.bool (decide (a=b))
 |.neq,.str a,.str b=>.bool (!decide (a=b))
 |.eql,x,.pnil=>.bool (!x.isPtr)
 |.neq,x,.pnil=>.bool x.isPtr
 |_,_,_=>.unk
def binO (tag:Nat):BinOp→C→C→Prop
 |.add,.int k a,.int k' b=>k=k'∧inR k (a+b)
 |.sub,.int k a,.int k' b=>k=k'∧inR k (a-b)
 |.mul,.int k a,.int k' b=>k=k'∧inR k (a * b)
 |.quo,.int k a,.int k' b=>k=k'∧b≠0∧inR k (a.tdiv b)
 |.rem,.int k a,.int k' b=>k=k'∧b≠0
 |.and,.int k _,.int k' _=>k=k'
 |.or,.int k _,.int k' _=>k=k'
 |.xor,.int k _,.int k' _=>k=k'
 |.eql,.int k _,.int k' _=>k=k'
 |.neq,.int k _,.int k' _=>k=k'
 |.lss,.int k _,.int k' _=>k=k'
 |.leq,.int k _,.int k' _=>k=k'
 |.gtr,.int k _,.int k' _=>k=k'
 |.geq,.int k _,.int k' _=>k=k'
 |.eql,.bool _,.bool _=>tag=1
 |.neq,.bool _,.bool _=>tag=1
 |.add,.str a,.str b=>a.length+b.length≤LIM
 |.eql,.str _,.str _=>True
 |.neq,.str _,.str _=>True
 |.eql,x,.pnil=>tag=2∧(x.isPtr=true∨x=.pnil)
 |.neq,x,.pnil=>tag=2∧(x.isPtr=true∨x=.pnil)
 |_,_,_=>False
def Cg (H:Heap):C→List C
 |.pp cells=>cells
 |.ptr l k=>match H l with
  |.st cells=>cells.drop k
  |_=>[]
 |.ep s _ i k=>((rowsOf H s).getD i []).drop k
 |_=>[]
def Cw (H:Heap):C→Prop
 |.pp _=>True
 |.ptr l _=>match H l with
  |.st _=>True
  |_=>False
 |.ep s sz i _=>aT H s∧i<a9 s∧s.aN=sz
 |_=>False
def ai (cs:List C):Bool:=cs.all fun c=>!c.ah
def D4 (c:Bool):V→V→V
 |.c (.bool a),.c (.bool b)=>.c (.bool (bif c then a else b))
 |x,y=>if c then x else y
def V.cells:V→List C
 |.c x=>[x]
 |.ag cs=>cs
 |_=>[]
def AM:C→C→Bool
 |.int _ a,.int _ b=>decide (a=b)
 |.str a,.str b=>decide (a=b)
 |.bool a,.bool b=>a == b
 |_,_=>false
def AL (tag:Nat)(k:C)(es:List (C×V)):Prop:=
 match tag,k with
 |0,.int .i64 _=>∀e∈es,∃n,e.1=.int .i64 n
 |1,.str _=>∀e∈es,∃s,e.1=.str s
 |2,.bool _=>∀e∈es,∃b,e.1=.bool b
 |_,_=>False
def A3 (k:C):List (C×V)→Option V
 |[]=>none
 |e::es=>if AM k e.1 then some e.2 else A3 k es
def Cd (agg:Bool)(cs:List C):V:=if agg then .ag cs else .c (cs.headD .unk)
def A4 (H:Heap):C→List (C×V)
 |.mp l=>match H l with
  |.map _ es=>es
  |_=>[]
 |.cm agg ks rows=>(ks.zip rows).map fun e=>(e.1,Cd agg e.2)
 |_=>[]
def Bp (H:Heap):C→Prop
 |.mp l=>match H l with
  |.map _ _=>True
  |_=>False
 |.mnil=>True
 |.cm _ _ _=>True
 |_=>False
def RE (cells:List C):List (Nat×List C)→List C
 |[]=>cells
 |(o,p)::r=>RE (cells.take o++p++cells.drop (o+p.length)) r
inductive FOp where
 |mv (x:Opd)
 |pick (c a b:Opd)
 |bin (tag:Nat) (op:BinOp) (a b:Opd)
 |not (a:Opd)
 |fad (off:Nat) (a:Opd)
 |iad (sz:Nat) (a i:Opd)
 |ld (n:Nat) (agg:Bool) (a:Opd)
 |nck (a:Opd)
 |len (a:Opd)
 |lenx (a:Opd)
 |lens (a:Opd)
 |lensx (a:Opd)
 |lenm (a:Opd)
 |sli (sz:Nat) (a:Opd) (lo hi:Option Opd)
 |slis (a:Opd) (lo hi:Option Opd)
 |ext (a:Opd) (i:Nat)
 |fld (off n:Nat) (agg:Bool) (a:Opd)
 |idx (a i:Opd)
 |bld (zero:List C) (parts:List (Nat×Nat×Opd))
 |fH (sz:Nat) (parts:List Opd)
 |box (a:Opd)
 |cvt (k:IntKind) (a:Opd)
 |mkf (f:Nat) (caps:List Opd)
 |lup (tag:Nat) (zero:V) (m k:Opd)
 |lup2 (tag:Nat) (zero:V) (m k:Opd)
 |iaa (sz n:Nat) (a i:Opd)
 |asl (n:Nat) (a:Opd)
 |aslp (n:Nat) (a:Opd) (hi:Option Opd)
 |slm (sz:Nat) (a hi:Opd)
 |b2s (a:Opd)
 |ldg (n b l:Nat)
 |ldo (b l:Nat)
 |aslg (n b l:Nat)
 |iax (sz n:Nat) (a i:Opd)
 |mx (a b:Opd)
 |mn (a b:Opd)
def Q8:V→Int
 |.c (.int _ n)=>n
 |_=>0
def Bz:V→Prop
 |.c (.int k _)=>k=.i64
 |_=>False
def fadC (off:Nat):C→C
 |.pp cells=>.pp (cells.drop off)
 |.ptr l k=>.ptr l (k+off)
 |.ep s sz i k=>.ep s sz i (k+off)
 |_=>.unk
def V.c1:V→C
 |.c x=>x
 |_=>.unk
def V.isC:V→Prop
 |.c _=>True
 |_=>False
def V.isAg:V→Prop
 |.ag _=>True
 |_=>False
def sliC (lo hi:Option Int):C→C
 |.sl fl sz rows=>.sl (fl&&(hi.isNone || rows.isEmpty)) sz ((rows.take (hi.getD rows.length).toNat).drop (lo.getD 0).toNat)
 |.aw l sz st n=>.aw l sz (st+(lo.getD 0).toNat) ((hi.getD n).toNat-(lo.getD 0).toNat)
 |_=>.unk
def DA:List C→Bool
 |[.int .u8 _]=>true
 |_=>false
def CN:List C→UInt8
 |.int _ n::_=>UInt8.ofNat n.toNat
 |_=>0
def FOp.val (e:Env)(H:Heap):FOp→V
 |.mv x=>x.v e
 |.pick c a b=>match c.v e with
  |.c (.bool t)=>D4 t (a.v e) (b.v e)
  |_=>.unk
 |.bin _ op a b=>.c (binC op (a.v e).c1 (b.v e).c1)
 |.not a=>match a.v e with
  |.c (.bool t)=>.c (.bool (!t))
  |_=>.unk
 |.fad off a=>.c (fadC off (a.v e).c1)
 |.iad sz a i=>.c (.ep (a.v e).c1 sz (Q8 (i.v e)).toNat 0)
 |.ld n agg a=>Cd agg ((Cg H (a.v e).c1).take n)
 |.nck a=>a.v e
 |.len a=>.c (.int .i64 (a9 (a.v e).c1))
 |.lenx a=>.c (.int .i64 (lenX (a.v e).c1))
 |.lens a=>match a.v e with
  |.c (.str s)=>.c (.int .i64 s.length)
  |_=>.unk
 |.lensx a=>match a.v e with
  |.c (.str s)=>.c (.int .i64 s.length)
  |.c (.stb n)=>.c (.int .i64 n)
  |_=>.unk
 |.lenm a=>.c (.int .i64 (A4 H (a.v e).c1).length)
 |.sli _ a lo hi=>.c (sliC (lo.map fun x=>Q8 (x.v e)) (hi.map fun x=>Q8 (x.v e)) (a.v e).c1)
 |.slis a lo hi=>match a.v e with
  |.c (.str s)=>.c (.str ((s.take ((hi.map fun x=>Q8 (x.v e)).getD s.length).toNat).drop ((lo.map fun x=>Q8 (x.v e)).getD 0).toNat))
  |_=>.unk
 |.ext a i=>match a.v e with
  |.tup vs=>vs.getD i .unk
  |_=>.unk
 |.fld off n agg a=>Cd agg (((a.v e).cells.drop off).take n)
 |.idx a i=>match a.v e with
  |.c (.str s)=>.c (.int .u8 ((s.getD (Q8 (i.v e)).toNat 0).toNat))
  |_=>.unk
 |.bld zero parts=>.ag (RE zero (parts.map fun p=>(p.1,(p.2.2.v e).cells)))
 |.fH sz parts=>.c (.sl true sz (parts.map fun x=>(x.v e).cells))
 |.box a=>.c (.pp (a.v e).cells)
 |.cvt k a=>.c (.int k (Q8 (a.v e)))
 |.mkf f caps=>.c (.fn f (caps.map fun x=>(x.v e).c1))
 |.lup _ zero m k=>(A3 (k.v e).c1 (A4 H (m.v e).c1)).getD zero
 |.lup2 _ zero m k=>.tup [(A3 (k.v e).c1 (A4 H (m.v e).c1)).getD zero,.c (.bool (A3 (k.v e).c1 (A4 H (m.v e).c1)).isSome)]
 |.iaa sz _ a i=>match a.v e with
  |.c (.ptr l k)=>.c (.ptr l (k+(Q8 (i.v e)).toNat * sz))
  |_=>.unk
 |.asl n a=>match a.v e with
  |.c (.ptr l k)=>.asl l k n
  |_=>.unk
 |.aslp n a hi=>match a.v e with
  |.c (.pp cells)=>.c (.sl hi.isNone 1 ((cells.take ((hi.map fun x=>Q8 (x.v e)).getD n).toNat).map fun c=>[c]))
  |_=>.unk
 |.slm _ a hi=>match a.v e with
  |.c (.sl _ sz rows)=>.c (.sl true sz (rows.take (Q8 (hi.v e)).toNat))
  |_=>.unk
 |.b2s a=>match a.v e with
  |.c (.sl _ _ rows)=>.c (.str (rows.map CN))
  |_=>.unk
 |.ldg n _ l=>match H l with
  |.gl _ cells=>.ag (cells.take n)
  |_=>.unk
 |.ldo _ l=>match H l with
  |.gl _ cells=>.c (cells.headD .unk)
  |_=>.unk
 |.aslg n _ l=>match H l with
  |.gl _ cells=>.c (.sl true 1 ((cells.take n).map fun c=>[c]))
  |_=>.unk
 |.iax sz _ a i=>.ag (((a.v e).cells.drop ((Q8 (i.v e)).toNat * sz)).take sz)
 |.mx a b=>.c (.int .i64 (if Q8 (b.v e) > Q8 (a.v e)then Q8 (b.v e)else Q8 (a.v e)))
 |.mn a b=>.c (.int .i64 (if Q8 (b.v e)<Q8 (a.v e)then Q8 (b.v e)else Q8 (a.v e)))
def D6:V→Prop
 |.c (.int _ _)=>True
 |_=>False
def optI (x:Option Opd)(e:Env):Prop:=
 match x with
 |none=>True
 |some o=>Bz (o.v e)
def optF (p:Bool)(x:Option Opd)(e:Env):Prop:=
 match x with
 |none=>True
 |some o=>o.fine p e
def bnds (lo hi:Option Int)(n:Nat):Prop:=
 0≤lo.getD 0∧lo.getD 0≤hi.getD n∧hi.getD n≤n
def FOp.obl (p:Bool)(e:Env)(H:Heap):FOp→Prop
 |.mv x=>x.fine p e
 |.pick c a b=>c.fine p e∧match c.v e with
  |.c (.bool t)=>a.fine (p&&t) e∧b.fine (p&&!t) e
  |_=>False
 |.bin tag op a b=>a.fine p e∧b.fine p e∧(a.v e).isC∧(b.v e).isC∧binO tag op (a.v e).c1 (b.v e).c1
 |.not a=>a.fine p e∧match a.v e with
  |.c (.bool _)=>True
  |_=>False
 |.fad _ a=>a.fine p e∧match a.v e with
  |.c (.pp _)=>True
  |.c (.ptr _ _)=>True
  |.c (.ep _ _ _ _)=>True
  |_=>False
 |.iad sz a i=>a.fine p e∧i.fine p e∧(a.v e).isC∧aT H (a.v e).c1∧(a.v e).c1.aN=sz∧Bz (i.v e)∧
   0≤Q8 (i.v e)∧(Q8 (i.v e)).toNat<a9 (a.v e).c1
 |.ld n _ a=>a.fine p e∧(a.v e).isC∧Cw H (a.v e).c1∧n≤(Cg H (a.v e).c1).length∧ai ((Cg H (a.v e).c1).take n)=true
 |.nck a=>a.fine p e∧match a.v e with
  |.c (.pp _)=>True
  |.c (.ptr _ _)=>True
  |.c (.ep _ _ _ _)=>True
  |.c (.fn _ _)=>True
  |_=>False
 |.len a=>a.fine p e∧(a.v e).isC∧aT H (a.v e).c1
 |.lenx a=>a.fine p e∧(a.v e).isC∧(aT H (a.v e).c1∨Ij (a.v e).c1)
 |.lens a=>a.fine p e∧match a.v e with
  |.c (.str _)=>True
  |_=>False
 |.lensx a=>a.fine p e∧match a.v e with
  |.c (.str _)=>True
  |.c (.stb _)=>True
  |_=>False
 |.lenm a=>a.fine p e∧(a.v e).isC∧Bp H (a.v e).c1
 |.sli sz a lo hi=>a.fine p e∧optF p lo e∧optF p hi e∧optI lo e∧optI hi e∧(a.v e).isC∧aT H (a.v e).c1∧(a.v e).c1.aN=sz∧
   bnds (lo.map fun x=>Q8 (x.v e)) (hi.map fun x=>Q8 (x.v e)) (a9 (a.v e).c1)
 |.slis a lo hi=>a.fine p e∧optF p lo e∧optF p hi e∧optI lo e∧optI hi e∧match a.v e with
  |.c (.str s)=>bnds (lo.map fun x=>Q8 (x.v e)) (hi.map fun x=>Q8 (x.v e)) s.length
  |_=>False
 |.ext a i=>a.fine p e∧match a.v e with
  |.tup vs=>i<vs.length
  |_=>False
 |.fld off n agg a=>a.fine p e∧(a.v e).isAg∧off+n≤(a.v e).cells.length
 |.idx a i=>a.fine p e∧i.fine p e∧Bz (i.v e)∧match a.v e with
  |.c (.str s)=>0≤Q8 (i.v e)∧(Q8 (i.v e)).toNat<s.length
  |_=>False
 |.bld zero parts=>∀x∈parts,x.2.2.fine p e∧(x.2.2.v e).cells.length=x.2.1
 |.fH sz parts=>∀x∈parts,x.fine p e∧(x.v e).cells.length=sz
 |.box a=>a.fine p e∧(a.v e).cells≠[]
 |.cvt k a=>a.fine p e∧D6 (a.v e)∧inR k (Q8 (a.v e))
 |.mkf f caps=>∀x∈caps,x.fine p e∧(x.v e).isC
 |.lup tag zero m k=>m.fine p e∧k.fine p e∧(m.v e).isC∧(k.v e).isC∧Bp H (m.v e).c1∧AL tag (k.v e).c1 (A4 H (m.v e).c1)
 |.lup2 tag zero m k=>m.fine p e∧k.fine p e∧(m.v e).isC∧(k.v e).isC∧Bp H (m.v e).c1∧AL tag (k.v e).c1 (A4 H (m.v e).c1)
 |.iaa _ n a i=>a.fine p e∧i.fine p e∧Bz (i.v e)∧0≤Q8 (i.v e)∧Q8 (i.v e)<n∧match a.v e with
  |.c (.ptr _ _)=>True
  |_=>False
 |.asl _ a=>a.fine p e∧match a.v e with
  |.c (.ptr l _)=>(match H l with
   |.st _=>True
   |_=>False)
  |_=>False
 |.aslp n a hi=>a.fine p e∧optF p hi e∧optI hi e∧bnds none (hi.map fun x=>Q8 (x.v e)) n∧n≤LIM∧match a.v e with
  |.c (.pp cells)=>n≤cells.length
  |_=>False
 |.slm sz a hi=>a.fine p e∧hi.fine p e∧Bz (hi.v e)∧0≤Q8 (hi.v e)∧match a.v e with
  |.c (.sl _ z rows)=>z=sz∧Q8 (hi.v e)≤rows.length
  |_=>False
 |.b2s a=>a.fine p e∧match a.v e with
  |.c (.sl _ z rows)=>z=1∧rows.all DA=true
  |_=>False
 |.ldg n b l=>match H l with
  |.gl b' cells=>b'=b∧n≤cells.length
  |_=>False
 |.ldo b l=>match H l with
  |.gl b' cells=>b'=b∧0<cells.length
  |_=>False
 |.aslg n b l=>match H l with
  |.gl b' cells=>b'=b∧n≤cells.length∧n≤LIM
  |_=>False
 |.iax sz n a i=>a.fine p e∧i.fine p e∧Bz (i.v e)∧0≤Q8 (i.v e)∧Q8 (i.v e)<n∧(a.v e).isAg∧n * sz≤(a.v e).cells.length
 |.mx a b=>a.fine p e∧b.fine p e∧Bz (a.v e)∧Bz (b.v e)
 |.mn a b=>a.fine p e∧b.fine p e∧Bz (a.v e)∧Bz (b.v e)
def FOp.fct (e:Env)(H:Heap):FOp→Prop
 |.len a=>a9 (a.v e).c1≤LIM
 |.lenx a=>lenX (a.v e).c1<2 ^ 63
 |.lens a=>match a.v e with
  |.c (.str s)=>s.length≤LIM
  |_=>True
 |.lensx a=>match a.v e with
  |.c (.str s)=>s.length≤LIM
  |.c (.stb n)=>n<2 ^ 63
  |_=>True
 |.lenm a=>(A4 H (a.v e).c1).length≤LIM
 |_=>True
def fnOk (P:Program)(f:FuncId):Bool:=
 match P.funcs[f]? with
 | some fn => fn.body.isSome && fn.name != "runtime.NumGoroutine"
 |none=>false
def Qm (P:Program)(f:FuncId)(args:List V)(H:Heap)(K:V→Heap→Prop):Prop:=
 fnOk P f=true∧∀(g:G) (w:World) (vs:List Value),Sat H g w→vs.length=args.length→
  (∀(j:Nat) (x:V) (u:Value),args[j]? = some x→vs[j]? = some u→RepV w g x u)→
  Calls P f vs.toArray w fun e w'=>(∃v x H' g',e=.returned v∧K x H'∧Stp H g w H' g' w'∧RepV w' g' x v)∨
   (∃v H' g',e=.panicked [{ v:=v,recovered:=false }]∧K (.pn v) H'∧Stp H g w H' g' w')
def DB (P:Program)(f:FuncId)(args:List V)(r:V):Prop:=(∀v,r≠.pn v)∧∀H K,K r H→Qm P f args H K
inductive EOp where
 |alloc (cells:List C)
 |boxm (a:Opd)
 |sto (n:Nat) (a v:Opd)
 |app (sz:Nat) (a b:Opd)
 |apz (sz:Nat) (zr:List C) (a n:Opd)
 |mks (sz:Nat) (zero:List C) (n:Opd)
 |mkm
 |upd (tag:Nat) (m k v:Opd)
 |del (tag:Nat) (m k:Opd)
 |clrm (m:Opd)
 |clrs (sz:Nat) (zero:List C) (m:Opd)
 |call (f:Nat) (args:List Opd)
 |eA (f:Opd) (args:List Opd)
 |rng (m:Opd)
 |nxt (it:Opd)
 |ent (it:Opd)
 |nilq (a:Opd)
 |rngs (a:Opd)
 |nxts (it:Opd)
 |bslm (sz:Nat) (parts:List Opd)
 |cpy (sz:Nat) (a b:Opd)
def Dn (row:List C)(k:Nat)(vs:List C):List C:=row.take k++vs++row.drop (k+vs.length)
def BU (H:Heap)(p:C)(vs:List C)(K:V→Heap→Prop):Prop:=
 match p with
 |.ptr l k=>match H l with
  |.st cells=>k+vs.length≤cells.length∧K .unk (H.set l (.st (Dn cells k vs)))
  |_=>False
 |.ep (.aw l sz st n) z i k=>match H l with
  |.vec y rows=>y=sz∧z=sz∧i<n∧st+n≤rows.length∧k+vs.length≤sz∧
    K .unk (H.set l (.vec sz (rows.set (st+i) (Dn (rows.getD (st+i) []) k vs))))
  |_=>False
 |_=>False
def appT (H:Heap)(sz:Nat)(a b:C)(K:V→Heap→Prop):Prop:=
 aT H b∧b.aN=sz∧match a with
 |.sl true z rows=>z=sz∧(rows=[]∨rowsOf H b≠[])∧(∀r∈rows++rowsOf H b,ai r=true)∧rows.length+a9 b≤LIM∧
   ∀l,H l=.none→K (.c (.aw l sz 0 (rows.length+a9 b))) (H.set l (.vec sz (rows++rowsOf H b)))
 |.aw l z st n=>match H l with
  |.vec y rows=>z=sz∧y=sz∧st+n≤rows.length∧(∀r∈rowsOf H b,ai r=true)∧n+a9 b≤LIM∧
    ∀l',(H.set l .none) l'=.none→
     K (.c (.aw l' sz 0 (n+a9 b))) ((H.set l .none).set l' (.vec sz ((rows.drop st).take n++rowsOf H b)))
  |_=>False
 |_=>False
def AH (k:C)(v:V):List (C×V)→List (C×V)
 |[]=>[(k,v)]
 |e::es=>if AM k e.1 then (k,v)::es else e::AH k v es
def delE (k:C):List (C×V)→List (C×V)
 |[]=>[]
 |e::es=>if AM k e.1 then es else e::delE k es
def updT (H:Heap)(tag:Nat)(m k:C)(v:V)(K:V→Heap→Prop):Prop:=
 match m with
 |.mp l=>match H l with
  |.map n es=>AL tag k es∧es.length+1≤LIM∧K .unk (H.set l (.map (n+1) (AH k v es)))
  |_=>False
 |_=>False
def delT (H:Heap)(tag:Nat)(m k:C)(K:V→Heap→Prop):Prop:=
 match m with
 |.mp l=>match H l with
  |.map n es=>AL tag k es∧K .unk (H.set l (.map (n+1) (delE k es)))
  |_=>False
 |.mnil=>AL tag k []∧K .unk H
 |_=>False
def cpyT (H:Heap)(sz:Nat)(a b:C)(K:V→Heap→Prop):Prop:=
 aT H b∧b.aN=sz∧match a with
 |.aw l z st n=>match H l with
  |.vec y rows=>z=sz∧y=sz∧st+n≤rows.length∧a9 b≤n∧(∀r∈rowsOf H b,ai r=true)∧
    K (.c (.int .i64 (a9 b))) (H.set l (.vec sz (rows.take st++rowsOf H b++rows.drop (st+a9 b))))
  |_=>False
 |_=>False
def EOp.eff (P:Program)(p:Bool)(e:Env)(H:Heap)(K:V→Heap→Prop):EOp→Prop
 |.alloc cells=>∀l,H l=.none→K (.c (.ptr l 0)) (H.set l (.st cells))
 |.boxm a=>a.fine p e∧(a.v e).cells≠[]∧∀l,H l=.none→K (.c (.ptr l 0)) (H.set l (.st (a.v e).cells))
 |.sto n a v=>a.fine p e∧v.fine p e∧(a.v e).isC∧(v.v e).cells.length=n∧0<n∧BU H (a.v e).c1 (v.v e).cells K
 |.app sz a b=>a.fine p e∧b.fine p e∧(a.v e).isC∧(b.v e).isC∧appT H sz (a.v e).c1 (b.v e).c1 K
 |.apz sz zr a n=>a.fine p e∧n.fine p e∧(a.v e).isC∧Bz (n.v e)∧0≤Q8 (n.v e)∧Q8 (n.v e)≤LIM∧appT H sz (a.v e).c1 (.sl false sz (List.replicate (Q8 (n.v e)).toNat zr)) K
 |.mks sz zero n=>n.fine p e∧Bz (n.v e)∧0≤Q8 (n.v e)∧Q8 (n.v e)≤LIM∧
   ∀l,H l=.none→K (.c (.aw l sz 0 (Q8 (n.v e)).toNat)) (H.set l (.vec sz (List.replicate (Q8 (n.v e)).toNat zero)))
 |.mkm=>∀l,H l=.none→K (.c (.mp l)) (H.set l (.map 0 []))
 |.upd tag m k v=>m.fine p e∧k.fine p e∧v.fine p e∧(m.v e).isC∧(k.v e).isC∧(v.v e).cells≠[]∧updT H tag (m.v e).c1 (k.v e).c1 (v.v e) K
 |.del tag m k=>m.fine p e∧k.fine p e∧(m.v e).isC∧(k.v e).isC∧delT H tag (m.v e).c1 (k.v e).c1 K
 |.clrm m=>m.fine p e∧match m.v e with
  |.c (.mp l)=>match H l with
   |.map n _=>K .unk (H.set l (.map (n+1) []))
   |_=>False
  |_=>False
 |.clrs sz zero m=>m.fine p e∧match m.v e with
  |.c (.aw l z st n)=>z=sz∧match H l with
   |.vec y rows=>y=sz∧st+n≤rows.length∧K .unk (H.set l (.vec sz (rows.take st++List.replicate n zero++rows.drop (st+n))))
   |_=>False
  |_=>False
 |.call f args=>(∀x∈args,x.fine p e)∧Qm P f (args.map fun x=>x.v e) H K
 |.eA f args=>f.fine p e∧(∀x∈args,x.fine p e)∧match f.v e with
  |.c (.fn n caps)=>Qm P n ((args.map fun x=>x.v e)++caps.map .c) H K
  |_=>False
 |.rng m=>m.fine p e∧match m.v e with
  |.c (.mp l)=>match H l with
   |.map n es=>es.Nodup∧∀i,H i=.none→K (.c (.itr i)) (H.set i (.iter (some (l,n)) es none))
   |_=>False
  |.c .mnil=>∀i,H i=.none→K (.c (.itr i)) (H.set i (.iter none [] none))
  |_=>False
 |.nxt it=>it.fine p e∧match it.v e with
  |.c (.itr i)=>match H i with
   |.iter none left _=>K (.tup [.c (.bool false)]) H
   |.iter (some (l,n)) left cur=>(∃es,H l=.map n es)∧(left=[]→K (.tup [.c (.bool false)]) H)∧
     ∀x left',x∈left→(∀y,y∈left'↔y∈left∧y≠x)→left'.Nodup→left'.length+1=left.length→
      K (.tup [.c (.bool true),.c x.1,x.2]) (H.set i (.iter (some (l,n)) left' (some x)))
   |_=>False
  |_=>False
 |.ent it=>it.fine p e∧match it.v e with
  |.c (.itr i)=>match H i with
   |.iter (some (l,n)) left (some x)=>(∃es,H l=.map n es)∧K (.tup [.c x.1,x.2]) H
   |_=>False
  |_=>False
 |.rngs a=>a.fine p e∧match a.v e with
  |.c (.str s)=>∀i,H i=.none→K (.c (.itr i)) (H.set i (.sit s 0))
  |_=>False
 |.nxts it=>it.fine p e∧match it.v e with
  |.c (.itr i)=>match H i with
   |.sit s q=>(s.length≤q→K (.tup [.c (.bool false)]) H)∧
     ∀(c:Int) (wd:Nat),q<s.length→1≤wd→((s.getD q 0).toNat<128→c=((s.getD q 0).toNat:Int)∧wd=1)→(128≤(s.getD q 0).toNat→128≤c)→
      K (.tup [.c (.bool true),.c (.int .i64 q),.c (.int .i32 c)]) (H.set i (.sit s (q+wd)))
   |_=>False
  |_=>False
 |.nilq a=>a.fine p e∧match a.v e with
  |.c (.sl _ _ rows)=>∀b:Bool,(b=true→rows=[])→K (.c (.bool b)) H
  |_=>False
 |.cpy sz a b=>a.fine p e∧b.fine p e∧(a.v e).isC∧(b.v e).isC∧cpyT H sz (a.v e).c1 (b.v e).c1 K
 |.bslm sz parts=>(∀x∈parts,x.fine p e∧(x.v e).cells.length=sz)∧∀l,H l=.none→K (.c (.aw l sz 0 parts.length)) (H.set l (.vec sz (parts.map fun x=>(x.v e).cells)))
inductive Item where
 |f (dst:Option Nat) (g:Option (Nat×Bool)) (op:FOp)
 |p (dst:Option Nat) (g:Option (Nat×Bool)) (f:Nat) (args:List Opd)
 |e (dst:Option Nat) (g:Option (Nat×Bool)) (op:EOp)
 |chk (dst:Nat) (g:Option (Nat×Bool)) (op:FOp)
def putE (d:Option Nat)(v:V)(e:Env):Env:=
 match d with
 |some t=>(t,v)::e
 |none=>e
def gdB (e:Env):Option (Nat×Bool)→Bool
 |none=>true
 |some (t,w)=>match lk t e with
  |.c (.bool b)=>b == w
  |.gd q (.c (.bool b))=>q&&(b == w)
  |_=>false
def gdO (e:Env):Option (Nat×Bool)→Prop
 |none=>True
 |some (t,_)=>match lk t e with
  |.c (.bool _)=>True
  |.gd _ (.c (.bool _))=>True
  |.gd q _=>q=false
  |_=>False
def gdV (g:Option (Nat×Bool))(p:Bool)(v:V):V:=
 match g with
 |none=>v
 |some _=>.gd p v
def BC (KP:Value→Heap→Prop)(K:V→Heap→Prop):V→Heap→Prop
 |.pn v,H=>KP v H
 |v,H=>K v H
def regT (P:Program):List Item→Env→Heap→(Value→Heap→Prop)→(Env→Heap→Prop)→Prop
 |[],e,H,KP,K=>K e H
 |.f d g op::r,e,H,KP,K=>gdO e g∧(gdB e g=true→op.obl (gdB e g) e H)∧
   ((gdB e g=true→op.fct e H)→regT P r (putE d (gdV g (gdB e g) (op.val e H)) e) H KP K)
 |.p d g f args::r,e,H,KP,K=>gdO e g∧∃v,(gdB e g=true→(∀x∈args,x.fine (gdB e g) e)∧DB P f (args.map fun x=>x.v e) v)∧
   regT P r (putE d (gdV g (gdB e g) v) e) H KP K
 |.e d g op::r,e,H,KP,K=>gdO e g∧
   (gdB e g=true→op.eff P (gdB e g) e H (BC KP fun v H'=>regT P r (putE d v e) H' KP K))∧
   (gdB e g=false→regT P r (putE d .unk e) H KP K)
 |.chk _ _ _::_,_,_,_,_=>False
def B0 (P:Program):List Item→Env→Heap→(Value→Heap→Prop)→(Env→Heap→Prop)→Prop
 |[],e,H,KP,K=>K e H
 |.f d g op::r,e,H,KP,K=>gdO e g∧(gdB e g=true→op.obl (gdB e g) e H)∧B0 P r (putE d (gdV g (gdB e g) (op.val e H)) e) H KP K
 |.p d g f args::r,e,H,KP,K=>gdO e g∧∃v,(gdB e g=true→(∀x∈args,x.fine (gdB e g) e)∧DB P f (args.map fun x=>x.v e) v)∧
   B0 P r (putE d (gdV g (gdB e g) v) e) H KP K
 |.e d g op::r,e,H,KP,K=>gdO e g∧
   (gdB e g=true→op.eff P (gdB e g) e H (BC KP fun v H'=>B0 P r (putE d v e) H' KP K))∧
   (gdB e g=false→B0 P r (putE d .unk e) H KP K)
 |.chk d g op::r,e,H,KP,K=>(gdO e g∧(gdB e g=true→op.obl (gdB e g) e H)∧lk d e=gdV g (gdB e g) (op.val e H))∧B0 P r e H KP K
def trim (ks:List Nat)(e:Env):Env:=ks.map fun t=>(t,lk t e)
def DC (e:Env)(H:Heap)(e':Env)(H':Heap):Prop:=
 ∀(g:G) (w:World) (tmps:Nat→Value),Sat H g w→(∀t,RepV w g (lk t e) (tmps t))→
  ∃g',Stp H g w H' g' w∧∀t,RepV w g' (lk t e') (tmps t)
inductive SC where
 |skip
 |reg (its:List Item) (keep:List Nat)
 |iS (fa:Nat) (ord:List Nat) (its:List Item) (keep:List Nat)
 |seq (a b:SC)
 |cond (t:Opd) (a b:SC)
 |block (id:Nat) (a:SC)
 |loop (a:SC)
 |exit (id:Nat)
 |ret
 |gh
 |scope (a:SC)
inductive X where
 |nrm
 |exit (id:Nat)
 |ret
 |pan (v:Value)
def X.panK (Q:X→Env→Heap→Prop)(v:Value)(H:Heap):Prop:=Q (.pan v) [] H
def X.next (K:Env→Heap→Prop)(Q:X→Env→Heap→Prop):X→Env→Heap→Prop
 |.nrm,e,H=>K e H
 |x,e,H=>Q x e H
def X.inBlock (id:Nat)(Q:X→Env→Heap→Prop):X→Env→Heap→Prop
 |.exit i,e,H=>if i=id then Q .nrm e H else Q (.exit i) e H
 |x,e,H=>Q x e H
def Q6 (P:Program):SC→(X→Env→Heap→Prop)→Env→Heap→Prop
 |.skip,Q,e,H=>Q .nrm e H
 |.reg its keep,Q,e,H=>regT P its e H (X.panK Q) fun e' H'=>Q .nrm (trim keep e') H'
 |.iS _ _ its keep,Q,e,H=>B0 P its e H (X.panK Q) fun e' H'=>Q .nrm (trim keep e') H'
 |.seq a b,Q,e,H=>Q6 P a (X.next (Q6 P b Q) Q) e H
 |.cond t a b,Q,e,H=>∃c,t.raw e=.c (.bool c)∧(c=true→Q6 P a Q e H)∧(c=false→Q6 P b Q e H)
 |.block id a,Q,e,H=>Q6 P a (X.inBlock id Q) e H
 |.loop a,Q,e,H=>∃(I:Nat→Env→Heap→Prop),(∃n,I n e H)∧
   ∀n e1 H1,I n e1 H1→Q6 P a (X.next (fun e2 H2=>∃m,m<n∧I m e2 H2) Q) e1 H1
 |.exit id,Q,e,H=>Q (.exit id) e H
 |.ret,Q,e,H=>Q .ret e H
 |.gh,Q,e,H=>∃e' H',DC e H e' H'∧Q .nrm e' H'
 |.scope a,Q,e,H=>Q6 P a Q e H
inductive RS where
 |tmp (t:Nat)
 |cell (t n:Nat) (agg:Bool)
def RS.op:RS→FOp
 |.tmp t=>.mv (.t t)
 |.cell t n agg=>.ld n agg (.t t)
def Q0 (rs:List RS)(e:Env)(H:Heap)(K:V→Heap→Prop):Prop:=
 (∀r∈rs,r.op.obl true e H)∧K (match rs with
  |[r]=>r.op.val e H
  |_=>.tup (rs.map fun r=>r.op.val e H)) H
def zipE (i:Nat):List V→Env
 |[]=>[]
 |v::r=>(i,v)::zipE (i+1) r
variable {P:Program}
theorem HD {t:TypeId}{i:TypeInfo}(h:P.info? t=some i)(w:World):(typeInfo t).run P w=.ok i w:=by
 simp[typeInfo,h]
theorem Bs {t:TypeId}{i:TypeInfo}(h:P.info? t=some i)(w:World):(sizeOf t).run P w=.ok i.size w:=by
 simp[sizeOf,HD h]
theorem Aq {t:TypeId}{d:TypeDesc}(h:P.underlying t=some d)(w:World):(underlying t).run P w=.ok d w:=by
 simp[underlying,h]
theorem Qawz {t:TypeId}{i:TypeInfo}(h:P.info? t=some i):P.cellsOf t=i.size:=by simp[Program.cellsOf,h]
def BO:TypeDesc→Bool
 |.struct _|.array _ _=>true
 |_=>false
theorem DF {t:TypeId}{d:TypeDesc}(h:P.underlying t=some d)(w:World):(isAgg t).run P w=.ok (BO d) w:=by
 cases d <;> simp[isAgg,Aq h,BO]
theorem BL (b o j:Nat):(⟨b,o,none⟩:Addr).add j=⟨b,o+j,none⟩:=by
 unfold Addr.add;split
 ·subst_vars;rfl
 ·rfl
theorem FK {t:TypeId}{d:TypeDesc}{i:TypeInfo}(hd:P.underlying t=some d)(hi:P.info? t=some i)(w:World)(b o n:Nat)(f:Nat→Value)
  (hn:BO d=true→i.size=n) (h1:BO d=false→n=1) (hc:∀j,j<n→w.cell? ⟨b,o+j,none⟩=some (f j)) :
  (loadVar t ⟨b,o,none⟩).run P w=.ok (if BO d then .agg ((List.range n).map f).toArray else f 0) w:=by
 unfold loadVar;simp only[Sem.run_bind,DF hd,Result.andThen_ok]
 cases ha:BO d with
 |true=>
  simp only[Sem.run_bind,Bs hi,Result.andThen_ok,if_true,hn ha];rw[run_loadCells w _ n f (fun j hj=>by rw[BL];exact hc j hj)];simp
 |false=>
  have h0:=hc 0 (by have:=h1 ha;omega);simp only[Jx]at h0;simp[h0]
def getV (w:World)(b o:Nat)(j:Nat):Value:=(w.cell? ⟨b,o+j,none⟩).getD undef
theorem RepC.ai {w:World}{g:G}{c:C}{v:Value}(h:RepC w g c v):c.ah=false:=by cases h <;> rfl
theorem Dy {w:World}{b o:Nat}{cs:Array Value}{T:TypeId}(h:w.heap[b]? = some (.cells cs T (0,0))):w.cell? ⟨b,o,none⟩=cs[o]?:=by
 simp[World.cell?,h]
theorem RepO.toC {w:World}{g:G}{l:Nat}{p:List Nat}{c:C}{v:Value}(h:RepO w g l p c v)(hn:c.ah=false):RepC w g c v:=
 h.plain_of (fun sz rows e=>by subst e;simp[C.ah]at hn)
theorem G7 {H:Heap}{g:G}{w:World}(hs:Sat H g w){s:C}{v:Value}(h:RepC w g s v)(ho:aT H s) :
  ∃a cap,v=.slice a (a9 s) cap∧a9 s≤LIM∧(rowsOf H s).length=a9 s∧
   (∀(i:Nat) (row:List C),(rowsOf H s)[i]? = some row→row.length=s.aN)∧
   (a9 s≠0→∃b off,a=some ⟨b,off,none⟩∧∀(i:Nat) (row:List C) (j:Nat) (c:C),(rowsOf H s)[i]? = some row→row[j]? = some c→c.ah=false→
    ∃u,w.cell? ⟨b,off+i * s.aN+j,none⟩=some u∧RepC w g c u):=by
 cases h with
 |bn fl sz a=>exact⟨a,0,rfl,by simp[a9,LIM],rfl,by simp[rowsOf],by simp[a9]⟩
 |sl fl sz rows b off cap val hl hf cR hp hr hc hv=>
  refine⟨some ⟨b,off,none⟩,cap,rfl,hl,rfl,hr,fun _=>⟨b,off,rfl,fun i row j c h1 h2 _=>⟨_,hc i row j c h1 h2,hv i row j c h1 h2⟩⟩⟩
 |bD l sz st a=>
  simp only[aT]at ho;refine⟨a,0,rfl,by simp[a9,LIM],?_,?_,by simp[a9]⟩
  ·simp only[rowsOf,a9];split <;> simp
  ·intro i row h1;simp only[rowsOf]at h1;split at h1 <;> simp at h1
 |aw l sz st n cap b base T m bI hn fM hm=>
  simp only[aT]at ho;split at ho
  ·rename_i z rows hH
   obtain⟨rfl,aC⟩:=ho;have bC:=hs.objs l;rw[hH]at bC;obtain⟨b',base',T',cs,val,h1,h2,h3,h4,h5,h6,h7,h8⟩:=SatVec.of bC bI;rw[bI]at h1;simp only[Jb,Jk,true_and]at h1;obtain⟨rfl,rfl⟩:=h1;have aI:∀i row,(rowsOf H (.aw l z st n))[i]? = some row→i<n∧rows[st+i]? = some row:=by
    intro i row hi;simp only[rowsOf,hH,Jn,Js]at hi;split at hi
    ·rename_i af;exact⟨af,hi⟩
    ·simp at hi
   refine⟨_,cap,rfl,by simp only[a9];omega,?_,?_,fun _=>⟨b,base+st * z,rfl,?_⟩⟩
   ·simp only[rowsOf,hH,a9,List.length_take,List.length_drop];omega
   ·intro i row hi;exact h6 _ _ (aI i row hi).2
   ·intro i row j c hi hj ho;obtain⟨iM,lc⟩:=aI i row hi;have e1:=h7 _ _ _ _ lc hj;refine⟨val (st+i) j,?_,(h8 _ _ _ _ lc hj).toC ho⟩;rw[Dy h3,←e1];simp only[C.aN];congr 1;rw[Jh];omega
  ·exact ho.elim
 |_=>simp[aT]at ho
theorem Mi {H:Heap}{g:G}{w:World}(hs:Sat H g w){x:C}{v:Value}(h:RepC w g x v)(ho:Cw H x) :
  ∃b o,v=.pointer (some ⟨b,o,none⟩)∧∀(j:Nat) (c:C),(Cg H x)[j]? = some c→c.ah=false→∃u,w.cell? ⟨b,o+j,none⟩=some u∧RepC w g c u:=by
 cases h with
 |pp cells b off val hp hc hv=>exact⟨b,off,rfl,fun j c h1 _=>⟨_,hc j c h1,hv j c h1⟩⟩
 |ptr l k b sz base bI=>
  simp only[Cw]at ho;split at ho
  ·rename_i cells hH
   have bC:=hs.objs l;rw[hH]at bC;obtain⟨b',sz',T,cs,h1,h2,h3,h4,h5⟩:=bC;rw[bI]at h1;simp only[Jb,Jk]at h1;obtain⟨rfl,rfl,rfl⟩:=h1;refine⟨b,0+k,rfl,fun j c hj hw=>?_⟩;simp only[Cg,hH,Js]at hj;have af:k+j<cs.size:=by
    rw[h4];rcases Jg (k+j) cells.length with h|h
    ·exact h
    ·rw[Jc h]at hj;simp at hj
   have hv:cs[k+j]? = some cs[k+j]:=Jf af;exact⟨cs[k+j],by rw[Dy h3,show 0+k+j=k+j by omega];exact hv,(h5 _ _ _ hj hv).toC hw⟩
  ·exact ho.elim
 |ep s sz i k b off n cap cE hz hi=>
  simp only[Cw]at ho;obtain⟨lD,gp,ho3⟩:=ho;obtain⟨a,cap',hv,h1,h2,h3,h4⟩:=G7 hs cE lD;simp only[Value.slice.injEq]at hv;obtain⟨rfl,rfl,rfl⟩:=hv;obtain⟨b',off',hb,h5⟩:=h4 ZT;simp only[Jb,Addr.mk.injEq,and_true]at hb;obtain⟨rfl,rfl⟩:=hb;refine⟨b,off+i * sz+k,rfl,fun j c hj hw=>?_⟩;simp only[Cg,Js]at hj;have aI:(rowsOf H s)[i]? = some ((rowsOf H s).getD i []):=by
   rw[Jv,Jd ZT];rfl
  obtain⟨u,e1,e2⟩:=h5 i _ (k+j) c aI hj hw;refine⟨u,?_,e2⟩;rw[hz]at e1;rw[←e1];congr 2;omega
 |_=>simp[Cw]at ho
def mK:V→Value→Bool
 |.c (.int k n),.int k' n'=>k == k'&&n == n'
 |.c (.bool b),.bool b'=>b == b'
 |.c (.str s),.string b=>decide (s=b.data.toList)&&decide (s.length≤1000000)
 |.c (.sl _ _ []),.slice none 0 0=>true
 |.c .pnil,.pointer none=>true
 |.c .mnil,.map none=>true
 |.c .fnil,.nilFunc=>true
 |_,_=>false
def mO:Opd→Operand→Bool
 |.t n,.tmp m=>n == m
 |.k v,.const c=>mK v c
 |.k (.c (.fn f [])),.func f'=>f == f'
 |_,_=>false
theorem Ye {w:World}{g:G}{v:V}{u:Value}(h:mK v u=true):RepV w g v u:=by
 unfold mK at h;split at h
 ·simp at h;obtain⟨rfl,rfl⟩:=h;exact .c _ _ (.int _ _)
 ·simp at h;subst h;exact .c _ _ (.bool _)
 ·rename_i s b
  simp only[Ja,decide_eq_true_eq]at h;obtain⟨rfl,h2⟩:=h;have hb:b=⟨b.data.toList.toArray⟩:=by cases b;rfl
  have:=RepC.str (w:=w) (g:=g) b.data.toList (by unfold LIM;omega);rw[←hb]at this;exact .c _ _ this
 ·exact .c _ _ (.bn _ _ _)
 ·exact .c _ _ .pnil
 ·exact .c _ _ .mnil
 ·exact .c _ _ .fnil
 ·simp at h
theorem Iw {w:World}{g:G}{e:Env}{a:Act}(he:∀t,RepV w g (lk t e) (a.tmps.getD t undef)){x:Opd}{y:Operand}(h:mO x y=true) :
  RepV w g (x.raw e) (a.eval y):=by
 unfold mO at h;split at h
 ·simp at h;subst h;exact he _
 ·exact Ye h
 ·simp at h;subst h;exact .c _ _ (.fn _ [] [] rfl (by intro j c u h1;simp at h1))
 ·simp at h
theorem Al {w:World}{g:G}{e:Env}{a:Act}(he:∀t,RepV w g (lk t e) (a.tmps.getD t undef)){x:Opd}{y:Operand}(h:mO x y=true)
  {p:Bool} (hp:p=true) (hf:x.fine p e):RepV w g (x.v e) (a.eval y):=by
 have hr:=Iw he h;unfold Opd.v Opd.fine at *
 cases hx:x.raw e with
 |gd q v=>
  rw[hx]at hr hf;simp only[V.fine]at hf
  cases hr with
  |gd _ _ _ hv _=>exact hv (hf hp)
 |_=>rw[hx]at hr;exact hr
theorem RepV.aF {w:World}{g:G}{x:C}{v:Value}(h:RepV w g (.c x) v):RepC w g x v:=by cases h;assumption
theorem RepC.aB {w:World}{g:G}{k:IntKind}{n:Int}{v:Value}(h:RepC w g (.int k n) v):v=.int k n:=by cases h;rfl
theorem RepC.bk {w:World}{g:G}{b:Bool}{v:Value}(h:RepC w g (.bool b) v):v=.bool b:=by cases h;rfl
theorem RepC.str_inv {w:World}{g:G}{s:List UInt8}{v:Value}(h:RepC w g (.str s) v):v=.string ⟨s.toArray⟩∧s.length≤LIM:=by cases h;exact⟨rfl,by assumption⟩
theorem RepC.pnil_inv {w:World}{g:G}{v:Value}(h:RepC w g .pnil v):v=.pointer none:=by cases h;rfl
theorem RepC.ptr_inv {w:World}{g:G}{x:C}{v:Value}(h:RepC w g x v)(hx:x.isPtr=true):∃b o,v=.pointer (some ⟨b,o,none⟩):=by
 cases h <;> simp[C.isPtr]at hx <;> exact⟨_,_,rfl⟩
theorem RepC.fn_inv {w:World}{g:G}{f:Nat}{caps:List C}{v:Value}(h:RepC w g (.fn f caps) v) :
  ∃vs:List Value,v=.func (.func f) #[] vs.toArray∧vs.length=caps.length∧∀(j:Nat) (c:C) (u:Value),caps[j]? = some c→vs[j]? = some u→RepC w g c u:=by
 cases h with
 |fn f caps vs hl hv=>exact⟨vs,rfl,hl,hv⟩
theorem RepV.tup_inv {w:World}{g:G}{xs:List V}{v:Value}(h:RepV w g (.tup xs) v) :
  ∃vs:List Value,v=.tuple vs.toArray∧vs.length=xs.length∧∀(j:Nat) (x:V) (u:Value),xs[j]? = some x→vs[j]? = some u→RepV w g x u:=by
 cases h with
 |tup xs vs hl hv=>exact⟨vs,rfl,hl,hv⟩
theorem RepV.ag_inv {w:World}{g:G}{cs:List C}{v:Value}(h:RepV w g (.ag cs) v) :
  ∃vs:List Value,v=.agg vs.toArray∧vs.length=cs.length∧∀(j:Nat) (x:C) (u:Value),cs[j]? = some x→vs[j]? = some u→RepC w g x u:=by
 cases h with
 |ag cs vs hl hv=>exact⟨vs,rfl,hl,hv⟩
theorem Br {v:V}(h:v.isC):v=.c v.c1:=by cases v <;> simp_all[V.isC,V.c1]
end Go.AE
namespace Go.AE
variable {P:Program}{H:Heap}{g:G}{w:World}{e:Env}{a:Act}{o:Oper}{p:Bool}
def FOk (P:Program)(H:Heap)(g:G)(w:World)(e:Env)(a:Act)(o:Oper)(op:FOp):Prop:=
 ∃v w' g',(execOp a.eval o).run P w=.ok (.value v) w'∧Stp H g w H g' w'∧RepV w' g' (op.val e H) v∧op.fct e H
abbrev EnvOk (w:World)(g:G)(e:Env)(a:Act):Prop:=∀t,RepV w g (lk t e) (a.tmps.getD t undef)
theorem FOk.mk' {op:FOp}(hs:Sat H g w){v:Value}(h1:(execOp a.eval o).run P w=.ok (.value v) w)(h2:RepV w g (op.val e H) v)(h3:op.fct e H) :
  FOk P H g w e a o op:=⟨v,w,g,h1,.refl hs,h2,h3⟩
def mTag (P:Program)(tag:Nat)(t:TypeId):Bool:=
 match tag with
 |1=>(match P.underlying t with|some .bool=>true|_=>false)
 |2=>(match P.underlying t with|some (.pointer _)=>true|_=>false)
 |_=>true
theorem s_mv {x:Opd}{y:Operand}(hm:o.op=.move y∨o.op=.assign y)(hx:mO x y=true)(hs:Sat H g w)(he:EnvOk w g e a)(hp:p=true)
  (ho:(FOp.mv x).obl p e H):FOk P H g w e a o (.mv x):=by
 refine .mk' hs (v:=a.eval y) ?_ (Al he hx hp ho) trivial;rcases hm with hm|hm <;> simp[execOp,hm]
theorem XK {c x y:Opd}{c' x' y':Operand}(hm:o.op=.pick c' x' y')(hc:mO c c'=true)(hx:mO x x'=true)(hy:mO y y'=true)
  (hs:Sat H g w) (he:EnvOk w g e a) (hp:p=true) (ho:(FOp.pick c x y).obl p e H):FOk P H g w e a o (.pick c x y):=by
 simp only[FOp.obl]at ho;obtain⟨h1,h2⟩:=ho;have hr:=Al he hc hp h1
 cases hv:c.v e with
 |c z=>
  cases z with
  |bool t=>
   rw[hv]at hr h2;simp only at h2;have hb:a.eval c'=.bool t:=hr.aF.bk;refine .mk' hs (v:=if t then a.eval x' else a.eval y') (by simp[execOp,hm,hb,asBool]) ?_ trivial;simp only[FOp.val,hv];have gen:∀(u v:V) (s r:Value),(t=true→RepV w g u s)→(t=false→RepV w g v r)→RepV w g (D4 t u v) (if t then s else r):=by
    intro u v s r hu hv;unfold D4;split
    ·cases t
     ·simpa using hv rfl
     ·simpa using hu rfl
    ·cases t
     ·simpa using hv rfl
     ·simpa using hu rfl
   refine gen _ _ _ _ (fun ht=>?_) (fun ht=>?_)
   ·exact Al he hx (p:=p&&t) (by simp[hp,ht]) h2.1
   ·exact Al he hy (p:=p&&!t) (by simp[hp,ht]) h2.2
  |_=>rw[hv]at h2;exact h2.elim
 |_=>rw[hv]at h2;exact h2.elim
theorem CU {k:IntKind}{n:Int}(h:inR k n):k.wrap n=n:=by
 unfold inR at h;cases k <;> simp[IntKind.min,IntKind.max,IntKind.signed,IntKind.bits]at h <;> simp[IntKind.wrap,IntKind.signed,IntKind.bits] <;> omega
theorem Ru (s:List UInt8):(⟨s.toArray⟩:ByteArray).toList=s:=by
 rw[ByteArray.toList_eq]
theorem DE (s:List UInt8):(⟨s.toArray⟩:ByteArray).size=s.length:=by simp[ByteArray.size]
theorem Ch:LIM=549755813888:=rfl
theorem Ba (op:BinOp)(t:TypeId)(x y:Operand)(u v:Value)(h:∀cs ds,¬(u=.agg cs∧v=.agg ds))(h':¬(u=.nilIface∧v=.nilIface))(w:World) :
  (eqGuard op t x y u v).run P w=.ok () w:=by
 unfold eqGuard;cases op <;> simp <;> (cases u <;> cases v <;> simp_all)
theorem Qaw5 {t:TypeId}(h:P.underlying t=some .bool)(d:Nat)(x y:Bool)(w:World):(Op.equalIn (d+1) t (.bool x) (.bool y)).run P w=.ok (x == y) w:=by
 simp[Op.equalIn,Aq h]
theorem Qa18 {t pe:TypeId}(h:P.underlying t=some (.pointer pe))(d:Nat)(x:Addr)(w:World):(Op.equalIn (d+1) t (.pointer (some x)) (.pointer none)).run P w=.ok false w:=by
 simp[Op.equalIn,Aq h]
theorem Qa17 {t pe:TypeId}(h:P.underlying t=some (.pointer pe))(d:Nat)(w:World):(Op.equalIn (d+1) t (.pointer none) (.pointer none)).run P w=.ok true w:=by
 simp[Op.equalIn,Aq h]
theorem Pj {t:TypeId}(h:P.underlying t=some .bool)(x y:Bool)(w:World):(Op.equal t (.bool x) (.bool y)).run P w=.ok (x == y) w:=Qaw5 h 9999 x y w
theorem NJ {t pe:TypeId}(h:P.underlying t=some (.pointer pe))(x:Addr)(w:World):(Op.equal t (.pointer (some x)) (.pointer none)).run P w=.ok false w:=Qa18 h 9999 x w
theorem NK {t pe:TypeId}(h:P.underlying t=some (.pointer pe))(w:World):(Op.equal t (.pointer none) (.pointer none)).run P w=.ok true w:=Qa17 h 9999 w
theorem XM {tag:Nat}{bo:BinOp}{x y:Opd}{x' y':Operand}{t t':TypeId}(hm:o.op=.binOp bo t x' y' t')(ht:mTag P tag t=true)(hx:mO x x'=true)(hy:mO y y'=true)
  (hs:Sat H g w) (he:EnvOk w g e a) (hp:p=true) (ho:(FOp.bin tag bo x y).obl p e H):FOk P H g w e a o (.bin tag bo x y):=by
 simp only[FOp.obl]at ho;obtain⟨h1,h2,h3,h4,h5⟩:=ho;have kj:=Al he hx hp h1;have jz:=Al he hy hp h2;rw[Br h3]at kj;rw[Br h4]at jz;have fY:=kj.aF;have kF:=jz.aF;have key:∀(u v:Value) (c d:C),RepC w g c u→RepC w g d v→binO tag bo c d→
   ∃r,(do eqGuard bo t x' y' u v;binOp bo t u v:Sem Value).run P w=.ok r w∧RepC w g (binC bo c d) r:=by
  intro u v c d hu hv hO;unfold binO at hO;split at hO
  case h_1=>
   obtain⟨rfl,hr⟩:=hO;rw[hu.aB,hv.aB];exact⟨_,by simp[Ba,binOp,Op.intArith];try rfl,by rw[CU hr];exact .int _ _⟩
  case h_2=>
   obtain⟨rfl,hr⟩:=hO;rw[hu.aB,hv.aB];exact⟨_,by simp[Ba,binOp,Op.intArith];try rfl,by rw[CU hr];exact .int _ _⟩
  case h_3=>
   obtain⟨rfl,hr⟩:=hO;rw[hu.aB,hv.aB];exact⟨_,by simp[Ba,binOp,Op.intArith];try rfl,by rw[CU hr];exact .int _ _⟩
  case h_4=>
   obtain⟨rfl,h0,hr⟩:=hO;rw[hu.aB,hv.aB];exact⟨_,by simp[Ba,binOp,Op.intDiv,h0];try rfl,by rw[CU hr];exact .int _ _⟩
  case h_5=>
   obtain⟨rfl,h0⟩:=hO;rw[hu.aB,hv.aB];exact⟨_,by simp[Ba,binOp,Op.intDiv,h0];try rfl,.int _ _⟩
  case h_6=>
   subst hO;rw[hu.aB,hv.aB];exact⟨_,by simp[Ba,binOp,Op.intBits];try rfl,.int _ _⟩
  case h_7=>
   subst hO;rw[hu.aB,hv.aB];exact⟨_,by simp[Ba,binOp,Op.intBits];try rfl,.int _ _⟩
  case h_8=>
   subst hO;rw[hu.aB,hv.aB];exact⟨_,by simp[Ba,binOp,Op.intBits];try rfl,.int _ _⟩
  case h_9=>
   subst hO;rw[hu.aB,hv.aB];exact⟨_,by simp[Ba,binOp,Op.intCmp];try rfl,.bool _⟩
  case h_10=>
   subst hO;rw[hu.aB,hv.aB];refine⟨.bool (!decide (_=_)),?_,.bool _⟩;simp[Ba,binOp,Op.intCmp,bne];rfl
  case h_11=>
   subst hO;rw[hu.aB,hv.aB];exact⟨_,by simp[Ba,binOp,Op.intCmp];try rfl,.bool _⟩
  case h_12=>
   subst hO;rw[hu.aB,hv.aB];exact⟨_,by simp[Ba,binOp,Op.intCmp];try rfl,.bool _⟩
  case h_13=>
   subst hO;rw[hu.aB,hv.aB];exact⟨_,by simp[Ba,binOp,Op.intCmp];try rfl,.bool _⟩
  case h_14=>
   subst hO;rw[hu.aB,hv.aB];exact⟨_,by simp[Ba,binOp,Op.intCmp];try rfl,.bool _⟩
  case h_15=>
   subst hO;rw[hu.bk,hv.bk];have hb:P.underlying t=some .bool:=by
    simp only[mTag]at ht;split at ht <;> simp_all
   exact⟨_,by simp only[Sem.run_bind,Ba _ _ _ _ (.bool _) (.bool _) ZV ZV,Result.andThen_ok,binOp,Pj hb];rfl,.bool _⟩
  case h_16=>
   subst hO;rw[hu.bk,hv.bk];have hb:P.underlying t=some .bool:=by
    simp only[mTag]at ht;split at ht <;> simp_all
   exact⟨_,by simp only[Sem.run_bind,Ba _ _ _ _ (.bool _) (.bool _) ZV ZV,Result.andThen_ok,binOp,Pj hb];rfl,.bool _⟩
  case h_17=>
   rename_i s s'
   rw[hu.str_inv.1,hv.str_inv.1];rw[Ch]at hO;refine⟨.string (⟨s.toArray⟩++⟨s'.toArray⟩),?_,?_⟩
   ·simp only[Sem.run_bind,Ba _ _ _ _ (.string _) (.string _) ZV ZV,Result.andThen_ok,binOp,Op.stringOp,DE];rw[if_neg (by simp[IntKind.max,IntKind.signed,IntKind.bits];omega)];rfl
   ·have:(⟨s.toArray⟩++⟨s'.toArray⟩:ByteArray)=⟨(s++s').toArray⟩:=by
     apply Ja1;simp
    rw[this];exact .str _ (by simp[Ch];omega)
  case h_18=>
   rw[hu.str_inv.1,hv.str_inv.1];refine⟨_,by simp only[Sem.run_bind,Ba _ _ _ _ (.string _) (.string _) ZV ZV,Result.andThen_ok,binOp,Op.stringOp,Ru];rfl,?_⟩
   rename_i s s'
   rw[show (s == s')=decide (s=s') from by rw[Jbc];simp];exact .bool _
  case h_19=>
   rw[hu.str_inv.1,hv.str_inv.1];refine⟨_,by simp only[Sem.run_bind,Ba _ _ _ _ (.string _) (.string _) ZV ZV,Result.andThen_ok,binOp,Op.stringOp,Ru];rfl,?_⟩
   rename_i s s'
   rw[show (s == s')=decide (s=s') from by rw[Jbc];simp];exact .bool _
  case h_20=>
   obtain⟨rfl,hO⟩:=hO;rw[hv.pnil_inv];obtain⟨pe,hb⟩:∃pe,P.underlying t=some (.pointer pe):=by
    simp only[mTag]at ht;split at ht <;> simp_all
   rcases hO with hO|rfl
   ·obtain⟨b,of,rfl⟩:=hu.ptr_inv hO;refine⟨_,by simp only[Sem.run_bind,Ba _ _ _ _ (.pointer _) (.pointer _) ZV ZV,Result.andThen_ok,binOp,NJ hb];rfl,?_⟩;cases c <;> simp[C.isPtr]at hO <;> exact .bool _
   ·rw[hu.pnil_inv];exact⟨_,by simp only[Sem.run_bind,Ba _ _ _ _ (.pointer _) (.pointer _) ZV ZV,Result.andThen_ok,binOp,NK hb];rfl,.bool _⟩
  case h_21=>
   obtain⟨rfl,hO⟩:=hO;rw[hv.pnil_inv];obtain⟨pe,hb⟩:∃pe,P.underlying t=some (.pointer pe):=by
    simp only[mTag]at ht;split at ht <;> simp_all
   rcases hO with hO|rfl
   ·obtain⟨b,of,rfl⟩:=hu.ptr_inv hO;refine⟨_,by simp only[Sem.run_bind,Ba _ _ _ _ (.pointer _) (.pointer _) ZV ZV,Result.andThen_ok,binOp,NJ hb];rfl,?_⟩;cases c <;> simp[C.isPtr]at hO <;> exact .bool _
   ·rw[hu.pnil_inv];exact⟨_,by simp only[Sem.run_bind,Ba _ _ _ _ (.pointer _) (.pointer _) ZV ZV,Result.andThen_ok,binOp,NK hb];rfl,.bool _⟩
  case h_22=>exact hO.elim
 obtain⟨r,fj,bw⟩:=key _ _ _ _ fY kF h5;refine .mk' hs (v:=r) ?_ ?_ trivial
 ·simp only[execOp,hm,Sem.run_bind]at fj⊢;simp only[fj];rfl
 ·exact .c _ _ bw
theorem Xi {x:Opd}{x':Operand}{t:TypeId}(hm:o.op=.unOp .not t x')(hx:mO x x'=true)(hs:Sat H g w)(he:EnvOk w g e a)(hp:p=true)
  (ho:(FOp.not x).obl p e H):FOk P H g w e a o (.not x):=by
 simp only[FOp.obl]at ho;obtain⟨h1,h2⟩:=ho;have hr:=Al he hx hp h1;split at h2
 ·rename_i b hv
  rw[hv]at hr;have hb:=hr.aF.bk;refine .mk' hs (v:=.bool (!b)) (by simp[execOp,hm,hb,Op.unary]) ?_ trivial;simp only[FOp.val,hv];exact .c _ _ (.bool _)
 ·exact h2.elim
theorem PQ {α:Type}(l:List α)(i j:Nat):(l.drop i)[j]? = l[i+j]?:=by simp[Js]
theorem Xu {off:Nat}{x:Opd}{x':Operand}{s:TypeId}{k:Nat}{fs:Array Field}{f:Field}{i:TypeInfo}(hm:o.op=.fieldAddr s x' k)(hu:P.underlying s=some (.struct fs))
  (hf:fs[k]? = some f) (kX:f.offset=off) (hi:P.info? f.type=some i) (hz:i.size≠0) (hx:mO x x'=true)
  (hs:Sat H g w) (he:EnvOk w g e a) (hp:p=true) (ho:(FOp.fad off x).obl p e H):FOk P H g w e a o (.fad off x):=by
 simp only[FOp.obl]at ho;obtain⟨h1,h2⟩:=ho;have hr:=Al he hx hp h1;have run:∀b q,a.eval x'=.pointer (some ⟨b,q,none⟩)→(execOp a.eval o).run P w=.ok (.value (.pointer (some ⟨b,q+off,none⟩))) w:=by
  intro b q hq;simp[execOp,hm,hq,Instr.fieldAt,Aq hu,hf,Instr.sureAddr,fieldPlace,Bs hi,hz,BL,kX]
 generalize hq:a.eval x'=vv at hr;split at h2
 ·rename_i cells hv
  rw[hv]at hr
  cases hr.aF with
  |pp _ b q val ci hc kf=>
   refine .mk' hs (run b q hq) ?_ trivial;simp only[FOp.val,hv,V.c1,fadC];refine .c _ _ (.pp _ b (q+off) (fun j=>val (off+j)) ci (fun j c hj=>?_) (fun j c hj=>?_))
   ·rw[PQ]at hj;rw[Jat];exact hc _ _ hj
   ·rw[PQ]at hj;exact kf _ _ hj
 ·rename_i l kk hv
  rw[hv]at hr
  cases hr.aF with
  |ptr _ _ b sz base bI=>
   refine .mk' hs (run b _ hq) ?_ trivial;simp only[FOp.val,hv,V.c1,fadC];rw[Jat];exact .c _ _ (.ptr _ _ b sz base bI)
 ·rename_i sl sz ii kk hv
  rw[hv]at hr
  cases hr.aF with
  |ep _ _ _ _ b q n cap cE bF gM=>
   refine .mk' hs (run b _ hq) ?_ trivial;simp only[FOp.val,hv,V.c1,fadC];rw[Jat];exact .c _ _ (.ep _ _ _ _ b q n cap cE bF gM)
 ·exact h2.elim
theorem Qblh {v:V}(h:Bz v):v=.c (.int .i64 (Q8 v)):=by
 unfold Bz at h;split at h
 ·subst h;rfl
 ·exact h.elim
theorem Qblj {v:V}(h:D6 v):∃k,v=.c (.int k (Q8 v)):=by
 unfold D6 at h;split at h
 ·exact⟨_,rfl⟩
 ·exact h.elim
theorem CC {x:Opd}{y:Operand}(he:EnvOk w g e a)(h:mO x y=true)(hp:p=true)(hf:x.fine p e)(hi:Bz (x.v e)) :
  a.eval y=.int .i64 (Q8 (x.v e)):=by
 have hr:=Al he h hp hf;rw[Qblh hi]at hr;exact hr.aF.aB
theorem Xr {sz:Nat}{x y:Opd}{x' y':Operand}{t el:TypeId}{i:TypeInfo}(hm:o.op=.indexAddr t x' y')(hu:P.underlying t=some (.slice el))
  (hi:P.info? el=some i) (hz:i.size=sz) (hx:mO x x'=true) (hy:mO y y'=true)
  (hs:Sat H g w) (he:EnvOk w g e a) (hp:p=true) (ho:(FOp.iad sz x y).obl p e H):FOk P H g w e a o (.iad sz x y):=by
 simp only[FOp.obl]at ho;obtain⟨h1,h2,h3,h4,h5,h6,h7,h8⟩:=ho;have hr:=Al he hx hp h1;have hn:=CC he hy hp h2 h6;rw[Br h3]at hr;obtain⟨b0,cap,hv,r1,r2,r3,r4⟩:=G7 hs hr.aF h4;obtain⟨b,off,rfl,r5⟩:=r4 ZT;refine .mk' hs (v:=.pointer (some ⟨b,off+(Q8 (y.v e)).toNat * sz+0,none⟩)) ?_ ?_ trivial
 ·simp only[execOp,hm,hv,hn,Instr.indexAt,Sem.run_bind,asIntOf,Sem.run_pure,Result.andThen_ok,Aq hu];rw[if_pos ⟨h7,ZT⟩];simp[Bs hi,hz,BL]
 ·simp only[FOp.val];refine .c _ _ (.ep _ _ _ _ b off (a9 (x.v e).c1) cap ?_ h5 h8);rw[←hv];exact hr.aF
theorem KB (f:Nat→Value)(n j:Nat)(u:Value)(h:(((List.range n).map f))[j]? = some u):j<n∧u=f j:=by
 simp only[Jj]at h
 cases hj:(List.range n)[j]? with
 |none=>rw[hj]at h;simp at h
 |some m=>
  rw[hj]at h;rw[Jan]at hj;obtain⟨h1,h2⟩:=hj;simp only[List.getElem_range]at h2;subst h2;simp only[Ja6]at h1;simp at h;exact⟨h1,h.symm⟩
theorem IH {cs:List C}(h:ai cs=true){j:Nat}{c:C}(hj:cs[j]? = some c):c.ah=false:=by
 unfold ai at h;rw[J5]at h;have:=h c (Ji hj);simpa using this
theorem RC {n:Nat}{agg:Bool}{x:Opd}{x':Operand}{t:TypeId}{d:TypeDesc}{i:TypeInfo}(hm:o.op=.load t x')(hu:P.underlying t=some d)(hi:P.info? t=some i)
  (ha:BO d=agg) (hn:agg=true→i.size=n) (eM:agg=false→n=1) (hx:mO x x'=true)
  (hs:Sat H g w) (he:EnvOk w g e a) (hp:p=true) (ho:(FOp.ld n agg x).obl p e H):∃v,(execOp a.eval o).run P w=.ok (.value v) w∧RepV w g ((FOp.ld n agg x).val e H) v:=by
 simp only[FOp.obl]at ho;obtain⟨h1,h2,h3,h4,h5⟩:=ho;have hr:=Al he hx hp h1;rw[Br h2]at hr;obtain⟨b,q,hv,hc⟩:=Mi hs hr.aF h3;have ca:∀j,j<n→∃c,(Cg H (x.v e).c1)[j]? = some c∧w.cell? ⟨b,q+j,none⟩=some (getV w b q j)∧RepC w g c (getV w b q j):=by
  intro j hj;have cY:j<(Cg H (x.v e).c1).length:=ZT
  have hg:(Cg H (x.v e).c1)[j]? = some (Cg H (x.v e).c1)[j]:=Jd cY;have hw:((Cg H (x.v e).c1)[j]).ah=false:=IH h5 (j:=j) (by rw[Jn,if_pos hj];exact hg);obtain⟨u,e1,e2⟩:=hc j _ hg hw;refine⟨_,hg,?_,?_⟩
  ·rw[getV,e1];rfl
  ·rw[getV,e1];exact e2
 have bX:=FK (t:=t) hu hi w b q n (getV w b q) (fun h=>hn (ha▸h)) (fun h=>eM (ha▸h)) (fun j hj=>(ca j hj).choose_spec.2.1);refine⟨if BO d then .agg ((List.range n).map (getV w b q)).toArray else getV w b q 0,?_,?_⟩
 ·simp only[execOp,hm,hv,Instr.loadAt,Instr.sureAddr,Sem.run_bind,Sem.run_pure,Result.andThen_ok,bX]
 ·simp only[FOp.val,Cd];rw[ha]
  cases agg with
  |true=>
   simp only[if_true];refine .ag _ _ Zac fun j c u hj cU=>?_;obtain⟨tw,rfl⟩:=KB _ _ _ _ cU;obtain⟨c',e1,e2,e3⟩:=ca j tw;rw[Jn,if_pos tw,e1]at hj;simp at hj;subst hj;exact e3
  |false=>
   have rx:=eM rfl;subst rx;obtain⟨c',e1,e2,e3⟩:=ca 0 ZT;simp only[Jy,if_false];have:((Cg H (x.v e).c1).take 1).headD .unk=c':=by
    cases hb:Cg H (x.v e).c1 with
    |nil=>rw[hb]at e1;simp at e1
    |cons c r=>rw[hb]at e1;simp at e1;simp[e1]
   rw[this];exact .c _ _ e3
theorem s_ld {n:Nat}{agg:Bool}{x:Opd}{x':Operand}{t:TypeId}{d:TypeDesc}{i:TypeInfo}(hm:o.op=.load t x')(hu:P.underlying t=some d)(hi:P.info? t=some i)
  (ha:BO d=agg) (hn:agg=true→i.size=n) (eM:agg=false→n=1) (hx:mO x x'=true)
  (hs:Sat H g w) (he:EnvOk w g e a) (hp:p=true) (ho:(FOp.ld n agg x).obl p e H):FOk P H g w e a o (.ld n agg x):=by
 obtain⟨v,h1,h2⟩:=RC hm hu hi ha hn eM hx hs he hp ho;exact .mk' hs h1 h2 trivial
theorem Xj {x:Opd}{x':Operand}(hm:o.op=.nilCheck x')(hx:mO x x'=true)
  (hs:Sat H g w) (he:EnvOk w g e a) (hp:p=true) (ho:(FOp.nck x).obl p e H):FOk P H g w e a o (.nck x):=by
 simp only[FOp.obl]at ho;obtain⟨h1,h2⟩:=ho;have hr:=Al he hx hp h1;have mA:(x.v e).isC→(x.v e).c1.isPtr=true→FOk P H g w e a o (.nck x):=by
  intro hc hq;have bx:=hr;rw[Br hc]at bx;obtain⟨b,q,hv⟩:=bx.aF.ptr_inv hq;exact .mk' hs (v:=a.eval x') (by simp[execOp,hm,hv]) hr trivial
 split at h2
 ·rename_i hv;exact mA (by rw[hv];trivial) (by rw[hv];rfl)
 ·rename_i hv;exact mA (by rw[hv];trivial) (by rw[hv];rfl)
 ·rename_i hv;exact mA (by rw[hv];trivial) (by rw[hv];rfl)
 ·rename_i hv
  have bx:=hr;rw[hv]at bx;obtain⟨vs,hq,_⟩:=bx.aF.fn_inv;exact .mk' hs (v:=a.eval x') (by simp[execOp,hm,hq]) hr trivial
 ·exact h2.elim
theorem Xm {x:Opd}{x':Operand}{t el:TypeId}{ats:Array TypeId}(hm:o.op=.call { callee:=.builtin .len,args:=#[x'],argTypes:=ats })(lL:ats[0]? = some t)
  (hu:P.underlying t=some (.slice el)) (hx:mO x x'=true)
  (hs:Sat H g w) (he:EnvOk w g e a) (hp:p=true) (ho:(FOp.len x).obl p e H):FOk P H g w e a o (.len x):=by
 simp only[FOp.obl]at ho;obtain⟨h1,h2,h3⟩:=ho;have hr:=Al he hx hp h1;rw[Br h2]at hr;obtain⟨b0,cap,hv,r1,r2,r3,r4⟩:=G7 hs hr.aF h3;refine .mk' hs (v:=.int .i64 (a9 (x.v e).c1)) ?_ (.c _ _ (.int _ _)) r1;simp[execOp,hm,resolve,invoke,builtin,Builtin.len_,lL,hv,Aq hu,goInt]
theorem s_lenx {x:Opd}{x':Operand}{t el:TypeId}{ats:Array TypeId}(hm:o.op=.call { callee:=.builtin .len,args:=#[x'],argTypes:=ats })(lL:ats[0]? = some t)
  (hu:P.underlying t=some (.slice el)) (hx:mO x x'=true)
  (hs:Sat H g w) (he:EnvOk w g e a) (hp:p=true) (ho:(FOp.lenx x).obl p e H):FOk P H g w e a o (.lenx x):=by
 simp only[FOp.obl]at ho;obtain⟨h1,h2,h3⟩:=ho;have hr:=Al he hx hp h1;rw[Br h2]at hr;have key:∃(b0:Option Addr) (cap:Nat),a.eval x'=.slice b0 (lenX (x.v e).c1) cap∧lenX (x.v e).c1<2 ^ 63:=by
  rcases h3 with h3|h3
  ·obtain⟨b0,cap,hv,r1,r2,r3,r4⟩:=G7 hs hr.aF h3;have:lenX (x.v e).c1=a9 (x.v e).c1:=by
    generalize (x.v e).c1=c at h3;cases c <;> first|rfl|simp[aT]at h3
   rw[this];exact⟨b0,cap,hv,by rw[Ch]at r1;omega⟩
  ·have fF:=hr.aF;generalize (x.v e).c1=c at h3 fF⊢;generalize a.eval x'=xv at fF⊢
   cases fF with
   |slb n a0 cap h=>exact⟨_,_,rfl,h⟩
   |_=>simp[Ij]at h3
 obtain⟨b0,cap,hv,hl⟩:=key;refine .mk' hs (v:=.int .i64 (lenX (x.v e).c1)) ?_ (.c _ _ (.int _ _)) hl;simp[execOp,hm,resolve,invoke,builtin,Builtin.len_,lL,hv,Aq hu,goInt]
theorem Ys {x:Opd}{x':Operand}{t:TypeId}{ats:Array TypeId}(hm:o.op=.call { callee:=.builtin .len,args:=#[x'],argTypes:=ats })(lL:ats[0]? = some t)
  (hu:P.underlying t=some .string) (hx:mO x x'=true)
  (hs:Sat H g w) (he:EnvOk w g e a) (hp:p=true) (ho:(FOp.lens x).obl p e H):FOk P H g w e a o (.lens x):=by
 simp only[FOp.obl]at ho;obtain⟨h1,h2⟩:=ho;have hr:=Al he hx hp h1;split at h2
 ·rename_i s hv
  rw[hv]at hr;obtain⟨hq,hl⟩:=hr.aF.str_inv;refine .mk' hs (v:=.int .i64 s.length) ?_ Zaw (by simp only[FOp.fct,hv];exact hl);simp[execOp,hm,resolve,invoke,builtin,Builtin.len_,lL,hq,Aq hu,goInt,DE]
 ·exact h2.elim
theorem s_lensx {x:Opd}{x':Operand}{t:TypeId}{ats:Array TypeId}(hm:o.op=.call { callee:=.builtin .len,args:=#[x'],argTypes:=ats })(lL:ats[0]? = some t)
  (hu:P.underlying t=some .string) (hx:mO x x'=true)
  (hs:Sat H g w) (he:EnvOk w g e a) (hp:p=true) (ho:(FOp.lensx x).obl p e H):FOk P H g w e a o (.lensx x):=by
 simp only[FOp.obl]at ho;obtain⟨h1,h2⟩:=ho;have hr:=Al he hx hp h1;split at h2
 ·rename_i s hv
  rw[hv]at hr;obtain⟨hq,hl⟩:=hr.aF.str_inv;refine .mk' hs (v:=.int .i64 s.length) ?_ Zaw (by simp only[FOp.fct,hv];exact hl);simp[execOp,hm,resolve,invoke,builtin,Builtin.len_,lL,hq,Aq hu,goInt,DE]
 ·rename_i n hv
  rw[hv]at hr;have fF:=hr.aF;generalize hq:a.eval x'=xv at fF
  cases fF with
  |stb s h=>
   refine .mk' hs (v:=.int .i64 s.size) ?_ Zaw (by simp only[FOp.fct,hv];exact h);simp[execOp,hm,resolve,invoke,builtin,Builtin.len_,lL,hq,Aq hu,goInt]
 ·exact h2.elim
theorem Fp {agg:Bool}{ks:List C}{rows:List (List C)}{v:Value}(h:RepC w g (.cm agg ks rows) v):∃b ms clock,v=.map (some b)∧w.heap[b]? = some (.map ms clock)∧ms.size=(A4 H (.cm agg ks rows)).length∧(A4 H (.cm agg ks rows)).length≤LIM∧
   (∀(i:Nat) (x:C×V) (m:MapEntry),(A4 H (.cm agg ks rows))[i]? = some x→ms[i]? = some m→RepE w g x m)∧
   (∀(i j:Nat) (m m':MapEntry),ms[i]? = some m→ms[j]? = some m'→(m.born=m'.born∨m.key=m'.key)→i=j):=by
 cases h with
 |cm _ _ _ b ms clock val hp hb aO co hl hd hm hk hv=>
  have aM:(A4 H (.cm agg ks rows)).length=ks.length:=by simp[A4];omega
  refine⟨b,ms,clock,rfl,hb,by rw[aM];exact aO,by rw[aM];exact hl,fun i x m h1 h2=>?_,hd⟩;simp only[A4,Jj]at h1;obtain⟨e,he,rfl⟩:=Option.map_eq_some_iff.1 h1;obtain⟨e1,e2⟩:=Jao.1 he;refine⟨hk i _ m e1 h2,?_⟩;obtain⟨k1,k2⟩:=hm i _ m e2 h2;obtain⟨ec,er⟩:=e;simp only at e1 e2 k1 k2⊢
  cases agg with
  |true=>
   simp only[if_true]at k1;rw[k1];refine .ag _ _ ZV fun j c u h3 h4=>?_;obtain⟨_,rfl⟩:=KB _ _ _ _ h4;exact hv i _ j c e2 h3
  |false=>
   have iR:=k2 rfl
   match er,iR with
   |[c],_=>
    simp only[Jy,if_false]at k1;rw[k1];exact .c _ _ (hv i _ 0 c e2 rfl)
theorem map_rep (hs:Sat H g w){c:C}{v:Value}(h:RepC w g c v)(ho:Bp H c) :
  (v=.map none∧A4 H c=[])∨∃b ms clock,v=.map (some b)∧w.heap[b]? = some (.map ms clock)∧ms.size=(A4 H c).length∧(A4 H c).length≤LIM∧
   ∀(i:Nat) (x:C×V) (m:MapEntry),(A4 H c)[i]? = some x→ms[i]? = some m→RepE w g x m:=by
 have h0:=h
 cases h with
 |mp l b bI=>
  simp only[Bp]at ho;split at ho
  ·rename_i n es hH
   have bC:=hs.objs l;rw[hH]at bC;obtain⟨b',ms,clock,k1,k2,k3,k4,k5,k6,_⟩:=bC;rw[bI]at k1;simp only[Jb,Jk,and_true]at k1;subst k1;simp only[A4,hH];exact .inr ⟨b,ms,clock,rfl,k3,k4,k5,k6⟩
  ·exact ho.elim
 |mnil=>exact .inl ⟨rfl,rfl⟩
 |cm=>
  obtain⟨b,ms,clock,q1,q2,q3,q4,q5,_⟩:=Fp (H:=H) h0;exact .inr ⟨b,ms,clock,q1,q2,q3,q4,q5⟩
 |_=>simp[Bp]at ho
theorem Xv {x:Opd}{x':Operand}{i:Nat}(hm:o.op=.extract x' i)(hx:mO x x'=true)
  (hs:Sat H g w) (he:EnvOk w g e a) (hp:p=true) (ho:(FOp.ext x i).obl p e H):FOk P H g w e a o (.ext x i):=by
 simp only[FOp.obl]at ho;obtain⟨h1,h2⟩:=ho;have hr:=Al he hx hp h1;split at h2
 ·rename_i xs hv
  rw[hv]at hr;obtain⟨vs,hq,hl,hh⟩:=hr.tup_inv;have hi:i<vs.length:=ZT
  refine .mk' hs (v:=vs[i]) ?_ ?_ trivial
  ·simp[execOp,hm,Instr.extract,hq,hi]
  ·simp only[FOp.val,hv];refine hh i _ _ ?_ (Jd hi);rw[Jv,Jd h2];rfl
 ·exact h2.elim
theorem Xw {x:Opd}{x':Operand}{k:IntKind}{src dst:TypeId}{d:TypeDesc}(hm:o.op=.convert src dst x')(hu:P.underlying dst=some (.int k))(cU:P.underlying src=some d)(hx:mO x x'=true)
  (hs:Sat H g w) (he:EnvOk w g e a) (hp:p=true) (ho:(FOp.cvt k x).obl p e H):FOk P H g w e a o (.cvt k x):=by
 simp only[FOp.obl]at ho;obtain⟨h1,h2,h3⟩:=ho;have hr:=Al he hx hp h1;obtain⟨k',hk⟩:=Qblj h2;rw[hk]at hr;have hq:=hr.aF.aB;refine .mk' hs (v:=.int k (Q8 (x.v e))) ?_ (.c _ _ (.int _ _)) trivial;simp[execOp,hm,hq,convert,Aq hu,Aq cU,Conv.intToInt,CU h3]
theorem s_mx {x y:Opd}{x' y':Operand}{ats:Array TypeId}(hm:o.op=.call { callee:=.builtin .max,args:=#[x',y'],argTypes:=ats })(hx:mO x x'=true)(hy:mO y y'=true)
  (hs:Sat H g w) (he:EnvOk w g e a) (hp:p=true) (ho:(FOp.mx x y).obl p e H):FOk P H g w e a o (.mx x y):=by
 simp only[FOp.obl]at ho;obtain⟨h1,h2,h3,h4⟩:=ho;have q1:=CC he hx hp h1 h3;have q2:=CC he hy hp h2 h4;refine .mk' hs (v:=.int .i64 (if Q8 (y.v e) > Q8 (x.v e)then Q8 (y.v e)else Q8 (x.v e))) ?_ (.c _ _ (.int _ _)) trivial;simp[execOp,hm,resolve,invoke,builtin,Builtin.max_,q1,q2,Builtin.max2]
theorem s_mn {x y:Opd}{x' y':Operand}{ats:Array TypeId}(hm:o.op=.call { callee:=.builtin .min,args:=#[x',y'],argTypes:=ats })(hx:mO x x'=true)(hy:mO y y'=true)
  (hs:Sat H g w) (he:EnvOk w g e a) (hp:p=true) (ho:(FOp.mn x y).obl p e H):FOk P H g w e a o (.mn x y):=by
 simp only[FOp.obl]at ho;obtain⟨h1,h2,h3,h4⟩:=ho;have q1:=CC he hx hp h1 h3;have q2:=CC he hy hp h2 h4;refine .mk' hs (v:=.int .i64 (if Q8 (y.v e)<Q8 (x.v e)then Q8 (y.v e)else Q8 (x.v e))) ?_ (.c _ _ (.int _ _)) trivial;simp[execOp,hm,resolve,invoke,builtin,Builtin.min_,q1,q2,Builtin.min2]
theorem Xp {x y:Opd}{x' y':Operand}{t:TypeId}(hm:o.op=.index t x' y')(hu:P.underlying t=some .string)(hx:mO x x'=true)(hy:mO y y'=true)
  (hs:Sat H g w) (he:EnvOk w g e a) (hp:p=true) (ho:(FOp.idx x y).obl p e H):FOk P H g w e a o (.idx x y):=by
 simp only[FOp.obl]at ho;obtain⟨h1,h2,h3,h4⟩:=ho;have hr:=Al he hx hp h1;have q2:=CC he hy hp h2 h3;split at h4
 ·rename_i s hv
  rw[hv]at hr;obtain⟨hq,hl⟩:=hr.aF.str_inv;refine .mk' hs (v:=.int .u8 ((s.getD (Q8 (y.v e)).toNat 0).toNat)) ?_ Zaw trivial;have hb:(⟨s.toArray⟩:ByteArray)[(Q8 (y.v e)).toNat]? = some (s.getD (Q8 (y.v e)).toNat 0):=by
   rw[getElem?_pos _ _ (by simpa[ByteArray.size]using h4.2)];rw[Jv,Jd h4.2];rfl
  simp only[execOp,hm,hq,q2,Instr.index,Sem.run_bind,asIntOf,Sem.run_pure,Result.andThen_ok,Aq hu,if_pos h4.1,hb]
 ·exact h4.elim
def Cp (g:G)(w:World)(g':G)(w':World)(l:Nat):Prop:=
 ∀b q,g.own b=some (l,q)→g'.own b=some (l,q)∧w'.heap[b]? = w.heap[b]?
theorem RepE.mono {g':G}{w':World}(aE:Le g w g' w'){x:C×V}{m:MapEntry}(h:RepE w g x m):RepE w' g' x m:=⟨h.1.mono aE,h.2.mono aE⟩
theorem SatObj.keep {H':Heap}{g':G}{w':World}(hs:Sat H g w)(aE:Le g w g' w'){l:Nat}(hk:Cp g w g' w' l)(hH:H' l=H l)
  (oY:∀m v left cur,H l=.iter (some (m,v)) left cur→∀v' es,H' m=.map v' es→(H m=.map v' es∧Cp g w g' w' m)∨∃v0 es0,H m=.map v0 es0∧v0<v') :
  SatObj H' g' w' l (H' l):=by
 have ho:=hs.objs l;rw[hH]
 cases hc:H l with
 |none=>exact trivial
 |st cells=>
  rw[hc]at ho;obtain⟨b,sz,T,cs,h1,h2,h3,h4,h5⟩:=ho;have k0:=hk b [] h2;refine⟨b,sz,T,cs,aE.io _ _ h1,k0.1,k0.2.trans h3,h4,fun k c v e1 e2=>?_⟩;exact (h5 k c v e1 e2).move aE fun q b' hb=>hk b' _ hb
 |vec sz rows=>
  rw[hc]at ho;rcases ho with ⟨q1,x,q2,q3⟩|⟨b,base,T,cs,val,h1,h2,h3,h4,h5,h6,h7,h8⟩
  ·exact .inl ⟨q1,x,aE.io _ _ q2,q3⟩
  have k0:=hk b [] h2;refine .inr ⟨b,base,T,cs,val,aE.io _ _ h1,k0.1,k0.2.trans h3,h4,h5,h6,h7,fun i row j c e1 e2=>?_⟩;exact (h8 i row j c e1 e2).move aE fun q b' hb=>hk b' _ hb
 |map v es=>
  rw[hc]at ho;obtain⟨b,ms,clock,h1,h2,h3,h4,h5,h6,h7,h8⟩:=ho;have k0:=hk b [] h2;exact⟨b,ms,clock,aE.io _ _ h1,k0.1,k0.2.trans h3,h4,h5,fun i x m e1 e2=>(h6 i x m e1 e2).mono aE,h7,h8⟩
 |gl b cells=>
  rw[hc]at ho;obtain⟨sz,val,h1,h2,h3,h4⟩:=ho;refine⟨sz,val,aE.io _ _ h1,(aE.per b h2).1,fun j c e=>?_,fun j c e=>(h4 j c e).mono aE⟩;rw[SJ (w:=w) (aE.per b h2).2];exact h3 j c e
 |sit s q=>
  rw[hc]at ho;obtain⟨b,h1,h2,h3,h4⟩:=ho;have k0:=hk b [] h2;exact⟨b,aE.io _ _ h1,k0.1,k0.2.trans h3,h4⟩
 |iter m left cur=>
  rw[hc]at ho
  cases m with
  |none=>
   obtain⟨b,si,se,la,h1,h2,h3,h4⟩:=ho;have k0:=hk b [] h2;exact⟨b,si,se,la,aE.io _ _ h1,k0.1,k0.2.trans h3,h4⟩
  |some mv=>
   obtain⟨m,ver⟩:=mv;obtain⟨b,mb,si,se,h1,h2,h3,h4,h5⟩:=ho;have k0:=hk b [] h2;refine⟨b,mb,si,se,aE.io _ _ h1,k0.1,k0.2.trans h3,aE.io _ _ h4,fun v es hv=>?_⟩;rcases oY m ver left cur hc v es hv with ⟨a1,a2⟩|⟨v0,es0,a1,a2⟩
   ·obtain⟨b1,b2⟩:=h5 v es a1;refine⟨b1,fun kf=>?_⟩;obtain⟨ms,c1,c2⟩:=b2 kf;refine⟨ms,?_,c2⟩;have hm:=hs.objs m;rw[a1]at hm;obtain⟨mb',ms',clock,d1,d2,d3,_⟩:=hm;rw[h4]at d1;simp only[Jb,Jk,and_true]at d1;subst d1;rw[(a2 mb [] d2).2];exact c1
   ·obtain⟨b1,b2⟩:=h5 v0 es0 a1;exact⟨ZT,fun kf=>ZT⟩
theorem SatObj.keep_all {g':G}{w':World}(hs:Sat H g w)(aE:Le g w g' w')(hk:∀l,Cp g w g' w' l)(l:Nat):SatObj H g' w' l (H l):=
 SatObj.keep (H':=H) hs aE (hk l) rfl fun m v left cur _ v' es hv=>.inl ⟨hv,hk m⟩
theorem BV (hs:Sat H g w){b:Nat}{x:Nat×List Nat}(h:g.own b=some x):b<w.heap.size:=by
 rcases Jg b w.heap.size with h'|h'
 ·exact h'
 ·rw[(hs.fresh b h').2]at h;simp at h
theorem Fh (hs:Sat H g w){b:Nat}(h:g.per b=true):b<w.heap.size:=by
 rcases Jg b w.heap.size with h'|h'
 ·exact h'
 ·rw[(hs.fresh b h').1]at h;simp at h
theorem Di (w:World)(x:Go.Obj){b:Nat}(h:b<w.heap.size):(w.alloc x).heap[b]? = w.heap[b]?:=by
 simp only[World.alloc,J7];rw[if_neg ZT]
theorem Cl (w:World)(x:Go.Obj):(w.alloc x).heap[w.heap.size]? = some x:=by
 simp only[World.alloc,J7,if_true]
theorem Ft {w:World}{b:Nat}{T:TypeId}{n:Nat}(h:w.shape? b=some (T,n)):b<w.heap.size:=by
 unfold World.shape? at h;rcases Jg b w.heap.size with h'|h'
 ·exact h'
 ·simp[Jl h']at h
theorem S9 {w w':World}{b:Nat}(h:w'.heap[b]? = w.heap[b]?):w'.shape? b=w.shape? b:=by simp only[World.shape?,h]
def G.newPer (g:G)(nb:Nat):G:={ g with per:=fun b=>if b=nb then true else g.per b }
theorem KX (hs:Sat H g w)(x:Go.Obj):Stp H g w H (g.newPer w.heap.size) (w.alloc x):=by
 have aE:Le g w (g.newPer w.heap.size) (w.alloc x):=by
  refine⟨fun b hb=>⟨?_,Di _ _ (Fh hs hb)⟩,fun _ _ h=>h,ZV,fun b T n hn=>?_,rfl,rfl,rfl⟩
  ·simp only[G.newPer];split
   ·rfl
   ·exact hb
  ·rw[S9 (Di _ _ (Ft hn))];exact hn
 have hk:∀l,Cp g w (g.newPer w.heap.size) (w.alloc x) l:=fun l b q hb=>⟨hb,Di _ _ (BV hs hb)⟩;refine⟨aE,fun l _ hn=>⟨hn,fun b q hb=>hk l b q hb⟩,⟨fun b hb=>?_,hs.names,fun b y hb=>?_,hs.named,fun l=>SatObj.keep_all hs aE hk l⟩⟩
 ·simp only[World.size_alloc]at hb;refine⟨?_,(hs.fresh b ZT).2⟩;simp only[G.newPer];rw[if_neg ZT];exact (hs.fresh b ZT).1
 ·have br:g.own b=some y:=hb;simp only[G.newPer];have:=BV hs br;rw[if_neg ZT];exact hs.excl b y br
theorem Pw (hs:Sat H g w):Stp H g w H g w.drew:=by
 have aE:Le g w g w.drew:=⟨fun _ h=>⟨h,rfl⟩,fun _ _ h=>h,Jz _,fun _ _ _ h=>h,rfl,rfl,rfl⟩;have hk:∀l,Cp g w g w.drew l:=fun l b q hb=>⟨hb,rfl⟩;exact⟨aE,fun l _ hn=>⟨hn,fun b q hb=>hk l b q hb⟩,⟨hs.fresh,hs.names,hs.excl,hs.named,fun l=>SatObj.keep_all hs aE hk l⟩⟩
theorem NM (w:World)(cs:Array Value)(T:TypeId)(j:Nat):(w.alloc (.cells cs T)).cell? ⟨w.heap.size,j,none⟩=cs[j]?:=
 World.cell?_alloc_new w cs T j
theorem FS {v:V}{u:Value}(h:RepV w g v u)(hn:v.cells≠[]) :
  u.cells.size=v.cells.length∧∀(j:Nat) (c:C) (x:Value),v.cells[j]? = some c→u.cells[j]? = some x→RepC w g c x:=by
 cases h with
 |c x v h=>
  have h1:=h.one;have hu:u.cells=#[u]:=by cases u <;> simp_all[Value.cells,Value.oneCell']
  rw[hu];refine⟨rfl,fun j c y e1 e2=>?_⟩
  cases j with
  |zero=>simp[V.cells]at e1 e2;subst e1;subst e2;exact h
  |succ j=>simp[V.cells]at e1
 |ag cs vs hl hh=>
  refine⟨by simpa[Value.cells,V.cells]using hl,fun j c y e1 e2=>hh j c y e1 (by simpa[Value.cells]using e2)⟩
 |_=>simp[V.cells]at hn
theorem Xy {x:Opd}{x':Operand}{t:TypeId}(hm:o.op=.box t x')(hx:mO x x'=true)
  (hs:Sat H g w) (he:EnvOk w g e a) (hp:p=true) (ho:(FOp.box x).obl p e H):FOk P H g w e a o (.box x):=by
 simp only[FOp.obl]at ho;obtain⟨h1,h2⟩:=ho;have hr:=Al he hx hp h1;obtain⟨hz,hc⟩:=FS hr h2;have aC:=KX hs (.cells (a.eval x').cells t);refine⟨.pointer (some ⟨w.heap.size,0,none⟩),w.alloc (.cells (a.eval x').cells t),g.newPer w.heap.size,?_,aC,?_,trivial⟩
 ·simp[execOp,hm,Instr.box,newVar,newRow]
 ·simp only[FOp.val];have bm:∀(j:Nat) (c:C),(x.v e).cells[j]? = some c→∃y,(a.eval x').cells[j]? = some y∧RepC w g c y:=by
   intro j c hj;have af:j<(a.eval x').cells.size:=by
    rw[hz];rcases Jg j (x.v e).cells.length with h|h
    ·exact h
    ·rw[Jc h]at hj;simp at hj
   exact⟨_,Jf af,hc j c _ hj (Jf af)⟩
  refine .c _ _ (.pp _ _ 0 (fun j=>(a.eval x').cells.getD j undef) (by simp[G.newPer]) (fun j c hj=>?_) (fun j c hj=>?_))
  ·obtain⟨y,e1,e2⟩:=bm j c hj;rw[J2,NM];simp[e1]
  ·obtain⟨y,e1,e2⟩:=bm j c hj;simp only[Je,e1,Ju];exact e2.mono aC.le
theorem Xk {f:Nat}{caps:List Opd}{caps':Array Operand}(hm:o.op=.makeFunc (.func f) #[] caps')(hl:caps.length=caps'.size)
  (hx:∀(j:Nat) (x:Opd) (y:Operand),caps[j]? = some x→caps'[j]? = some y→mO x y=true)
  (hs:Sat H g w) (he:EnvOk w g e a) (hp:p=true) (ho:(FOp.mkf f caps).obl p e H):FOk P H g w e a o (.mkf f caps):=by
 simp only[FOp.obl]at ho;refine .mk' hs (v:=.func (.func f) #[] (caps'.toList.map a.eval).toArray) ?_ ?_ trivial
 ·simp only[execOp,hm,Instr.makeFunc,Sem.run_bind,Sem.run_pure,Result.andThen_ok];congr 4 <;> (apply Jab;simp)
 ·simp only[FOp.val];refine .c _ _ (.fn f _ _ (by simp[hl]) fun j c u h1 h2=>?_);simp only[Jj]at h1 h2
  cases hj:caps[j]? with
  |none=>rw[hj]at h1;simp at h1
  |some x=>
   rw[hj]at h1;simp at h1;subst h1
   cases cY:caps'[j]? with
   |none=>simp[cY]at h2
   |some y=>
    simp[cY]at h2;subst h2;obtain⟨f1,f2⟩:=ho x (Ji hj);have:=Al he (hx j x y hj cY) hp f1;rw[Br f2]at this;exact this.aF
def mOpt:Option Opd→Option Operand→Bool
 |none,none=>true
 |some x,some y=>mO x y
 |_,_=>false
theorem CW (he:EnvOk w g e a)(hp:p=true){x:Option Opd}{y:Option Operand}(h:mOpt x y=true)(hf:optF p x e)(hi:optI x e) :
  y.map a.eval=(x.map fun z=>Q8 (z.v e)).map fun n=>Value.int .i64 n:=by
 cases x with
 |none=>cases y with
  |none=>rfl
  |some _=>simp[mOpt]at h
 |some x=>cases y with
  |none=>simp[mOpt]at h
  |some y=>
   simp only[mOpt]at h;simp only[optF]at hf;simp only[optI]at hi;simp only[Jr,CC he h hp hf hi]
theorem TH (isS:Bool)(len cap:Nat)(lo hi:Option Int)(pX:len≤cap)(hb:bnds lo hi len)(w:World) :
  (Instr.sliceBounds isS len cap (lo.map fun n=>Value.int .i64 n) (hi.map fun n=>Value.int .i64 n) none).run P w=.ok ((lo.getD 0).toNat,(hi.getD len).toNat,cap) w:=by
 obtain⟨b1,b2,b3⟩:=hb;unfold Instr.sliceBounds
 cases hi with
 |none=>
  cases lo with
  |none=>simp
  |some l=>
   simp only[Ju,J0]at b1 b2 b3;simp only[Jr,J6,Sem.run_bind,Instr.sliceBound,asIntOf,Sem.run_pure,Result.andThen_ok];rw[if_pos ZT];simp
 |some h=>
  cases lo with
  |none=>
   simp only[Ju,J0]at b1 b2 b3;simp only[Jr,J6,Sem.run_bind,Instr.sliceBound,asIntOf,Sem.run_pure,Result.andThen_ok];rw[if_pos ZT];simp
  |some l=>
   simp only[Ju]at b1 b2 b3;simp only[Jr,Sem.run_bind,Instr.sliceBound,asIntOf,Sem.run_pure,Result.andThen_ok];rw[if_pos ZT];simp only[Sem.run_pure,Result.andThen_ok];rw[if_pos ZT];simp
theorem Xh {x:Opd}{lo hi:Option Opd}{x':Operand}{lo' eO:Option Operand}{t el:TypeId}{i:TypeInfo}{sz:Nat}(hm:o.op=.slice t x' lo' eO none)(hu:P.underlying t=some (.slice el))
  (lF:P.info? el=some i) (hz:i.size=sz) (hx:mO x x'=true) (rB:mOpt lo lo'=true) (pb:mOpt hi eO=true)
  (hs:Sat H g w) (he:EnvOk w g e a) (hp:p=true) (ho:(FOp.sli sz x lo hi).obl p e H):FOk P H g w e a o (.sli sz x lo hi):=by
 simp only[FOp.obl]at ho;obtain⟨h1,h2,h3,h4,h5,h6,h7,h8,hb⟩:=ho;have hr:=Al he hx hp h1;have el:=CW he hp rB h2 h4;have eh:=CW he hp pb h3 h5;generalize hL:(lo.map fun z=>Q8 (z.v e))=L at *;generalize hU:(hi.map fun z=>Q8 (z.v e))=U at *;rw[Br h6]at hr;generalize hq:a.eval x'=vv at hr;have run:∀(ad:Option Addr) (len cap:Nat),vv=.slice ad len cap→len≤cap→bnds L U len→
   (execOp a.eval o).run P w=.ok (.value (.slice (if cap=(L.getD 0).toNat then ad else ad.map (·.add ((L.getD 0).toNat * sz))) ((U.getD len).toNat-(L.getD 0).toNat) (cap-(L.getD 0).toNat))) w:=by
  intro ad len cap hv pX hbb;simp only[execOp,hm,hq,hv,Instr.sliceAt,Sem.run_bind,Aq hu,Result.andThen_ok,el,eh,J6,Instr.slice,TH (P:=P) true len cap L U pX hbb w,Bs lF,hz,Sem.run_pure]
 have fin:∀r v,(execOp a.eval o).run P w=.ok (.value v) w→RepC w g r v→sliC L U (x.v e).c1=r→FOk P H g w e a o (.sli sz x lo hi):=by
  intro r v h1 h2 h3;refine .mk' hs h1 ?_ trivial;simp only[FOp.val,hL,hU,h3];exact .c _ _ h2
 generalize hc:(x.v e).c1=cc at *;have fZ:=hr.aF
 cases fZ with
 |bn fl sz' ad=>
  have br:bnds L U 0:=hb;have bM:=br;obtain⟨b1,b2,b3⟩:=bM;refine fin (sliC L U (.sl fl sz' [])) _ (run ad 0 0 rfl (Jz _) br) ?_ rfl;have e1:(L.getD 0).toNat=0:=ZT
  have e2:(U.getD ((0:Nat):Int)).toNat=0:=ZT
  simp only[e1,e2,sliC];simp;exact .bn _ _ _
 |sl fl sz' rows b off cap val hl hf cR ci di jZ dG=>
  simp only[a9]at hb;simp only[C.aN]at h8;subst h8;obtain⟨b1,b2,b3⟩:=hb;refine fin (sliC L U (.sl fl sz' rows)) _ (run _ _ cap rfl cR ⟨b1,b2,b3⟩) ?_ rfl;simp only[sliC];generalize cO:(L.getD 0).toNat=ln;generalize jC:(U.getD (rows.length:Int)).toNat=un;have q1:ln≤un:=ZT
  have q2:un≤rows.length:=ZT
  have aM:((rows.take un).drop ln).length=un-ln:=Zac
  have aI:∀(i:Nat) (row:List C),((rows.take un).drop ln)[i]? = some row→rows[ln+i]? = some row:=by
   intro i row hi;simp only[Js,Jn]at hi;split at hi
   ·exact hi
   ·simp at hi
  by_cases cG:cap=ln
  ·rw[if_pos cG];have rq:(rows.take un).drop ln=[]:=Jt.1 ZT;have q3:un-ln=0:=ZT
   have q4:cap-ln=0:=ZT
   rw[rq,q3,q4];exact RepC.sl _ _ [] b off 0 val (by simp[Ch]) ZV ZV ci ZV ZV ZV
  ·rw[if_neg cG];simp only[Jr,BL];rw[←aM];refine .sl _ _ _ b _ _ (fun i j=>val (ln+i) j) ZaP (fun fW=>?_) ZaP ci (fun i row h=>di _ _ (aI i row h)) (fun i row j c h hj=>?_) (fun i row j c h hj=>dG _ _ _ _ (aI i row h) hj)
   ·rw[Ja]at fW;rcases Jag _ _▸fW.2 with h0|h0
    ·have:U=none:=(by simpa using h0);subst this;simp at jC;rw[aM,hf fW.1];omega
    ·have:rows=[]:=(by simpa using h0);subst this;have:=hf fW.1;simp at this q2;omega
   ·have:=jZ _ _ _ _ (aI i row h) hj;rw[←this];congr 2;rw[Jh];omega
 |bD l sz' st ad=>
  have br:bnds L U 0:=hb;have bM:=br;obtain⟨b1,b2,b3⟩:=bM;refine fin (sliC L U (.aw l sz' st 0)) _ (run ad 0 0 rfl (Jz _) br) ?_ rfl;have e1:(L.getD 0).toNat=0:=ZT
  have e2:(U.getD ((0:Nat):Int)).toNat=0:=ZT
  simp only[e1,e2,sliC];simp;exact .bD _ _ _ _
 |aw l sz' st n cap b base T m bI hn fM jk=>
  simp only[a9]at hb;simp only[C.aN]at h8;subst h8;obtain⟨b1,b2,b3⟩:=hb;refine fin (sliC L U (.aw l sz' st n)) _ (run _ _ cap rfl hn ⟨b1,b2,b3⟩) ?_ rfl;simp only[sliC];generalize cO:(L.getD 0).toNat=ln;generalize jC:(U.getD (n:Int)).toNat=un;by_cases cG:cap=ln
  ·rw[if_pos cG];have q3:un-ln=0:=ZT
   have q4:cap-ln=0:=ZT
   rw[q3,q4];exact .bD _ _ _ _
  ·rw[if_neg cG];simp only[Jr,BL];have:base+st * sz'+ln * sz'=base+(st+ln) * sz':=Zb0
   rw[this];refine .aw _ _ _ _ _ b base T m bI ZT fM ?_;have:st+ln+(cap-ln)=st+cap:=ZT
   rw[this];exact jk
 |_=>simp[aT]at h7
theorem XJ {x:Opd}{lo hi:Option Opd}{x':Operand}{lo' eO:Option Operand}{t:TypeId}(hm:o.op=.slice t x' lo' eO none)(hu:P.underlying t=some .string)
  (hx:mO x x'=true) (rB:mOpt lo lo'=true) (pb:mOpt hi eO=true)
  (hs:Sat H g w) (he:EnvOk w g e a) (hp:p=true) (ho:(FOp.slis x lo hi).obl p e H):FOk P H g w e a o (.slis x lo hi):=by
 simp only[FOp.obl]at ho;obtain⟨h1,h2,h3,h4,h5,hb⟩:=ho;have hr:=Al he hx hp h1;have el:=CW he hp rB h2 h4;have eh:=CW he hp pb h3 h5;generalize hL:(lo.map fun z=>Q8 (z.v e))=L at *;generalize hU:(hi.map fun z=>Q8 (z.v e))=U at *;split at hb
 ·rename_i s hv
  rw[hv]at hr;obtain⟨hq,hl⟩:=hr.aF.str_inv;have lG:(⟨s.toArray⟩:ByteArray).extract (L.getD 0).toNat (U.getD s.length).toNat=⟨((s.take (U.getD s.length).toNat).drop (L.getD 0).toNat).toArray⟩:=by
   apply Ja1;apply Jab;simp[Jac,Jay]
  refine .mk' hs (v:=.string ⟨((s.take (U.getD s.length).toNat).drop (L.getD 0).toNat).toArray⟩) ?_ ?_ trivial
  ·simp only[execOp,hm,hq,Instr.sliceAt,Sem.run_bind,Aq hu,Result.andThen_ok,el,eh,J6,Instr.slice,DE,Sem.run_pure];simp only[Jaj,Jy,if_false,Sem.run_bind,Sem.run_pure,Result.andThen_ok];rw[TH (P:=P) false s.length s.length L U (Jz _) hb w];simp[lG]
  ·simp only[FOp.val,hv,hL,hU];refine .c _ _ (.str _ ?_);simp;omega
 ·exact hb.elim
theorem Xs {sz n:Nat}{x y:Opd}{x' y':Operand}{t el:TypeId}{i:TypeInfo}(hm:o.op=.indexAddr t x' y')(hu:P.underlying t=some (.array n el))
  (hi:P.info? el=some i) (hz:i.size=sz) (hx:mO x x'=true) (hy:mO y y'=true)
  (hs:Sat H g w) (he:EnvOk w g e a) (hp:p=true) (ho:(FOp.iaa sz n x y).obl p e H):FOk P H g w e a o (.iaa sz n x y):=by
 simp only[FOp.obl]at ho;obtain⟨h1,h2,h6,h7,h8,h9⟩:=ho;have hr:=Al he hx hp h1;have hn:=CC he hy hp h2 h6;split at h9
 ·rename_i l k hv
  rw[hv]at hr;have fF:=hr.aF;generalize hq:a.eval x'=xv at fF
  cases fF with
  |ptr _ _ b s base bI=>
   refine .mk' hs (v:=.pointer (some ⟨b,base+k+(Q8 (y.v e)).toNat * sz,none⟩)) ?_ ?_ trivial
   ·simp only[execOp,hm,hq,hn,Instr.indexAt,Sem.run_bind,asIntOf,Sem.run_pure,Result.andThen_ok,Aq hu,Instr.sureAddr];rw[if_pos ⟨h7,h8⟩];simp[Bs hi,hz,BL]
   ·simp only[FOp.val,hv];have e:base+k+(Q8 (y.v e)).toNat * sz=base+(k+(Q8 (y.v e)).toNat * sz):=ZT;rw[e];exact .c _ _ (.ptr l _ b s base bI)
 ·exact h9.elim
theorem Xo {n b l:Nat}{t:TypeId}{d:TypeDesc}{i:TypeInfo}(hm:o.op=.load t (.global b))(hu:P.underlying t=some d)(hi:P.info? t=some i)(ha:BO d=true)(hn:i.size=n)
  (hs:Sat H g w) (ho:(FOp.ldg n b l).obl p e H):FOk P H g w e a o (.ldg n b l):=by
 simp only[FOp.obl]at ho;split at ho
 ·rename_i b' cells hH
  obtain⟨rfl,h2⟩:=ho;have bC:=hs.objs l;rw[hH]at bC;obtain⟨s,val,k1,k2,k3,k4⟩:=bC;have hq:a.eval (.global b')=.pointer (some ⟨b',0,none⟩):=rfl;have hc:∀j,j<n→w.cell? ⟨b',0+j,none⟩=some (val j):=fun j hj=>by
   rw[J2];exact k3 j _ (Jd ZT)
  have hr:=FK hu hi w b' 0 n val (fun _=>hn) (fun h=>by rw[ha]at h;simp at h) hc;refine .mk' hs (v:=.agg ((List.range n).map val).toArray) ?_ ?_ trivial
  ·simp only[execOp,hm,hq,Instr.loadAt,Instr.sureAddr,Sem.run_bind,Sem.run_pure,Result.andThen_ok,hr,ha,if_true]
  ·simp only[FOp.val,hH];refine .ag _ _ Zac fun j c u h1 h2=>?_;rw[Jn]at h1;split at h1
   ·rename_i hj
    simp[hj]at h2;subst h2;exact k4 j c h1
   ·simp at h1
 ·exact ho.elim
theorem Xn {b l:Nat}{t:TypeId}{d:TypeDesc}{i:TypeInfo}(hm:o.op=.load t (.global b))(hu:P.underlying t=some d)(hi:P.info? t=some i)(ha:BO d=false)
  (hs:Sat H g w) (ho:(FOp.ldo b l).obl p e H):FOk P H g w e a o (.ldo b l):=by
 simp only[FOp.obl]at ho;split at ho
 ·rename_i b' cells hH
  obtain⟨rfl,h2⟩:=ho;have bC:=hs.objs l;rw[hH]at bC;obtain⟨s,val,k1,k2,k3,k4⟩:=bC;have hq:a.eval (.global b')=.pointer (some ⟨b',0,none⟩):=rfl;have h0:cells[0]? = some (cells.headD .unk):=by
   cases cells with
   |nil=>simp at h2
   |cons c r=>rfl
  have hc:∀j,j<1→w.cell? ⟨b',0+j,none⟩=some (val j):=fun j hj=>by
   obtain rfl:j=0:=ZT
   exact k3 0 _ h0
  have hr:=FK hu hi w b' 0 1 val (fun h=>by rw[ha]at h;simp at h) (fun _=>rfl) hc;refine .mk' hs (v:=val 0) ?_ ?_ trivial
  ·simp only[execOp,hm,hq,Instr.loadAt,Instr.sureAddr,Sem.run_bind,Sem.run_pure,Result.andThen_ok,hr,ha];simp
  ·simp only[FOp.val,hH];exact .c _ _ (k4 0 _ h0)
 ·exact ho.elim
theorem Yx {n b l:Nat}{t el:TypeId}{i:TypeInfo}(hm:o.op=.slice t (.global b) none none none)(cg:P.underlying t=some (.array n el))(lF:P.info? el=some i)
  (hs:Sat H g w) (ho:(FOp.aslg n b l).obl p e H):FOk P H g w e a o (.aslg n b l):=by
 simp only[FOp.obl]at ho;split at ho
 ·rename_i b' cells hH
  obtain⟨rfl,h2,h3⟩:=ho;have bC:=hs.objs l;rw[hH]at bC;obtain⟨s,val,k1,k2,k3,k4⟩:=bC;have hq:a.eval (.global b')=.pointer (some ⟨b',0,none⟩):=rfl;have aM:((cells.take n).map fun c=>[c]).length=n:=Zac
  have aI:∀(k:Nat) (row:List C),((cells.take n).map fun c=>[c])[k]? = some row→∃c,row=[c]∧cells[k]? = some c:=by
   intro k row hk;rw[Jj,Jn]at hk;split at hk
   ·cases fZ:cells[k]? with
    |none=>rw[fZ]at hk;simp at hk
    |some c=>rw[fZ]at hk;simp at hk;exact⟨c,hk.symm,rfl⟩
   ·simp at hk
  refine .mk' hs (v:=.slice (some ⟨b',0,none⟩) n n) ?_ ?_ trivial
  ·by_cases hn:n=0
   ·subst hn;simp[execOp,hm,hq,Instr.sliceAt,Aq cg,Instr.sureAddr,Instr.sliceBounds,Bs lF,Sem.run_pure]
   ·simp[execOp,hm,hq,Instr.sliceAt,Aq cg,Instr.sureAddr,Instr.sliceBounds,Bs lF,Sem.run_pure,hn,BL]
  ·simp only[FOp.val,hH];have:=RepC.sl (w:=w) (g:=g) true 1 ((cells.take n).map fun c=>[c]) b' 0 n (fun k _=>val k) ZaP (fun _=>aM.symm) ZaP k2
    (fun k row hk=>by obtain⟨c,rfl,_⟩:=aI k row hk;rfl)
    (fun k row j c hk hj=>by
     obtain⟨c',rfl,bU⟩:=aI k row hk
     cases j with
     |zero=>simpa using k3 k c' bU
     |succ j=>simp at hj)
    (fun k row j c hk hj=>by
     obtain⟨c',rfl,bU⟩:=aI k row hk
     cases j with
     |zero=>simp at hj;subst hj;exact k4 k _ bU
     |succ j=>simp at hj)
   rw[aM]at this;exact .c _ _ this
 ·exact ho.elim
theorem Xq {sz n:Nat}{x y:Opd}{x' y':Operand}{t el:TypeId}{d:TypeDesc}{i:TypeInfo}(hm:o.op=.index t x' y')(hu:P.underlying t=some (.array n el))
  (hd:P.underlying el=some d) (ha:BO d=true) (hi:P.info? el=some i) (hz:i.size=sz) (hx:mO x x'=true) (hy:mO y y'=true)
  (hs:Sat H g w) (he:EnvOk w g e a) (hp:p=true) (ho:(FOp.iax sz n x y).obl p e H):FOk P H g w e a o (.iax sz n x y):=by
 simp only[FOp.obl]at ho;obtain⟨h1,h2,h6,h7,h8,h9,bP⟩:=ho;have hr:=Al he hx hp h1;have hn:=CC he hy hp h2 h6;have hv:∃cs,x.v e=.ag cs:=by cases hv:x.v e <;> simp_all[V.isAg]
 obtain⟨cs,hv⟩:=hv;rw[hv]at hr bP;simp only[V.cells]at bP;obtain⟨vs,hq,hl,hh⟩:=hr.ag_inv;refine .mk' hs (v:=.agg ((vs.drop ((Q8 (y.v e)).toNat * sz)).take sz).toArray) ?_ ?_ trivial
 ·simp only[execOp,hm,hq,hn,Instr.index,Sem.run_bind,asIntOf,Sem.run_pure,Result.andThen_ok,Aq hu];rw[if_pos ⟨h7,h8⟩];simp only[Sem.run_bind,Bs hi,hz,Result.andThen_ok,part,DF hd,ha,if_true,Sem.run_pure];congr 4;apply Jab;simp[Jac,Jay]
 ·simp only[FOp.val,hv,V.cells];refine .ag _ _ (by simp[hl]) fun j c u h1 h2=>?_;simp only[Jn,Js]at h1 h2;split at h1
  ·rename_i hj;rw[if_pos hj]at h2;exact hh _ _ _ h1 h2
  ·simp at h1
theorem Yw {n:Nat}{x:Opd}{x':Operand}{hi:Option Opd}{eO:Option Operand}{t el:TypeId}{i:TypeInfo}(hm:o.op=.slice t x' none eO none)(cg:P.underlying t=some (.array n el))
  (lF:P.info? el=some i) (hx:mO x x'=true) (pb:mOpt hi eO=true)
  (hs:Sat H g w) (he:EnvOk w g e a) (hp:p=true) (ho:(FOp.aslp n x hi).obl p e H):FOk P H g w e a o (.aslp n x hi):=by
 simp only[FOp.obl]at ho;obtain⟨h1,h3,h5,hb,fP,h2⟩:=ho;have hr:=Al he hx hp h1;have eh:=CW he hp pb h3 h5;have fS:(hi.map fun z=>Q8 (z.v e)).isNone=hi.isNone:=by cases hi <;> rfl
 split at h2
 ·rename_i cells hv
  rw[hv]at hr;have fF:=hr.aF;generalize hq:a.eval x'=xv at fF
  cases fF with
  |pp _ b off val ci hc dG=>
   have eF:(FOp.aslp n x hi).val e H=.c (.sl hi.isNone 1 ((cells.take ((hi.map fun x=>Q8 (x.v e)).getD n).toNat).map fun c=>[c])):=ZbB
   rw[←fS]at eF;generalize hU:(hi.map fun z=>Q8 (z.v e))=U at *;have bX:=TH (P:=P) false n n none U (Jz _) hb w;have fG:=hb;obtain⟨b1,b2,b3⟩:=fG;simp only[J0,J6]at b1 b2 b3 bX;have e0:(U.getD (n:Int)).toNat≤n:=ZT
   refine .mk' hs (v:=.slice (some ⟨b,off,none⟩) (U.getD n).toNat n) ?_ ?_ trivial
   ·simp only[execOp,hm,hq,Instr.sliceAt,Sem.run_bind,Aq cg,Result.andThen_ok,Instr.sureAddr,Sem.run_pure,eh,J6,bX,Bs lF];have ha:(⟨b,off,none⟩:Addr).add (0 * i.size)=⟨b,off,none⟩:=(by rw[Nat.zero_mul,BL,Jx]);by_cases hn:n=0
    ·subst hn;simp
    ·simp[hn,ha];try rw[BL,Jx]
   ·rw[eF];have aM:((cells.take (U.getD (n:Int)).toNat).map fun c=>[c]).length=(U.getD (n:Int)).toNat:=Zac;have aI:∀(k:Nat) (row:List C),((cells.take (U.getD (n:Int)).toNat).map fun c=>[c])[k]? = some row→∃c,row=[c]∧cells[k]? = some c:=by
     intro k row hk;rw[Jj,Jn]at hk;split at hk
     ·cases fZ:cells[k]? with
      |none=>rw[fZ]at hk;simp at hk
      |some c=>rw[fZ]at hk;simp at hk;exact⟨c,hk.symm,rfl⟩
     ·simp at hk
    have:=RepC.sl (w:=w) (g:=g) U.isNone 1 ((cells.take (U.getD (n:Int)).toNat).map fun c=>[c]) b off n (fun k _=>val k) ZaP
     (fun hu=>by
      have:U=none:=(by simpa using hu);subst this;rw[aM];simp) ZaP ci (fun k row hk=>by obtain⟨c,rfl,_⟩:=aI k row hk;rfl)
     (fun k row j c hk hj=>by
      obtain⟨c',rfl,bU⟩:=aI k row hk
      cases j with
      |zero=>simp only[Nat.mul_one,Jx];exact hc k c' bU
      |succ j=>simp at hj)
     (fun k row j c hk hj=>by
      obtain⟨c',rfl,bU⟩:=aI k row hk
      cases j with
      |zero=>simp at hj;subst hj;exact dG k c' bU
      |succ j=>simp at hj)
    rw[aM]at this;exact .c _ _ this
 ·exact h2.elim
theorem Rg {r:List C}(h:DA r=true):∃n,r=[.int .u8 n]:=by
 unfold DA at h;split at h
 ·exact⟨_,rfl⟩
 ·cases h
def D9:List C→Int
 |.int _ n::_=>n
 |_=>0
theorem s_b2s {x:Opd}{x':Operand}{src dst el:TypeId}(hm:o.op=.convert src dst x')(hu:P.underlying dst=some .string)(pO:P.underlying src=some (.slice el))(cg:P.underlying el=some (.int .u8))(hx:mO x x'=true)
  (hs:Sat H g w) (he:EnvOk w g e a) (hp:p=true) (ho:(FOp.b2s x).obl p e H):FOk P H g w e a o (.b2s x):=by
 simp only[FOp.obl]at ho;obtain⟨h1,h2⟩:=ho;have hr:=Al he hx hp h1;split at h2
 ·rename_i fl z rows hv
  obtain⟨rfl,h3⟩:=h2;rw[hv]at hr;have fF:=hr.aF;have eF:(FOp.b2s x).val e H=.c (.str (rows.map CN)):=ZbB
  generalize hq:a.eval x'=xv at fF
  cases fF with
  |bn _ _ ad=>
   refine .mk' hs (v:=.string ⟨([]:List UInt8).toArray⟩) ?_ ?_ trivial
   ·simp only[execOp,hm,hq,Sem.run_bind];rw[run_convert_bytes_string w src dst el ad 0 0 pO cg hu]
    cases ad with
    |none=>rfl
    |some ad=>
     have:=run_bytesToString (P:=P) w ad 0 0 [] (run_loadCells_list (P:=P) w ad [] fun j v hj=>by simp at hj);rw[this];rfl
   ·rw[eF];exact .c _ _ (.str [] (by simp[LIM]))
  |sl _ _ _ b off cap val hl hf cR ci di jZ dG=>
   have iy:∀i,i<rows.length→w.cell? ⟨b,off+i,none⟩=some (.int .u8 ((rows.map D9).getD i 0)):=by
    intro i hi;have m7:rows[i]? = some rows[i]:=Jd hi;obtain⟨n,hn⟩:=Rg (J5.1 h3 _ (List.getElem_mem hi));rw[hn]at m7;have e1:=jZ i _ 0 (.int .u8 n) m7 rfl;have e2:=(dG i _ 0 (.int .u8 n) m7 rfl).aB;rw[Nat.mul_one,Jx]at e1;rw[e1,e2];simp[Jv,m7,D9]
   refine .mk' hs (v:=.string ⟨(rows.map CN).toArray⟩) ?_ ?_ trivial
   ·have:=run_convert_bytes_arg w src el pO cg b off rows.length cap (rows.map D9) ZV iy dst hu
    have e3:strOfNums (rows.map D9)=⟨(rows.map CN).toArray⟩:=by
     unfold strOfNums;congr 2;rw[Ja7];refine J4 fun r hr=>?_;obtain⟨n,rfl⟩:=Rg (J5.1 h3 r hr);rfl
    rw[e3]at this;simp only[execOp,hm,hq,Sem.run_bind,this,Result.andThen_ok,Sem.run_pure]
   ·rw[eF];exact .c _ _ (.str _ ZaG)
 ·exact h2.elim
theorem s_slm {sz:Nat}{x hi:Opd}{x' iR nw:Operand}{t el:TypeId}{i:TypeInfo}(hm:o.op=.slice t x' none (some iR) (some nw))(hu:P.underlying t=some (.slice el))
  (lF:P.info? el=some i) (hx:mO x x'=true) (kA:mO hi iR=true) (iZ:mO hi nw=true)
  (hs:Sat H g w) (he:EnvOk w g e a) (hp:p=true) (ho:(FOp.slm sz x hi).obl p e H):FOk P H g w e a o (.slm sz x hi):=by
 simp only[FOp.obl]at ho;obtain⟨h1,h2,h3,h4,h5⟩:=ho;have hr:=Al he hx hp h1;have e1:=CC he kA hp h2 h3;have e2:=CC he iZ hp h2 h3;split at h5
 ·rename_i fl z rows hv
  obtain⟨rfl,h6⟩:=h5;rw[hv]at hr;have fF:=hr.aF;have eF:(FOp.slm z x hi).val e H=.c (.sl true z (rows.take (Q8 (hi.v e)).toNat)):=ZbB
  generalize Q8 (hi.v e)=n at *;obtain⟨n,rfl⟩:=Int.eq_ofNat_of_zero_le h4;have h7:n≤rows.length:=ZT
  simp only[Jaq]at eF;generalize hq:a.eval x'=xv at fF;have run:∀(ad:Option Addr) (len cap:Nat),xv=.slice ad len cap→n≤cap→
    (execOp a.eval o).run P w=.ok (.value (.slice (if n=0 then ad else ad.map (·.add (0 * i.size))) n n)) w:=by
   intro ad len cap eE cR;have hb:(Instr.sliceBounds true len cap none (some (.int .i64 (n:Int))) (some (.int .i64 (n:Int)))).run P w=.ok (0,n,n) w:=by
    unfold Instr.sliceBounds;simp only[Sem.run_bind,Instr.sliceBound,asIntOf,Sem.run_pure,Result.andThen_ok];rw[if_pos ⟨Ja2 _,ZT⟩];simp only[Sem.run_pure,Result.andThen_ok,Jaq];rw[if_pos ⟨Ja2 _,Int.le_refl _⟩];simp only[Sem.run_pure,Result.andThen_ok,Jaq]
   simp only[execOp,hm,hq,eE,Instr.sliceAt,Sem.run_bind,Aq hu,Result.andThen_ok,e1,e2,Jr,J6,Instr.slice,hb,Bs lF,Sem.run_pure,Nat.sub_zero]
  cases fF with
  |bn _ _ ad=>
   have h0:n=0:=by simpa using h7
   subst h0;refine .mk' hs (run ad 0 0 rfl (Jz _)) ?_ trivial;rw[eF];exact .c _ _ (.bn _ _ _)
  |sl _ _ _ b off cap val hl hf cR ci di jZ dG=>
   refine .mk' hs (run _ _ cap rfl ZT) ?_ trivial;rw[eF];have ha:(if n=0 then (some ⟨b,off,none⟩:Option Addr)else (some ⟨b,off,none⟩:Option Addr).map (·.add (0 * i.size)))=some ⟨b,off,none⟩:=by
    split
    ·rfl
    ·simp only[Jr,Nat.zero_mul,BL,Jx]
   rw[ha];have aM:(rows.take n).length=n:=Zac
   have aI:∀(k:Nat) (row:List C),(rows.take n)[k]? = some row→rows[k]? = some row:=by
    intro k row hk;rw[Jn]at hk;split at hk
    ·exact hk
    ·simp at hk
   have:=RepC.sl (w:=w) (g:=g) true z (rows.take n) b off n val ZaP (fun _=>by rw[aM]) (by rw[aM];exact Jz _) ci (fun k row hk=>di _ _ (aI k row hk))
    (fun k row j c hk hj=>jZ _ _ _ _ (aI k row hk) hj) (fun k row j c hk hj=>dG _ _ _ _ (aI k row hk) hj)
   rw[aM]at this;exact .c _ _ this
 ·exact h5.elim
theorem Xt {off n:Nat}{agg:Bool}{x:Opd}{x':Operand}{s:TypeId}{k:Nat}{fs:Array Field}{f:Field}{i:TypeInfo}{d:TypeDesc}(hm:o.op=.field s x' k)(hu:P.underlying s=some (.struct fs))
  (hf:fs[k]? = some f) (kX:f.offset=off) (hi:P.info? f.type=some i) (hd:P.underlying f.type=some d) (ha:BO d=agg) (hn:agg=true→i.size=n) (eM:agg=false→n=1) (hx:mO x x'=true)
  (hs:Sat H g w) (he:EnvOk w g e a) (hp:p=true) (ho:(FOp.fld off n agg x).obl p e H):FOk P H g w e a o (.fld off n agg x):=by
 simp only[FOp.obl]at ho;obtain⟨h1,h2,h3⟩:=ho;have hr:=Al he hx hp h1;have hv:∃cs,x.v e=.ag cs:=by cases hv:x.v e <;> simp_all[V.isAg]
 obtain⟨cs,hv⟩:=hv;rw[hv]at hr h3;simp only[V.cells]at h3;obtain⟨vs,hq,hl,hh⟩:=hr.ag_inv
 cases agg with
 |true=>
  have hz:=hn rfl;refine .mk' hs (v:=.agg ((vs.drop off).take n).toArray) ?_ ?_ trivial
  ·simp only[execOp,hm,hq,Instr.field,Sem.run_bind,Aq hu,Result.andThen_ok,hf,asAgg,Sem.run_pure,part,DF hd,ha,if_true,Bs hi,hz,kX];congr 4;apply Jab;simp[Jac,Jay]
  ·simp only[FOp.val,Cd,hv,V.cells,if_true];refine .ag _ _ Zac fun j c u h1 h2=>?_;simp only[Jn,Js]at h1 h2;split at h1
   ·rename_i hj;rw[if_pos hj]at h2;exact hh _ _ _ h1 h2
   ·simp at h1
 |false=>
  have hz:=eM rfl;subst hz;have af:off<vs.length:=ZT
  refine .mk' hs (v:=vs[off]) ?_ ?_ trivial
  ·simp only[execOp,hm,hq,Instr.field,Sem.run_bind,Aq hu,Result.andThen_ok,hf,asAgg,Sem.run_pure,part,DF hd,ha,kX];simp[af]
  ·simp only[FOp.val,Cd,hv,V.cells,Jy,if_false];have dl:off<cs.length:=ZT
   have:((cs.drop off).take 1).headD .unk=cs[off]:=by
    rw[List.drop_eq_getElem_cons dl];rfl
   rw[this];exact .c _ _ (hh off _ _ (Jd dl) (Jd af))
theorem RM (off:Nat):∀(vs:List Value) (s:Nat) (cs:Array Value) (k:Nat),off+s+vs.length≤cs.size→
  ((vs.zipIdx s).foldl (fun (cs:Array Value) (x:Value×Nat)=>cs.setIfInBounds (off+x.2) x.1) cs).size=cs.size∧
  ((vs.zipIdx s).foldl (fun (cs:Array Value) (x:Value×Nat)=>cs.setIfInBounds (off+x.2) x.1) cs)[k]? =
   if off+s≤k∧k<off+s+vs.length then vs[k-(off+s)]? else cs[k]?
 |[],s,cs,k,_=>by
  refine⟨rfl,?_⟩;rw[if_neg (by simp only[Jai];omega)];rfl
 |v::vs,s,cs,k,h=>by
  simp only[J8]at h;have ih:=RM off vs (s+1) (cs.setIfInBounds (off+s) v) k Zac;simp only[List.zipIdx_cons,List.foldl_cons];refine⟨by rw[ih.1];simp,?_⟩;rw[ih.2];simp only[J8];by_cases h1:off+(s+1)≤k∧k<off+(s+1)+vs.length
  ·rw[if_pos h1,if_pos ZT];have:k-(off+s)=(k-(off+(s+1)))+1:=ZT
   rw[this,List.getElem?_cons_succ]
  ·rw[if_neg h1];by_cases h2:k=off+s
   ·subst h2;rw[if_pos ZT];simp only[Nat.sub_self,List.getElem?_cons_zero];rw[Jaa ZT]
   ·rw[if_neg ZT,Jq ZT]
theorem PO {place:Nat→Option (Nat×Nat)}{cells:Array Value}{i off sz:Nat}{v:Value}{rest:List (Nat×Value)}(hp:place i=some (off,sz))(hz:v.cells.size=sz)
  (hb:off+sz≤cells.size):∃cs:Array Value,Instr.fill place cells ((i,v)::rest)=Instr.fill place cs rest∧cs.size=cells.size∧
   ∀k,cs[k]? = if off≤k∧k<off+sz then v.cells[k-off]? else cells[k]?:=by
 have hf:=fun k=>RM off v.cells.toList 0 cells k Zac;refine⟨v.cells.zipIdx.foldl (fun (cs:Array Value) (x:Value×Nat)=>cs.setIfInBounds (off+x.2) x.1) cells,?_,?_,fun k=>?_⟩
 ·simp only[Instr.fill,hp];rw[if_neg Zac]
 ·rw[←Ja0,Jaz];exact (hf 0).1
 ·rw[←Ja0,Jaz,(hf k).2];simp only[Jx,Array.length_toList,hz,Jw]
def RepL (w:World)(g:G)(cs:List C)(vs:Array Value):Prop:=
 vs.size=cs.length∧∀(j:Nat) (c:C) (u:Value),cs[j]? = some c→vs[j]? = some u→RepC w g c u
theorem RepL.put {cs ps:List C}{vs us vs':Array Value}{off:Nat}(h:RepL w g cs vs)(hp:RepL w g ps us)(hb:off+ps.length≤cs.length)(aO:vs'.size=vs.size)
  (hv:∀k,vs'[k]? = if off≤k∧k<off+ps.length then us[k-off]? else vs[k]?) :
  RepL w g (cs.take off++ps++cs.drop (off+ps.length)) vs':=by
 refine⟨by rw[aO,h.1];simp;omega,fun j c u h1 h2=>?_⟩;rw[hv]at h2;by_cases hj:off≤j∧j<off+ps.length
 ·rw[if_pos hj]at h2;rw[J3,Jp Zac,Jo Zac]at h1;refine hp.2 _ c u ?_ h2;rw[←h1];congr 1;simp;omega
 ·rw[if_neg hj]at h2;refine h.2 j c u ?_ h2;by_cases hl:j<off
  ·rw[J3,Jo Zac,Jn,if_pos hl]at h1;exact h1
  ·rw[Jp Zac,Js]at h1;rw[←h1];congr 1;simp;omega
def D3:C→Value→Bool
 |.int k n,.int k' n'=>k == k'&&n == n'
 |.bool b,.bool b'=>b == b'
 |.str [],.string b=>decide (b.data.toList=[])
 |.sl _ _ [],.slice none 0 0=>true
 |.pnil,.pointer none=>true
 |.mnil,.map none=>true
 |.fnil,.nilFunc=>true
 |_,_=>false
theorem Ro {c:C}{v:Value}(h:D3 c v=true):RepC w g c v:=by
 unfold D3 at h;split at h
 ·simp at h;obtain⟨rfl,rfl⟩:=h;exact .int _ _
 ·simp at h;subst h;exact .bool _
 ·rename_i b
  have hb:b=⟨([]:List UInt8).toArray⟩:=by
   apply Ja1;apply Jab;simpa using h
  rw[hb];exact .str _ (by simp[Ch])
 ·exact .bn _ _ _
 ·exact .pnil
 ·exact .mnil
 ·exact .fnil
 ·simp at h
def BB (cs:List C)(v:Value):Bool:=cs.length == v.cells.size&&(cs.zip v.cells.toList).all fun x=>D3 x.1 x.2
theorem Hh {cs:List C}{v:Value}(h:BB cs v=true):RepL w g cs v.cells:=by
 unfold BB at h;rw[Ja,J5]at h;obtain⟨h1,h2⟩:=h;refine⟨by simpa using (beq_iff_eq.1 h1).symm,fun j c u e1 e2=>Ro (h2 (c,u) ?_)⟩;have:(cs.zip v.cells.toList)[j]? = some (c,u):=by
  rw[Jao];exact⟨e1,ZaH⟩
 exact Ji this
theorem BJ {t:TypeId}{i:TypeInfo}{z:Value}(hi:P.info? t=some i)(hz:i.zero=some z)(w:World):(zeroValue t).run P w=.ok z w:=by
 simp[zeroValue,HD hi,hz]
theorem Qavg (fs:List Field)(h:∀f∈fs,∃i,P.info? f.type=some i)(w:World) :
  (fs.mapM fun f=>(do pure (f.offset,←sizeOf f.type):Sem (Nat×Nat))).run P w=.ok (fs.map fun f=>(f.offset,P.cellsOf f.type)) w:=by
 induction fs with
 |nil=>simp
 |cons f fs ih=>
  obtain⟨i,hi⟩:=h f ZV;have ih':=ih fun f hf=>h f (by simp[hf]);simp only[List.mapM_cons,Sem.run_bind,Bs hi,Result.andThen_ok,Sem.run_pure,ih',Jbg,Qawz hi]
theorem Mw (place:Nat→Option (Nat×Nat)):∀(parts:List (Nat×Nat×List C)) (ps:List (Nat×Value)) (cells:Array Value) (cs:List C),
  RepL w g cs cells→ps.length=parts.length→
  (∀(j:Nat) (x:Nat×Nat×List C) (y:Nat×Value),parts[j]? = some x→ps[j]? = some y→place y.1=some (x.1,x.2.1)∧x.2.2.length=x.2.1∧x.1+x.2.1≤cs.length∧RepL w g x.2.2 y.2.cells)→
  ∃out,Instr.fill place cells ps=some out∧RepL w g (RE cs (parts.map fun x=>(x.1,x.2.2))) out
 |[],[],cells,cs,h,_,_=>⟨cells,rfl,h⟩
 |[],y::ps,_,_,_,hl,_=>Zch
 |x::parts,[],_,_,_,hl,_=>Zch
 |x::parts,(i,v)::ps,cells,cs,h,hl,hh=>by
  obtain⟨h1,h2,h3,h4⟩:=hh 0 x (i,v) rfl rfl;obtain⟨cs',f1,f2,f3⟩:=PO (rest:=ps) (cells:=cells) h1 (by rw[h4.1,h2]) (by rw[h.1];exact h3);have hr:RepL w g (cs.take x.1++x.2.2++cs.drop (x.1+x.2.2.length)) cs':=h.put h4 (by rw[h2];exact h3) f2 (by rw[h2];exact f3);obtain⟨out,o1,o2⟩:=Mw place parts ps cs' _ hr ZaG (fun j x' y' e1 e2=>by
   obtain⟨q1,q2,q3,q4⟩:=hh (j+1) x' y' ZbM ZaH;refine⟨q1,q2,?_,q4⟩;have:(cs.take x.1++x.2.2++cs.drop (x.1+x.2.2.length)).length=cs.length:=Zac
   rw[this];exact q3)
  exact⟨out,f1.trans o1,by simpa[RE]using o2⟩
theorem GN {v:V}{u:Value}(h:RepV w g v u)(hn:v.cells≠[]):RepL w g v.cells u.cells:=FS h hn
theorem Xz {zero:List C}{parts:List (Nat×Nat×Opd)}{t:TypeId}{parts':Array (Nat×Operand)}{fs:Array Field}{i:TypeInfo}{z:Value}
  (hm:o.op=.build t parts') (hu:P.underlying t=some (.struct fs)) (hi:P.info? t=some i) (hz:i.zero=some z) (be:BB zero z=true)
  (gu:∀f∈fs.toList,∃i,P.info? f.type=some i) (hl:parts.length=parts'.size)
  (hx:∀(j:Nat) (x:Nat×Nat×Opd) (y:Nat×Operand),parts[j]? = some x→parts'[j]? = some y→
   mO x.2.2 y.2=true∧(∃f,fs[y.1]? = some f∧f.offset=x.1∧P.cellsOf f.type=x.2.1)∧x.1+x.2.1≤zero.length∧x.2.1≠0)
  (hs:Sat H g w) (he:EnvOk w g e a) (hp:p=true) (ho:(FOp.bld zero parts).obl p e H):FOk P H g w e a o (.bld zero parts):=by
 simp only[FOp.obl]at ho;have aM:(parts'.toList.map fun (x:Nat×Operand)=>(x.1,a.eval x.2)).length=(parts.map fun q=>(q.1,q.2.1,(q.2.2.v e).cells)).length:=by simp[hl]
 obtain⟨out,f1,f2⟩:=Mw (w:=w) (g:=g) (fun (j:Nat)=>(fs.toList.map fun f=>(f.offset,P.cellsOf f.type))[j]?) (parts.map fun q=>(q.1,q.2.1,(q.2.2.v e).cells))
  (parts'.toList.map fun (x:Nat×Operand)=>(x.1,a.eval x.2)) z.cells zero (Hh be) aM (fun j x y e1 e2=>by
   simp only[Jj]at e1 e2
   cases hj:parts[j]? with
   |none=>rw[hj]at e1;simp at e1
   |some q=>
    cases cY:parts'.toList[j]? with
    |none=>rw[cY]at e2;simp at e2
    |some y'=>
     rw[hj]at e1;rw[cY]at e2;simp only[Jr,Jb]at e1 e2;subst e1;subst e2;obtain⟨m1,⟨f,m2,m3,m4⟩,m5,m6⟩:=hx j q y' hj (by simpa using cY);obtain⟨o1,o2⟩:=ho q (Ji hj);refine⟨?_,o2,m5,GN (Al he m1 hp o1) (fun hn=>m6 (by rw[←o2,hn];rfl))⟩;simp only[Jj,Jw,m2,Jr,m3,m4])
 have iG:(fs.mapM fun f=>(do pure (f.offset,←sizeOf f.type):Sem (Nat×Nat))).run P w=.ok ((fs.toList.map fun f=>(f.offset,P.cellsOf f.type)).toArray) w:=by
  rw[Array.mapM_eq_mapM_toList];simp only[Sem.run_map,Qavg fs.toList gu w,Result.andThen_ok]
 refine .mk' hs (v:=.agg out) ?_ ?_ trivial
 ·simp only[execOp,hm,Instr.build,Sem.run_bind,BJ hi hz,Result.andThen_ok,Aq hu,iG];have:(fun (x:Nat)=>((fs.toList.map fun f=>(f.offset,P.cellsOf f.type)).toArray)[x]?)=(fun (j:Nat)=>(fs.toList.map fun f=>(f.offset,P.cellsOf f.type))[j]?):=by
   funext j;simp
  rw[this];have n7:(parts'.map fun (x:Nat×Operand)=>(x.1,a.eval x.2)).toList=parts'.toList.map fun (x:Nat×Operand)=>(x.1,a.eval x.2):=ZV
  rw[n7,f1];simp
 ·simp only[FOp.val];have eK:out=out.toList.toArray:=ZV
  rw[eK];refine .ag _ _ ?_ ?_
  ·have:=f2.1;simp only[Ja7,Ja3]at this;simpa using this
  ·intro j c u h1 h2;refine f2.2 j c u ?_ Zbf;simpa only[Ja7,Ja3]using h1
theorem FP (size:Nat):∀(ps:List (Nat×Value)) (s:Nat) (cells:Array Value),(∀(j:Nat) (y:Nat×Value),ps[j]? = some y→y.1=s+j∧y.2.cells.size=size)→
  (s+ps.length) * size≤cells.size→
  ∃out:Array Value,Instr.fill (fun i=>some (i * size,size)) cells ps=some out∧out.size=cells.size∧
   (∀k,k<s * size→out[k]? = cells[k]?)∧
   ∀(j:Nat) (y:Nat×Value) (k:Nat),ps[j]? = some y→k<size→out[(s+j) * size+k]? = y.2.cells[k]?
 |[],s,cells,_,_=>⟨cells,rfl,rfl,fun _ _=>rfl,ZV⟩
 |(i,v)::ps,s,cells,h,hb=>by
  obtain⟨h1,h2⟩:=h 0 (i,v) rfl;simp only[Jx]at h1 h2;subst h1;have br:(i+1+ps.length) * size≤cells.size:=by
   have e:i+((i,v)::ps).length=i+1+ps.length:=by simp only[J8];omega
   rw[e]at hb;exact hb
  have ji:i * size+size≤cells.size:=by
   have:(i+1) * size≤(i+1+ps.length) * size:=Jm _ ZT;rw[Jh,Jau]at this;omega
  obtain⟨cs,f1,f2,f3⟩:=PO (place:=fun i=>some (i * size,size)) (rest:=ps) (cells:=cells) (i:=i) (v:=v) rfl h2 ji;obtain⟨out,o1,o2,o3,o4⟩:=FP size ps (i+1) cs (fun j y hj=>by
   have:=h (j+1) y Zbg;exact⟨by rw[this.1];omega,this.2⟩) (by rw[f2];exact br)
  refine⟨out,f1.trans o1,o2.trans f2,fun k hk=>?_,fun j y k hj hk=>?_⟩
  ·rw[o3 k Zb0,f3 k,if_neg ZT]
  ·cases j with
   |zero=>
    simp at hj;subst hj;simp only[Jx];rw[o3 _ Zb0,f3 _,if_pos ZT];congr 1;omega
   |succ j=>
    have:=o4 j y k Zbg hk;rw[←this];congr 3;omega
theorem Xx {sz:Nat}{parts:List Opd}{t el:TypeId}{n:Nat}{parts':Array (Nat×Operand)}{i:TypeInfo}{z:Value}
  (hm:o.op=.buildSlice t n parts') (hu:P.underlying t=some (.slice el)) (hi:P.info? el=some i) (hz:i.zero=some z) (aO:i.size=sz) (mi:sz≠0)
  (hn:n=parts'.size) (nl:n * sz≤2 ^ 24) (hl:parts.length=parts'.size)
  (hx:∀(j:Nat) (x:Opd) (y:Nat×Operand),parts[j]? = some x→parts'[j]? = some y→y.1=j∧mO x y.2=true)
  (hs:Sat H g w) (he:EnvOk w g e a) (hp:p=true) (ho:(FOp.fH sz parts).obl p e H):FOk P H g w e a o (.fH sz parts):=by
 simp only[FOp.obl]at ho;have n7:(parts'.map fun (x:Nat×Operand)=>(x.1,a.eval x.2)).toList=parts'.toList.map fun (x:Nat×Operand)=>(x.1,a.eval x.2):=ZV
 have bm:∀(j:Nat) (y:Nat×Value),(parts'.toList.map fun (x:Nat×Operand)=>(x.1,a.eval x.2))[j]? = some y→
   ∃x y',parts[j]? = some x∧parts'[j]? = some y'∧y=(y'.1,a.eval y'.2):=by
  intro j y hj;simp only[Jj]at hj
  cases cY:parts'.toList[j]? with
  |none=>rw[cY]at hj;simp at hj
  |some y'=>
   rw[cY]at hj;simp at hj;have af:j<parts.length:=by
    rw[hl];rcases Jg j parts'.size with h|h
    ·exact h
    ·simp[Jl h]at cY
   exact⟨_,y',Jd af,by simpa using cY,hj.symm⟩
 have aI:∀x∈parts,x.fine p e∧(x.v e).cells.length=sz∧(x.v e).cells≠[]:=fun x hx=>by
  obtain⟨q1,q2⟩:=ho x hx;exact⟨q1,q2,fun hn=>mi (by rw[←q2,hn];rfl)⟩
 have jP:(parts'.toList.map fun (x:Nat×Operand)=>(x.1,a.eval x.2)).length=n:=Zce
 obtain⟨out,f1,f2,f3,f4⟩:=FP sz (parts'.toList.map fun (x:Nat×Operand)=>(x.1,a.eval x.2)) 0
  ((Array.range (n * sz)).map ((if n * sz=0 then #[]else z.cells)[· % (if n * sz=0 then #[]else z.cells).size]!)) (fun j y hj=>by
   obtain⟨x,y',e1,e2,rfl⟩:=bm j y hj;obtain⟨q1,q2⟩:=hx j x y' e1 e2;obtain⟨q3,q4,q5⟩:=aI x (Ji e1);refine⟨by simp[q1],?_⟩;rw[(GN (Al he q2 hp q3) q5).1,q4]) (by rw[jP];simp)
 have aC:=KX hs (.cells out el);refine⟨.slice (some ⟨w.heap.size,0,none⟩) n n,w.alloc (.cells out el),g.newPer w.heap.size,?_,aC,?_,trivial⟩
 ·simp only[execOp,hm,Instr.buildSlice,Sem.run_bind,Aq hu,Result.andThen_ok,Bs hi,aO,n7];rw[if_neg ZT];by_cases h0:n * sz=0
  ·simp only[if_pos h0]at f1⊢;simp only[Sem.run_bind,Sem.run_pure,Result.andThen_ok];rw[f1];simp[newRow]
  ·simp only[if_neg h0]at f1⊢;simp only[Sem.run_bind,Sem.run_pure,Result.andThen_ok,BJ hi hz];rw[f1];simp[newRow]
 ·simp only[FOp.val];have fU:(parts.map fun x=>(x.v e).cells).length=n:=by simp[hl,hn]
  refine .c _ _ ?_;have iN:∀(k:Nat) (row:List C),(parts.map fun x=>(x.v e).cells)[k]? = some row→∃x y,parts[k]? = some x∧parts'[k]? = some y∧row=(x.v e).cells:=by
   intro k row hk;simp only[Jj]at hk
   cases hj:parts[k]? with
   |none=>rw[hj]at hk;simp at hk
   |some x=>
    rw[hj]at hk;simp at hk;have af:k<parts'.size:=by
     rw[←hl];rcases Jg k parts.length with h|h
     ·exact h
     ·rw[Jc h]at hj;simp at hj
    exact⟨x,parts'[k],rfl,Jf af,hk.symm⟩
  have ca:∀(k:Nat) (row:List C) (j:Nat) (c:C),(parts.map fun x=>(x.v e).cells)[k]? = some row→row[j]? = some c→∃u,out[0+k * sz+j]? = some u∧RepC w g c u:=by
   intro k row j c hk hj;obtain⟨x,y,e1,e2,rfl⟩:=iN k row hk;obtain⟨q1,q2⟩:=hx k x y e1 e2;obtain⟨q3,q4,q5⟩:=aI x (Ji e1);have hr:=GN (Al he q2 hp q3) q5;have iI:j<sz:=by
    rw[←q4];rcases Jg j (x.v e).cells.length with h|h
    ·exact h
    ·rw[Jc h]at hj;simp at hj
   have ku:j<(a.eval y.2).cells.size:=by rw[hr.1,q4];exact iI
   have:=f4 k (y.1,a.eval y.2) j (by simp only[Jj,Jw,e2,Jr]) iI;simp only[J2]at this⊢;rw[this];exact⟨_,Jf ku,hr.2 j c _ hj (Jf ku)⟩
  have:=RepC.sl (w:=w.alloc (.cells out el)) (g:=g.newPer w.heap.size) true sz (parts.map fun x=>(x.v e).cells) w.heap.size 0 n (fun k j=>out.getD (0+k * sz+j) undef)
   (by rw[fU,Ch]
       have eM:n * 1≤n * sz:=Jae _ ZT;have sB:(2:Nat) ^ 24=16777216:=Zab;rw[sB]at nl;omega) (fun _=>fU.symm) (by rw[fU];exact Jz _) (by simp[G.newPer])
   (fun k row hk=>by obtain⟨x,y,e1,e2,rfl⟩:=iN k row hk;exact (aI x (Ji e1)).2.1)
   (fun k row j c hk hj=>by
    obtain⟨u,e1,e2⟩:=ca k row j c hk hj;rw[NM,Je,e1];rfl)
   (fun k row j c hk hj=>by
    obtain⟨u,e1,e2⟩:=ca k row j c hk hj;simp only[Je,e1,Ju];exact e2.mono aC.le)
  rw[fU]at this;exact this
end Go.AE
namespace Go.AE
open Go.MapKept (IsKey findNow_spec run_checkKey run_findKey run_keyThatStays)
variable {P:Program}{H:Heap}{g:G}{w:World}{e:Env}{a:Act}{o:Oper}{p:Bool}
def tagD:Nat→TypeDesc
 |0=>.int .i64
 |1=>.string
 |_=>.bool
theorem DL {tag:Nat}{k:C}{es:List (C×V)}(h:AL tag k es){v:Value}(hr:RepC w g k v):IsKey (tagD tag) v:=by
 unfold AL at h;split at h
 ·rw[hr.aB];simp[tagD,IsKey]
 ·rw[hr.str_inv.1];simp[tagD,IsKey]
 ·rw[hr.bk];simp[tagD,IsKey]
 ·exact h.elim
theorem Qblq {tag:Nat}{k:C}{es:List (C×V)}(h:AL tag k es){x:C×V}(hx:x∈es){v:Value}(hr:RepC w g x.1 v):IsKey (tagD tag) v:=by
 unfold AL at h;split at h
 ·obtain⟨n,hn⟩:=h x hx;rw[hn]at hr;rw[hr.aB];simp[tagD,IsKey]
 ·obtain⟨n,hn⟩:=h x hx;rw[hn]at hr;rw[hr.str_inv.1];simp[tagD,IsKey]
 ·obtain⟨n,hn⟩:=h x hx;rw[hn]at hr;rw[hr.bk];simp[tagD,IsKey]
 ·exact h.elim
theorem Eo {tag:Nat}{k:C}{es:List (C×V)}(h:AL tag k es){x:C×V}(hx:x∈es){u v:Value}(hr:RepC w g k u)(bx:RepC w g x.1 v) :
  AM k x.1=true↔v=u:=by
 unfold AL at h;split at h
 ·obtain⟨n,hn⟩:=h x hx;rw[hn]at bx⊢;rw[bx.aB,hr.aB];simp only[AM,decide_eq_true_eq,Value.int.injEq,true_and];exact eq_comm
 ·obtain⟨n,hn⟩:=h x hx;rw[hn]at bx⊢;rw[bx.str_inv.1,hr.str_inv.1];simp only[AM,decide_eq_true_eq,Value.string.injEq,Jbj,Array.mk.injEq];exact eq_comm
 ·obtain⟨n,hn⟩:=h x hx;rw[hn]at bx⊢;rw[bx.bk,hr.bk];simp only[AM,beq_iff_eq,Value.bool.injEq];exact eq_comm
 ·exact h.elim
theorem PN:∀(es:List (C×V)) (k:C) (j:Nat) (x:C×V),es[j]? = some x→AM k x.1=true→(∀i y,i<j→es[i]? = some y→AM k y.1=false)→A3 k es=some x.2
 |[],_,_,_,h,_,_=>Zaa
 |y::es,k,0,x,h,hk,_=>by simp at h;subst h;simp[A3,hk]
 |y::es,k,j+1,x,h,hk,hh=>by
  have h0:=hh 0 y ZT rfl;simp only[A3,h0,Jy,if_false];exact PN es k j x Zaz hk fun i z hi hz=>hh (i+1) z ZT Zbh
theorem Mv:∀(es:List (C×V)) (k:C),(∀x∈es,AM k x.1=false)→A3 k es=none
 |[],_,_=>rfl
 |y::es,k,h=>by
  simp only[A3,h y ZV,Jy,if_false];exact Mv es k fun x hx=>h x Zbw
theorem RN {tag:Nat}{k:C}{es:List (C×V)}{ms:Array MapEntry}(bf:AL tag k es){kv:Value}(hk:RepC w g k kv)(aO:ms.size=es.length)
  (hE:∀(i:Nat) (x:C×V) (m:MapEntry),es[i]? = some x→ms[i]? = some m→RepE w g x m)
  (hd:∀(i j:Nat) (m m':MapEntry),ms[i]? = some m→ms[j]? = some m'→(m.born=m'.born∨m.key=m'.key)→i=j) :
  (Instr.findNow (tagD tag) kv ms.toList 0=some none∧A3 k es=none∧∀x∈es,AM k x.1=false)∨
  ∃j m x,Instr.findNow (tagD tag) kv ms.toList 0=some (some (j,m.val))∧ms[j]? = some m∧m.key=kv∧es[j]? = some x∧A3 k es=some x.2∧AM k x.1=true∧
   ∀i y,i<j→es[i]? = some y→AM k y.1=false:=by
 have pair:∀(i:Nat) (m:MapEntry),ms[i]? = some m→∃x,es[i]? = some x:=by
  intro i m hm;have:i<es.length:=by
   rw[←aO];rcases Jg i ms.size with h|h
   ·exact h
   ·rw[Jl h]at hm;simp at hm
  exact⟨_,Jd this⟩
 have pair':∀(i:Nat) (x:C×V),es[i]? = some x→∃m,ms[i]? = some m:=by
  intro i x hx;have:i<ms.size:=by
   rw[aO];rcases Jg i es.length with h|h
   ·exact h
   ·rw[Jc h]at hx;simp at hx
  exact⟨_,Jf this⟩
 have oU:∀m∈ms.toList,IsKey (tagD tag) m.key:=by
  intro m hm;obtain⟨i,hi⟩:=Jak hm;obtain⟨x,hx⟩:=pair i m (by simpa using hi);exact Qblq bf (Ji hx) (hE i x m hx (by simpa using hi)).1
 rcases findNow_spec (DL bf hk) ms.toList 0 oU with ⟨h1,h2⟩|⟨j,m,h1,h2,h3⟩
 ·have bO:∀x∈es,AM k x.1=false:=by
   intro x hx;obtain⟨i,hi⟩:=Jak hx;obtain⟨m,hm⟩:=pair' i x hi;have:=h2 m (by have:=Ji (l:=ms.toList) (i:=i) (a:=m) (by simpa using hm);exact this)
   cases hq:AM k x.1 with
   |false=>rfl
   |true=>exact absurd ((Eo bf hx hk (hE i x m hi hm).1).1 hq) this
  exact .inl ⟨h1,Mv es k bO,bO⟩
 ·have hm:ms[j]? = some m:=Zbf
  obtain⟨x,hx⟩:=pair j m hm;have hq:=(Eo bf (Ji hx) hk (hE j x m hx hm).1).2 h3;have jX:∀i y,i<j→es[i]? = some y→AM k y.1=false:=by
   intro i y hi hy;obtain⟨m',em⟩:=pair' i y hy
   cases pR:AM k y.1 with
   |false=>rfl
   |true=>
    have e1:=(Eo bf (Ji hy) hk (hE i y m' hy em).1).1 pR;have:=hd i j m' m em hm (.inr (e1.trans h3.symm));omega
  exact .inr ⟨j,m,x,Za4,hm,h3,hx,PN es k j x hx hq jX,hq,jX⟩
def Cs:V→Value→Bool
 |.c x,v=>D3 x v
 |.ag cs,.agg vs=>BB cs (.agg vs)
 |_,_=>false
theorem GB {x:V}{v:Value}(h:Cs x v=true):RepV w g x v:=by
 unfold Cs at h;split at h
 ·exact .c _ _ (Ro h)
 ·rename_i cs vs
  have:=Hh (w:=w) (g:=g) h;obtain⟨h1,h2⟩:=this;have hv:vs=vs.toList.toArray:=ZV
  rw[hv];exact .ag cs vs.toList (by simpa[Value.cells]using h1) fun j c u e1 e2=>h2 j c u e1 (by simpa[Value.cells]using e2)
 ·simp at h
theorem Xl {tag:Nat}{zero:V}{x k:Opd}{x' k':Operand}{t kt et:TypeId}{i:TypeInfo}{z:Value}(hm:o.op=.lookup t x' k' false)(hu:P.underlying t=some (.map kt et))
  (hk:P.underlying kt=some (tagD tag)) (hi:P.info? et=some i) (hz:i.zero=some z) (be:Cs zero z=true) (hx:mO x x'=true) (kq:mO k k'=true)
  (hs:Sat H g w) (he:EnvOk w g e a) (hp:p=true) (ho:(FOp.lup tag zero x k).obl p e H):FOk P H g w e a o (.lup tag zero x k):=by
 simp only[FOp.obl]at ho;obtain⟨h1,h2,h3,h4,h5,h6⟩:=ho;have hr:=Al he hx hp h1;have lB:=Al he kq hp h2;rw[Br h3]at hr;rw[Br h4]at lB;have mX:=lB.aF;have cW:=DL h6 mX;have hrm:(v:Value)→(A3 (k.v e).c1 (A4 H (x.v e).c1)).getD zero=(FOp.lup tag zero x k).val e H:=fun _=>rfl;generalize fZ:(x.v e).c1=cc at *;generalize fv:(k.v e).c1=kc at *;have j3:=hr.aF;generalize gA:a.eval x'=xv at j3 hr;have nj:=j3
 cases j3 with
 |mp l b bI=>
  simp only[Bp]at h5;split at h5
  ·rename_i n es hH
   have bC:=hs.objs l;rw[hH]at bC;obtain⟨b',ms,clock,k1,k2,k3,k4,k5,k6,k7,k8⟩:=bC;rw[bI]at k1;simp only[Jb,Jk,and_true]at k1;subst k1;simp only[A4,hH]at h6;have dv:(getObj b).run P w=.ok (.map ms clock) w:=by simp[getObj,Sem.run,k3]
   rcases RN h6 mX k4 k6 k8 with ⟨f1,f2,f3⟩|⟨j,m,y,f1,f2,f3,f4,f5,f6,f7⟩
   ·refine .mk' hs (v:=z) ?_ ?_ trivial
    ·simp only[execOp,hm,gA,Instr.lookup,Sem.run_bind,Aq hu,Result.andThen_ok,dv,Sem.run_pure,run_checkKey hk cW _ 9999,run_findKey hk f1,BJ hi hz];simp
    ·simp only[FOp.val,fZ,fv,A4,hH,f2,J0];exact GB be
   ·refine .mk' hs (v:=m.val) ?_ ?_ trivial
    ·simp only[execOp,hm,gA,Instr.lookup,Sem.run_bind,Aq hu,Result.andThen_ok,dv,Sem.run_pure,run_checkKey hk cW _ 9999,run_findKey hk f1];simp
    ·simp only[FOp.val,fZ,fv,A4,hH,f5,Ju];exact (k6 j y m f4 f2).2
  ·exact h5.elim
 |cm _ _ _ b0=>
  obtain⟨b,ms,clock,q1,q2,q3,q4,q5,q6⟩:=Fp (H:=H) nj;simp only[Value.map.injEq,Jb]at q1;subst q1;have dv:(getObj b0).run P w=.ok (.map ms clock) w:=by simp only[getObj,Sem.run,q2]
  rcases RN h6 mX q3 q5 q6 with ⟨f1,f2,f3⟩|⟨j,m,y,f1,f2,f3,f4,f5,f6,f7⟩
  ·refine .mk' hs (v:=z) ?_ ?_ trivial
   ·simp only[execOp,hm,gA,Instr.lookup,Sem.run_bind,Aq hu,Result.andThen_ok,dv,Sem.run_pure,run_checkKey hk cW _ 9999,run_findKey hk f1,BJ hi hz];simp
   ·simp only[FOp.val,fZ,fv,f2,J0];exact GB be
  ·refine .mk' hs (v:=m.val) ?_ ?_ trivial
   ·simp only[execOp,hm,gA,Instr.lookup,Sem.run_bind,Aq hu,Result.andThen_ok,dv,Sem.run_pure,run_checkKey hk cW _ 9999,run_findKey hk f1];simp
   ·simp only[FOp.val,fZ,fv,f5,Ju];exact (q5 j y m f4 f2).2
 |mnil=>
  refine .mk' hs (v:=z) ?_ ?_ trivial
  ·have ja:Instr.findNow (tagD tag) (a.eval k') ([]:List MapEntry) 0=some none:=rfl;have rQ:=run_findKey (P:=P) (w:=w) (kt:=kt) (k:=a.eval k') (l:=[]) hk ja;simp only[execOp,hm,gA,Instr.lookup,Sem.run_bind,Aq hu,Result.andThen_ok,Sem.run_pure,run_checkKey hk cW _ 9999,rQ,BJ hi hz];simp
  ·simp only[FOp.val,fZ,fv,A4,A3,J0];exact GB be
 |_=>simp[Bp]at h5
theorem XL {tag:Nat}{zero:V}{x k:Opd}{x' k':Operand}{t kt et:TypeId}{i:TypeInfo}{z:Value}(hm:o.op=.lookup t x' k' true)(hu:P.underlying t=some (.map kt et))
  (hk:P.underlying kt=some (tagD tag)) (hi:P.info? et=some i) (hz:i.zero=some z) (be:Cs zero z=true) (hx:mO x x'=true) (kq:mO k k'=true)
  (hs:Sat H g w) (he:EnvOk w g e a) (hp:p=true) (ho:(FOp.lup2 tag zero x k).obl p e H):FOk P H g w e a o (.lup2 tag zero x k):=by
 simp only[FOp.obl]at ho;obtain⟨h1,h2,h3,h4,h5,h6⟩:=ho;have hr:=Al he hx hp h1;have lB:=Al he kq hp h2;rw[Br h3]at hr;rw[Br h4]at lB;have mX:=lB.aF;have cW:=DL h6 mX;have two:∀{y:V} {v:Value} {b:Bool},RepV w g y v→RepV w g (.tup [y,.c (.bool b)]) (.tuple #[v,.bool b]):=fun {y v b} h=>
  .tup [y,.c (.bool b)] [v,.bool b] rfl fun j x u e1 e2=>by
   match j with
   |0=>cases e1;cases e2;exact h
   |1=>cases e1;cases e2;exact .c _ _ (.bool b)
   |j+2=>simp at e1
 generalize fZ:(x.v e).c1=cc at *;generalize fv:(k.v e).c1=kc at *;have j3:=hr.aF;generalize gA:a.eval x'=xv at j3 hr;have nj:=j3
 cases j3 with
 |mp l b bI=>
  simp only[Bp]at h5;split at h5
  ·rename_i n es hH
   have bC:=hs.objs l;rw[hH]at bC;obtain⟨b',ms,clock,k1,k2,k3,k4,k5,k6,k7,k8⟩:=bC;rw[bI]at k1;simp only[Jb,Jk,and_true]at k1;subst k1;simp only[A4,hH]at h6;have dv:(getObj b).run P w=.ok (.map ms clock) w:=by simp[getObj,Sem.run,k3]
   rcases RN h6 mX k4 k6 k8 with ⟨f1,f2,f3⟩|⟨j,m,y,f1,f2,f3,f4,f5,f6,f7⟩
   ·refine .mk' hs (v:=.tuple #[z,.bool false]) ?_ ?_ trivial
    ·simp only[execOp,hm,gA,Instr.lookup,Sem.run_bind,Aq hu,Result.andThen_ok,dv,Sem.run_pure,run_checkKey hk cW _ 9999,run_findKey hk f1,BJ hi hz];simp
    ·simp only[FOp.val,fZ,fv,A4,hH,f2,J0,Jaj];exact two (GB be)
   ·refine .mk' hs (v:=.tuple #[m.val,.bool true]) ?_ ?_ trivial
    ·simp only[execOp,hm,gA,Instr.lookup,Sem.run_bind,Aq hu,Result.andThen_ok,dv,Sem.run_pure,run_checkKey hk cW _ 9999,run_findKey hk f1];simp
    ·simp only[FOp.val,fZ,fv,A4,hH,f5,Ju,Option.isSome_some];exact two (k6 j y m f4 f2).2
  ·exact h5.elim
 |cm _ _ _ b0=>
  obtain⟨b,ms,clock,q1,q2,q3,q4,q5,q6⟩:=Fp (H:=H) nj;simp only[Value.map.injEq,Jb]at q1;subst q1;have dv:(getObj b0).run P w=.ok (.map ms clock) w:=by simp only[getObj,Sem.run,q2]
  rcases RN h6 mX q3 q5 q6 with ⟨f1,f2,f3⟩|⟨j,m,y,f1,f2,f3,f4,f5,f6,f7⟩
  ·refine .mk' hs (v:=.tuple #[z,.bool false]) ?_ ?_ trivial
   ·simp only[execOp,hm,gA,Instr.lookup,Sem.run_bind,Aq hu,Result.andThen_ok,dv,Sem.run_pure,run_checkKey hk cW _ 9999,run_findKey hk f1,BJ hi hz];simp
   ·simp only[FOp.val,fZ,fv,f2,J0,Jaj];exact two (GB be)
  ·refine .mk' hs (v:=.tuple #[m.val,.bool true]) ?_ ?_ trivial
   ·simp only[execOp,hm,gA,Instr.lookup,Sem.run_bind,Aq hu,Result.andThen_ok,dv,Sem.run_pure,run_checkKey hk cW _ 9999,run_findKey hk f1];simp
   ·simp only[FOp.val,fZ,fv,f5,Ju,Option.isSome_some];exact two (q5 j y m f4 f2).2
 |mnil=>
  refine .mk' hs (v:=.tuple #[z,.bool false]) ?_ ?_ trivial
  ·have ja:Instr.findNow (tagD tag) (a.eval k') ([]:List MapEntry) 0=some none:=rfl;have rQ:=run_findKey (P:=P) (w:=w) (kt:=kt) (k:=a.eval k') (l:=[]) hk ja;simp only[execOp,hm,gA,Instr.lookup,Sem.run_bind,Aq hu,Result.andThen_ok,Sem.run_pure,run_checkKey hk cW _ 9999,rQ,BJ hi hz];simp
  ·simp only[FOp.val,fZ,fv,A4,A3,J0,Jaj];exact two (GB be)
 |_=>simp[Bp]at h5
end Go.AE
namespace Go.AE
variable {P:Program}{H:Heap}{g:G}{w:World}{e:Env}{a:Act}{o:Oper}{p:Bool}
def Cy (P:Program)(fs:Array Field)(zl:Nat):List (Nat×Nat×Opd)→List (Nat×Operand)→Bool
 |[],[]=>true
 |(off,sz,x)::r,(i,y)::r'=>mO x y&&(match fs[i]? with
   |some f=>f.offset == off&&P.cellsOf f.type == sz
   |none=>false)&&decide (off+sz≤zl)&&decide (sz≠0)&&Cy P fs zl r r'
 |_,_=>false
def mRow:Nat→List Opd→List (Nat×Operand)→Bool
 |_,[],[]=>true
 |k,x::r,(i,y)::r'=>i == k&&mO x y&&mRow (k+1) r r'
 |_,_,_=>false
def mOs:List Opd→List Operand→Bool
 |[],[]=>true
 |x::r,y::r'=>mO x y&&mOs r r'
 |_,_=>false
theorem Fw:∀(xs:List Opd) (ys:List Operand),mOs xs ys=true→xs.length=ys.length∧∀(j:Nat) (x:Opd) (y:Operand),xs[j]? = some x→ys[j]? = some y→mO x y=true
 |[],[],_=>⟨rfl,ZV⟩
 |[],_::_,h=>by simp[mOs]at h
 |_::_,[],h=>by simp[mOs]at h
 |x::r,y::r',h=>by
  simp only[mOs,Ja]at h;obtain⟨h1,h2⟩:=Fw r r' h.2;refine⟨by simp[h1],fun j x' y' e1 e2=>?_⟩
  cases j with
  |zero=>simp at e1 e2;subst e1;subst e2;exact h.1
  |succ j=>exact h2 j x' y' ZbM ZaH
theorem NY {fs:Array Field}{zl:Nat}:∀(xs:List (Nat×Nat×Opd)) (ys:List (Nat×Operand)),Cy P fs zl xs ys=true→
  xs.length=ys.length∧∀(j:Nat) (x:Nat×Nat×Opd) (y:Nat×Operand),xs[j]? = some x→ys[j]? = some y→
   mO x.2.2 y.2=true∧(∃f,fs[y.1]? = some f∧f.offset=x.1∧P.cellsOf f.type=x.2.1)∧x.1+x.2.1≤zl∧x.2.1≠0
 |[],[],_=>⟨rfl,ZV⟩
 |[],_::_,h=>by simp[Cy]at h
 |_::_,[],h=>by simp[Cy]at h
 |(off,sz,x)::r,(i,y)::r',h=>by
  simp only[Cy,Ja,decide_eq_true_eq]at h;obtain⟨⟨⟨⟨h1,h2⟩,h3⟩,h4⟩,h5⟩:=h;obtain⟨k1,k2⟩:=NY r r' h5;refine⟨Zbi,fun j x' y' e1 e2=>?_⟩
  cases j with
  |zero=>
   simp at e1 e2;subst e1;subst e2;refine⟨h1,?_,h3,h4⟩;split at h2
   ·rename_i f hf;simp at h2;exact⟨f,hf,h2.1,h2.2⟩
   ·simp at h2
  |succ j=>exact k2 j x' y' ZbM ZaH
theorem FV:∀(k:Nat) (xs:List Opd) (ys:List (Nat×Operand)),mRow k xs ys=true→
  xs.length=ys.length∧∀(j:Nat) (x:Opd) (y:Nat×Operand),xs[j]? = some x→ys[j]? = some y→y.1=k+j∧mO x y.2=true
 |_,[],[],_=>⟨rfl,ZV⟩
 |_,[],_::_,h=>by simp[mRow]at h
 |_,_::_,[],h=>by simp[mRow]at h
 |k,x::r,(i,y)::r',h=>by
  simp only[mRow,Ja,beq_iff_eq]at h;obtain⟨⟨h1,h2⟩,h3⟩:=h;obtain⟨k1,k2⟩:=FV (k+1) r r' h3;refine⟨Zbi,fun j x' y' e1 e2=>?_⟩
  cases j with
  |zero=>simp at e1 e2;subst e1;subst e2;exact⟨by simp[h1],h2⟩
  |succ j=>
   have:=k2 j x' y' ZbM ZaH;exact⟨by rw[this.1];omega,this.2⟩
def B7 (P:Program)(t:TypeId)(n:Nat)(agg:Bool):Bool:=
 match P.underlying t,P.info? t with
 |some d,some i=>BO d == agg&&(if agg then i.size == n else n == 1)
 |_,_=>false
theorem GH {t:TypeId}{n:Nat}{agg:Bool}(h:B7 P t n agg=true) :
  ∃d i,P.underlying t=some d∧P.info? t=some i∧BO d=agg∧(agg=true→i.size=n)∧(agg=false→n=1):=by
 unfold B7 at h;split at h
 ·rename_i d i hd hi
  simp only[Ja,beq_iff_eq]at h;refine⟨d,i,hd,hi,h.1,fun ha=>?_,fun ha=>?_⟩
  ·subst ha;simpa using h.2
  ·subst ha;simpa using h.2
 ·simp at h
def B6 (P:Program)(t:TypeId)(sz:Nat):Bool:=
 match P.info? t with
 |some i=>i.size == sz
 |none=>false
theorem GG {t:TypeId}{sz:Nat}(h:B6 P t sz=true):∃i,P.info? t=some i∧i.size=sz:=by
 unfold B6 at h;split at h
 ·rename_i i hi;exact⟨i,hi,Zaz⟩
 ·simp at h
def D7 (P:Program)(t:TypeId)(zero:List C):Bool:=
 match P.info? t with
 |some i=>(match i.zero with
  |some z=>BB zero z
  |none=>false)
 |none=>false
theorem Q9l {t:TypeId}{zero:List C}(h:D7 P t zero=true):∃i z,P.info? t=some i∧i.zero=some z∧BB zero z=true:=by
 unfold D7 at h;split at h
 ·rename_i i hi
  split at h
  ·rename_i z hz;exact⟨i,z,hi,hz,h⟩
  ·simp at h
 ·simp at h
def CM (d:TypeDesc)(tag:Nat):Bool:=
 match d,tag with
 |.int .i64,0=>true
 |.string,1=>true
 |.bool,2=>true
 |_,_=>false
theorem Q9j {d:TypeDesc}{tag:Nat}(h:CM d tag=true):d=tagD tag:=by
 unfold CM at h;split at h <;> first|rfl|simp at h
def mF (P:Program)(o:Oper):FOp→Bool
 |.mv x=>match o.op with
  |.move y=>mO x y
  |.assign y=>mO x y
  |_=>false
 |.pick c a b=>match o.op with
  |.pick c' a' b'=>mO c c'&&mO a a'&&mO b b'
  |_=>false
 |.bin tag op a b=>match o.op with
  |.binOp op' t a' b' _=>op == op'&&mTag P tag t&&mO a a'&&mO b b'
  |_=>false
 |.not a=>match o.op with
  |.unOp .not _ a'=>mO a a'
  |_=>false
 |.fad off a=>match o.op with
  |.fieldAddr s y k=>mO a y&&(match P.underlying s with
   |some (.struct fs)=>(match fs[k]? with
    |some f=>f.offset == off&&(match P.info? f.type with
     |some i=>decide (i.size≠0)
     |none=>false)
    |none=>false)
   |_=>false)
  |_=>false
 |.iad sz a i=>match o.op with
  |.indexAddr t a' i'=>mO a a'&&mO i i'&&(match P.underlying t with
   |some (.slice el)=>B6 P el sz
   |_=>false)
  |_=>false
 |.ld n agg a=>match o.op with
  |.load t a'=>mO a a'&&B7 P t n agg
  |_=>false
 |.nck a=>match o.op with
  |.nilCheck a'=>mO a a'
  |_=>false
 |.len a=>match o.op with
  |.call { callee:=.builtin .len,args:=⟨[a']⟩,argTypes:=ats }=>mO a a'&&(match ats[0]? with
   |some t=>(match P.underlying t with
    |some (.slice _)=>true
    |_=>false)
   |none=>false)
  |_=>false
 |.lenx a=>false
 |.lens a=>match o.op with
  |.call { callee:=.builtin .len,args:=⟨[a']⟩,argTypes:=ats }=>mO a a'&&(match ats[0]? with
   |some t=>(match P.underlying t with
    |some .string=>true
    |_=>false)
   |none=>false)
  |_=>false
 |.lensx a=>false
 |.lenm a=>false
 |.sli sz a lo hi=>match o.op with
  |.slice t a' lo' eO none=>mO a a'&&mOpt lo lo'&&mOpt hi eO&&(match P.underlying t with
   |some (.slice el)=>B6 P el sz
   |_=>false)
  |_=>false
 |.iaa sz n a i=>match o.op with
  |.indexAddr t a' i'=>mO a a'&&mO i i'&&(match P.underlying t with
   |some (.array m el)=>m == n&&B6 P el sz
   |_=>false)
  |_=>false
 |.aslp n a hi=>match o.op with
  |.slice t a' none eO none=>mO a a'&&mOpt hi eO&&(match P.underlying t with
   |some (.array m el)=>m == n&&(P.info? el).isSome
   |_=>false)
  |_=>false
 |.slm sz a hi=>false
 |.b2s a=>false
 |.ldg n b _=>match o.op with
  |.load t (.global b')=>b' == b&&B7 P t n true
  |_=>false
 |.ldo b _=>match o.op with
  |.load t (.global b')=>b' == b&&B7 P t 1 false
  |_=>false
 |.aslg n b _=>match o.op with
  |.slice t (.global b') none none none=>b' == b&&(match P.underlying t with
   |some (.array m el)=>m == n&&(P.info? el).isSome
   |_=>false)
  |_=>false
 |.iax sz n a i=>match o.op with
  |.index t a' i'=>mO a a'&&mO i i'&&(match P.underlying t with
   |some (.array m el)=>m == n&&B7 P el sz true
   |_=>false)
  |_=>false
 |.asl n a=>false
 |.slis a lo hi=>match o.op with
  |.slice t a' lo' eO none=>mO a a'&&mOpt lo lo'&&mOpt hi eO&&(match P.underlying t with
   |some .string=>true
   |_=>false)
  |_=>false
 |.ext a i=>match o.op with
  |.extract a' i'=>mO a a'&&i == i'
  |_=>false
 |.fld off n agg a=>match o.op with
  |.field s y k=>mO a y&&(match P.underlying s with
   |some (.struct fs)=>(match fs[k]? with
    |some f=>f.offset == off&&B7 P f.type n agg
    |none=>false)
   |_=>false)
  |_=>false
 |.idx a i=>match o.op with
  |.index t a' i'=>mO a a'&&mO i i'&&(match P.underlying t with
   |some .string=>true
   |_=>false)
  |_=>false
 |.bld zero parts=>match o.op with
  |.build t parts'=>(match P.underlying t with
   |some (.struct fs)=>D7 P t zero&&fs.toList.all (fun f=>(P.info? f.type).isSome)&&Cy P fs zero.length parts parts'.toList
   |_=>false)
  |_=>false
 |.fH sz parts=>match o.op with
  |.buildSlice t n parts'=>n == parts'.size&&decide (n * sz≤2 ^ 24)&&mRow 0 parts parts'.toList&&decide (sz≠0)&&(match P.underlying t with
   |some (.slice el)=>B6 P el sz&&(match P.info? el with
    |some i=>i.zero.isSome
    |none=>false)
   |_=>false)
  |_=>false
 |.box a=>match o.op with
  |.box _ a'=>mO a a'
  |_=>false
 |.cvt k a=>match o.op with
  |.convert src dst a'=>mO a a'&&(match P.underlying dst,P.underlying src with
   |some (.int k'),some _=>k == k'
   |_,_=>false)
  |_=>false
 |.mkf f caps=>match o.op with
  |.makeFunc (.func f') ⟨[]⟩ caps'=>f == f'&&mOs caps caps'.toList
  |_=>false
 |.lup tag zero m k=>match o.op with
  |.lookup t m' k' false=>mO m m'&&mO k k'&&(match P.underlying t with
   |some (.map kt et)=>(match P.underlying kt with
    |some d=>CM d tag
    |none=>false)&&(match P.info? et with
    |some i=>(match i.zero with
     |some z=>Cs zero z
     |none=>false)
    |none=>false)
   |_=>false)
  |_=>false
 |.lup2 tag zero m k=>match o.op with
  |.lookup t m' k' true=>mO m m'&&mO k k'&&(match P.underlying t with
   |some (.map kt et)=>(match P.underlying kt with
    |some d=>CM d tag
    |none=>false)&&(match P.info? et with
    |some i=>(match i.zero with
     |some z=>Cs zero z
     |none=>false)
    |none=>false)
   |_=>false)
  |_=>false
 |.mx a b=>match o.op with
  |.call { callee:=.builtin .max,args:=⟨[a',b']⟩,argTypes:=_ }=>mO a a'&&mO b b'
  |_=>false
 |.mn a b=>match o.op with
  |.call { callee:=.builtin .min,args:=⟨[a',b']⟩,argTypes:=_ }=>mO a a'&&mO b b'
  |_=>false
theorem KD {op:FOp}(hm:mF P o op=true)(hs:Sat H g w)(he:EnvOk w g e a)(hp:p=true)(ho:op.obl p e H):FOk P H g w e a o op:=by
 cases op with
 |mv x=>
  simp only[mF]at hm;split at hm
  ·exact s_mv (.inl ‹_›) hm hs he hp ho
  ·exact s_mv (.inr ‹_›) hm hs he hp ho
  ·simp at hm
 |pick c x y=>
  simp only[mF]at hm;split at hm
  ·simp only[Ja]at hm;exact XK ‹_› hm.1.1 hm.1.2 hm.2 hs he hp ho
  ·simp at hm
 |bin tag bo x y=>
  simp only[mF]at hm;split at hm
  ·simp only[Ja,beq_iff_eq]at hm;obtain⟨⟨⟨rfl,h2⟩,h3⟩,h4⟩:=hm;exact XM ‹_› h2 h3 h4 hs he hp ho
  ·simp at hm
 |not x=>
  simp only[mF]at hm;split at hm
  ·exact Xi ‹_› hm hs he hp ho
  ·simp at hm
 |fad off x=>
  simp only[mF]at hm;split at hm
  ·rename_i s y k b7
   rw[Ja]at hm;obtain⟨h1,h2⟩:=hm;split at h2
   ·rename_i fs gu
    split at h2
    ·rename_i f hf
     rw[Ja]at h2;obtain⟨h3,h4⟩:=h2;split at h4
     ·rename_i i hi
      exact Xu b7 gu hf (by simpa using h3) hi (by simpa using h4) h1 hs he hp ho
     ·simp at h4
    ·simp at h2
   ·simp at h2
  ·simp at hm
 |iad sz x y=>
  simp only[mF]at hm;split at hm
  ·rename_i t x' y' b7
   simp only[Ja]at hm;obtain⟨⟨h1,h2⟩,h3⟩:=hm;split at h3
   ·rename_i el eu
    obtain⟨i,hi,hz⟩:=GG h3;exact Xr b7 eu hi hz h1 h2 hs he hp ho
   ·simp at h3
  ·simp at hm
 |ld n agg x=>
  simp only[mF]at hm;split at hm
  ·rename_i t x' b7
   rw[Ja]at hm;obtain⟨d,i,h1,h2,h3,h4,h5⟩:=GH hm.2;exact s_ld b7 h1 h2 h3 h4 h5 hm.1 hs he hp ho
  ·simp at hm
 |nck x=>
  simp only[mF]at hm;split at hm
  ·exact Xj ‹_› hm hs he hp ho
  ·simp at hm
 |len x=>
  simp only[mF]at hm;split at hm
  ·rename_i x' ats b7
   rw[Ja]at hm;obtain⟨h1,h2⟩:=hm;split at h2
   ·rename_i t ht
    split at h2
    ·exact Xm b7 ht ‹_› h1 hs he hp ho
    ·simp at h2
   ·simp at h2
  ·simp at hm
 |lenx x=>
  simp[mF]at hm
 |lens x=>
  simp only[mF]at hm;split at hm
  ·rename_i x' ats b7
   rw[Ja]at hm;obtain⟨h1,h2⟩:=hm;split at h2
   ·rename_i t ht
    split at h2
    ·exact Ys b7 ht ‹_› h1 hs he hp ho
    ·simp at h2
   ·simp at h2
  ·simp at hm
 |lensx x=>
  simp[mF]at hm
 |lenm x=>
  simp[mF]at hm
 |sli sz x lo hi=>
  simp only[mF]at hm;split at hm
  ·rename_i t x' lo' eO b7
   simp only[Ja]at hm;obtain⟨⟨⟨h1,h2⟩,h3⟩,h4⟩:=hm;split at h4
   ·rename_i el eu
    obtain⟨i,hi,hz⟩:=GG h4;exact Xh b7 eu hi hz h1 h2 h3 hs he hp ho
   ·simp at h4
  ·simp at hm
 |iaa sz n x y=>
  simp only[mF]at hm;split at hm
  ·rename_i t x' y' b7
   simp only[Ja]at hm;obtain⟨⟨h1,h2⟩,h3⟩:=hm;split at h3
   ·rename_i m el eu
    rw[Ja,beq_iff_eq]at h3;obtain⟨rfl,h3⟩:=h3;obtain⟨i,hi,hz⟩:=GG h3;exact Xs b7 eu hi hz h1 h2 hs he hp ho
   ·simp at h3
  ·simp at hm
 |aslp n x hi=>
  simp only[mF]at hm;split at hm
  ·rename_i t x' eO b7
   simp only[Ja]at hm;obtain⟨⟨h1,h4⟩,h2⟩:=hm;split at h2
   ·rename_i m el cg
    rw[Ja,beq_iff_eq]at h2;obtain⟨rfl,h3⟩:=h2;obtain⟨i,hi⟩:=J1.1 h3;exact Yw b7 cg hi h1 h4 hs he hp ho
   ·simp at h2
  ·simp at hm
 |slm sz x hi=>
  simp[mF]at hm
 |b2s x=>
  simp[mF]at hm
 |ldg n b l=>
  simp only[mF]at hm;split at hm
  ·rename_i t b' b7
   simp only[Ja,beq_iff_eq]at hm;obtain⟨rfl,h2⟩:=hm;obtain⟨d,i,k1,k2,k3,k4,k5⟩:=GH h2;exact Xo b7 k1 k2 k3 (k4 rfl) hs ho
  ·simp at hm
 |ldo b l=>
  simp only[mF]at hm;split at hm
  ·rename_i t b' b7
   simp only[Ja,beq_iff_eq]at hm;obtain⟨rfl,h2⟩:=hm;obtain⟨d,i,k1,k2,k3,k4,k5⟩:=GH h2;exact Xn b7 k1 k2 k3 hs ho
  ·simp at hm
 |aslg n b l=>
  simp only[mF]at hm;split at hm
  ·rename_i t b' b7
   simp only[Ja,beq_iff_eq]at hm;obtain⟨rfl,h2⟩:=hm;split at h2
   ·rename_i m el eu
    rw[Ja,beq_iff_eq]at h2;obtain⟨rfl,h3⟩:=h2;obtain⟨i,hi⟩:=J1.1 h3;exact Yx b7 eu hi hs ho
   ·simp at h2
  ·simp at hm
 |iax sz n x y=>
  simp only[mF]at hm;split at hm
  ·rename_i t x' y' b7
   simp only[Ja]at hm;obtain⟨⟨h1,h2⟩,h3⟩:=hm;split at h3
   ·rename_i m el eu
    rw[Ja,beq_iff_eq]at h3;obtain⟨rfl,h3⟩:=h3;obtain⟨d,i,k1,k2,k3,k4,k5⟩:=GH h3;exact Xq b7 eu k1 k3 k2 (k4 rfl) h1 h2 hs he hp ho
   ·simp at h3
  ·simp at hm
 |asl n x=>
  simp[mF]at hm
 |slis x lo hi=>
  simp only[mF]at hm;split at hm
  ·rename_i t x' lo' eO b7
   simp only[Ja]at hm;obtain⟨⟨⟨h1,h2⟩,h3⟩,h4⟩:=hm;split at h4
   ·exact XJ b7 ‹_› h1 h2 h3 hs he hp ho
   ·simp at h4
  ·simp at hm
 |ext x i=>
  simp only[mF]at hm;split at hm
  ·rename_i x' i' b7
   simp only[Ja,beq_iff_eq]at hm;obtain⟨h1,rfl⟩:=hm;exact Xv b7 h1 hs he hp ho
  ·simp at hm
 |fld off n agg x=>
  simp only[mF]at hm;split at hm
  ·rename_i s y k b7
   rw[Ja]at hm;obtain⟨h1,h2⟩:=hm;split at h2
   ·rename_i fs gu
    split at h2
    ·rename_i f hf
     rw[Ja]at h2;obtain⟨h3,h4⟩:=h2;obtain⟨d,i,k1,k2,k3,k4,k5⟩:=GH h4;exact Xt b7 gu hf (by simpa using h3) k2 k1 k3 k4 k5 h1 hs he hp ho
    ·simp at h2
   ·simp at h2
  ·simp at hm
 |idx x y=>
  simp only[mF]at hm;split at hm
  ·rename_i t x' y' b7
   simp only[Ja]at hm;obtain⟨⟨h1,h2⟩,h3⟩:=hm;split at h3
   ·exact Xp b7 ‹_› h1 h2 hs he hp ho
   ·simp at h3
  ·simp at hm
 |bld zero parts=>
  simp only[mF]at hm;split at hm
  ·rename_i t parts' b7
   split at hm
   ·rename_i fs gu
    simp only[Ja]at hm;obtain⟨⟨h1,h2⟩,h3⟩:=hm;obtain⟨i,z,k1,k2,k3⟩:=Q9l h1;obtain⟨k4,k5⟩:=NY _ _ h3;rw[J5]at h2;refine Xz b7 gu k1 k2 k3 (fun f hf=>J1.1 (h2 f hf)) (by simpa using k4) (fun j x y e1 e2=>k5 j x y e1 ZaH) hs he hp ho
   ·simp at hm
  ·simp at hm
 |fH sz parts=>
  simp only[mF]at hm;split at hm
  ·rename_i t n parts' b7
   simp only[Ja,decide_eq_true_eq,beq_iff_eq]at hm;obtain⟨⟨⟨⟨h1,h2⟩,h3⟩,h4⟩,h5⟩:=hm;split at h5
   ·rename_i el eu
    rw[Ja]at h5;obtain⟨i,hi,hz⟩:=GG h5.1;have h6:=h5.2;rw[hi]at h6;obtain⟨z,bF⟩:=J1.1 h6;obtain⟨k1,k2⟩:=FV _ _ _ h3;exact Xx b7 eu hi bF hz h4 h1 h2 (by simpa using k1) (fun j x y e1 e2=>by
     have:=k2 j x y e1 ZaH;exact⟨by simpa using this.1,this.2⟩) hs he hp ho
   ·simp at h5
  ·simp at hm
 |box x=>
  simp only[mF]at hm;split at hm
  ·exact Xy ‹_› hm hs he hp ho
  ·simp at hm
 |cvt k x=>
  simp only[mF]at hm;split at hm
  ·rename_i src dst x' b7
   rw[Ja]at hm;obtain⟨h1,h2⟩:=hm;split at h2
   ·simp only[beq_iff_eq]at h2;subst h2;exact Xw b7 ‹_› ‹_› h1 hs he hp ho
   ·simp at h2
  ·simp at hm
 |mkf f caps=>
  simp only[mF]at hm;split at hm
  ·rename_i f' caps' b7
   simp only[Ja,beq_iff_eq]at hm;obtain⟨rfl,h2⟩:=hm;obtain⟨k1,k2⟩:=Fw _ _ h2;exact Xk b7 (by simpa using k1) (fun j x y e1 e2=>k2 j x y e1 ZaH) hs he hp ho
  ·simp at hm
 |lup tag zero m k=>
  simp only[mF]at hm;split at hm
  ·rename_i t m' k' b7
   simp only[Ja]at hm;obtain⟨⟨h1,h2⟩,h3⟩:=hm;split at h3
   ·rename_i kt et iG
    rw[Ja]at h3;obtain⟨h4,h5⟩:=h3;split at h4
    ·rename_i d hd
     have:=Q9j h4;subst this;split at h5
     ·rename_i i hi
      split at h5
      ·rename_i z hz
       exact Xl b7 iG hd hi hz h5 h1 h2 hs he hp ho
      ·simp at h5
     ·simp at h5
    ·simp at h4
   ·simp at h3
  ·simp at hm
 |lup2 tag zero m k=>
  simp only[mF]at hm;split at hm
  ·rename_i t m' k' b7
   simp only[Ja]at hm;obtain⟨⟨h1,h2⟩,h3⟩:=hm;split at h3
   ·rename_i kt et iG
    rw[Ja]at h3;obtain⟨h4,h5⟩:=h3;split at h4
    ·rename_i d hd
     have:=Q9j h4;subst this;split at h5
     ·rename_i i hi
      split at h5
      ·rename_i z hz
       exact XL b7 iG hd hi hz h5 h1 h2 hs he hp ho
      ·simp at h5
     ·simp at h5
    ·simp at h4
   ·simp at h3
  ·simp at hm
 |mx x y=>
  simp only[mF]at hm;split at hm
  ·simp only[Ja]at hm;exact s_mx ‹_› hm.1 hm.2 hs he hp ho
  ·simp at hm
 |mn x y=>
  simp only[mF]at hm;split at hm
  ·simp only[Ja]at hm;exact s_mn ‹_› hm.1 hm.2 hs he hp ho
  ·simp at hm
def EOk (P:Program)(H:Heap)(g:G)(w:World)(a:Act)(o:Oper)(K:V→Heap→Prop):Prop:=
 ∀(Q:Exit→Act→World→Prop) (next:Act→World→Prop),
  (∀x v w' H' g',K x H'→Stp H g w H' g' w'→RepV w' g' x v→next (a.put o.dst v) w')→
  (∀v w' H' g',K (.pn v) H'→Stp H g w H' g' w'→Q (.panic [{ v:=v,recovered:=false }]) a w')→o.wp P a w next Q
theorem EOk.value {K:V→Heap→Prop}{v:Value}{w':World}{x:V}{H':Heap}{g':G}(hr:(execOp a.eval o).run P w=.ok (.value v) w')(hk:K x H')(aC:Stp H g w H' g' w')(hv:RepV w' g' x v) :
  EOk P H g w a o K:=by
 intro Q next hn iF;unfold Oper.wp;rw[hr,Oper.upon_value];exact hn x v w' H' g' hk aC hv
theorem EOk.skip {K:V→Heap→Prop}{w':World}{H':Heap}{g':G}(hr:(execOp a.eval o).run P w=.ok .skip w')(hk:K .unk H')(aC:Stp H g w H' g' w') :
  EOk P H g w a o K:=by
 intro Q next hn iF;unfold Oper.wp;rw[hr,Oper.upon_skip];exact hn .unk undef w' H' g' hk aC (.unk _)
theorem Sat.newName (hs:Sat H g w):∃l,g.io l=none∧H l=.none:=by
 obtain⟨N,hN⟩:=hs.names;exact⟨N,hN N (Jz _),hs.none_of_io (hN N (Jz _))⟩
def G.newObj (g:G)(l nb sz base:Nat):G:=
 { g with own:=fun b=>if b=nb then some (l,[])else g.own b,io:=fun x=>if x=l then some (nb,sz,base)else g.io x }
theorem EB (hs:Sat H g w){l:Nat}(hl:g.io l=none)(sz base:Nat)(x:Go.Obj):Le g w (g.newObj l w.heap.size sz base) (w.alloc x):=by
 refine⟨fun b hb=>⟨hb,Di _ _ (Fh hs hb)⟩,fun m y hm=>?_,ZV,fun b T n hn=>?_,rfl,rfl,rfl⟩
 ·simp only[G.newObj];have:m≠l:=fun h=>by subst h;rw[hl]at hm;simp at hm
  rw[if_neg this];exact hm
 ·rw[S9 (Di _ _ (Ft hn))];exact hn
theorem Qayj (hs:Sat H g w){l:Nat}(sz base:Nat)(x:Go.Obj)(m:Nat):Cp g w (g.newObj l w.heap.size sz base) (w.alloc x) m:=by
 intro b q hb;have:=BV hs hb;refine⟨?_,Di _ _ this⟩;simp only[G.newObj];rw[if_neg ZT];exact hb
theorem Dw (hs:Sat H g w){l:Nat}(hl:g.io l=none)(sz base:Nat)(x:Go.Obj)(ob:Obj)
  (bC:∀g',g'=g.newObj l w.heap.size sz base→SatObj (H.set l ob) g' (w.alloc x) l ob) :
  Stp H g w (H.set l ob) (g.newObj l w.heap.size sz base) (w.alloc x):=by
 have aE:=EB hs hl sz base x;have hk:=Qayj hs (l:=l) sz base x;have hH:H l=.none:=hs.none_of_io hl;refine⟨aE,fun m hm hn=>?_,⟨fun b hb=>?_,?_,fun b y hb=>?_,fun b m q hb=>?_,fun m=>?_⟩⟩
 ·have:m≠l:=fun h=>by subst h;exact hm hl
  rw[Heap.aj _ _ this];exact⟨hn,fun b q hb=>hk m b q hb⟩
 ·simp only[World.size_alloc]at hb;refine⟨(hs.fresh b ZT).1,?_⟩;simp only[G.newObj];rw[if_neg ZT];exact (hs.fresh b ZT).2
 ·obtain⟨N,hN⟩:=hs.names;refine⟨max N (l+1),fun m hm=>?_⟩;simp only[G.newObj];rw[if_neg ZT];exact hN m ZT
 ·simp only[G.newObj]at hb;split at hb
  ·rename_i h;subst h;exact (hs.fresh _ (Jz _)).1
  ·exact hs.excl b y hb
 ·simp only[G.newObj]at hb⊢;split at hb
  ·simp at hb;obtain⟨rfl,rfl⟩:=hb;simp
  ·split
   ·simp
   ·exact hs.named b m q hb
 ·by_cases hm:m=l
  ·subst hm;rw[Heap.aK];exact bC _ rfl
  ·have dg:=Heap.aj H ob hm;rw[dg,←dg];refine SatObj.keep hs aE (hk m) dg fun m' v left cur hc v' es hv=>?_;by_cases em:m'=l
   ·subst em;have oA:=hs.objs m;rw[hc]at oA;obtain⟨b,mb,si,se,h1,h2,h3,h4,h5⟩:=oA;rw[hl]at h4;simp at h4
   ·rw[Heap.aj _ _ em]at hv;exact .inl ⟨hv,hk m'⟩
theorem TD {l:Nat}{cells:List C}{vs:Array Value}{T:TypeId}{H':Heap}(hr:∀(j:Nat) (c:C) (u:Value),cells[j]? = some c→vs[j]? = some u→RepC w g c u)(aO:vs.size=cells.length)
  (aE:Le g w (g.newObj l w.heap.size cells.length 0) (w.alloc (.cells vs T))) :
  SatObj H' (g.newObj l w.heap.size cells.length 0) (w.alloc (.cells vs T)) l (.st cells):=by
 refine⟨w.heap.size,cells.length,T,vs,Zaf,Zaf,Cl _ _,aO,fun k c v h1 h2=>.plain _ _ _ _ ((hr k c v h1 h2).mono aE)⟩
theorem Qbpd {cells:List C}{t:TypeId}{i:TypeInfo}{z:Value}{K:V→Heap→Prop}(hm:o.op=.alloc t)(hi:P.info? t=some i)(hz:i.zero=some z)(be:BB cells z=true)
  (hs:Sat H g w) (ho:(EOp.alloc cells).eff P p e H K):EOk P H g w a o K:=by
 obtain⟨l,hl,hH⟩:=hs.newName;have hr:=Hh (w:=w) (g:=g) be;have aE:=EB hs hl cells.length 0 (.cells z.cells t);have aC:=Dw hs hl cells.length 0 (.cells z.cells t) (.st cells) (fun g' hg=>by subst hg;exact TD hr.2 hr.1 aE);refine EOk.value (v:=.pointer (some ⟨w.heap.size,0,none⟩)) (x:=.c (.ptr l 0)) ?_ (ho l hH) aC ?_
 ·simp[execOp,hm,Instr.alloc,BJ hi hz,newVar,newRow]
 ·exact .c _ _ (.ptr l 0 w.heap.size cells.length 0 Zaf)
theorem Y1 {x:Opd}{x':Operand}{t:TypeId}{K:V→Heap→Prop}(hm:o.op=.box t x')(hx:mO x x'=true)
  (hs:Sat H g w) (he:EnvOk w g e a) (hp:p=true) (ho:(EOp.boxm x).eff P p e H K):EOk P H g w a o K:=by
 simp only[EOp.eff]at ho;obtain⟨h1,h2,h3⟩:=ho;have hr:=Al he hx hp h1;obtain⟨hz,hc⟩:=FS hr h2;obtain⟨l,hl,hH⟩:=hs.newName;have aE:=EB hs hl (x.v e).cells.length 0 (.cells (a.eval x').cells t);have aC:=Dw hs hl (x.v e).cells.length 0 (.cells (a.eval x').cells t) (.st (x.v e).cells) (fun g' hg=>by subst hg;exact TD hc hz aE);refine EOk.value (v:=.pointer (some ⟨w.heap.size,0,none⟩)) (x:=.c (.ptr l 0)) ?_ (h3 l hH) aC ?_
 ·simp[execOp,hm,Instr.box,newVar,newRow]
 ·exact .c _ _ (.ptr l 0 w.heap.size (x.v e).cells.length 0 Zaf)
def World.az (w:World)(b:Nat)(cs:Array Value)(T:TypeId):World:={ w with heap:=w.heap.setIfInBounds b (.cells cs T (0,0)) }
theorem D5 {w:World}{b:Nat}{cs:Array Value}{T:TypeId}(h:b<w.heap.size):(World.az w b cs T).heap[b]? = some (.cells cs T (0,0)):=by
 simp[World.az,h]
theorem EG {w:World}{b b':Nat}{cs:Array Value}{T:TypeId}(h:b'≠b):(World.az w b cs T).heap[b']? = w.heap[b']?:=by
 simp only[World.az];rw[Jq (Ne.symm h)]
theorem Qaht {w:World}{b k:Nat}{cs:Array Value}{T:TypeId}{v:Value}(h:w.heap[b]? = some (.cells cs T (0,0))) :
  w.setCell ⟨b,k,none⟩ v=World.az w b (cs.setIfInBounds k v) T:=by
 simp only[World.setCell,World.az];congr 1;apply Jab;apply Ja5;intro i;simp only[Jw,J9];by_cases hi:b=i
 ·subst hi;rw[if_pos rfl,h];have af:b<w.heap.size:=by
   rcases Jg b w.heap.size with h'|h'
   ·exact h'
   ·simp[Jl h']at h
  simp[af]
 ·rw[if_neg hi,Jq hi]
theorem Q99 (w:World)(b:Nat)(cs cs':Array Value)(T:TypeId):World.az (World.az w b cs T) b cs' T=World.az w b cs' T:=by
 simp only[World.az,Array.setIfInBounds_setIfInBounds]
theorem Su:∀(vs:List Value) (i:Nat) (w:World) (b k:Nat) (cs:Array Value) (T:TypeId),w.heap[b]? = some (.cells cs T (0,0))→k+i+vs.length≤cs.size→(∀v∈vs,v.oneCell'=true)→
  (storeCells ⟨b,k,none⟩ vs i).run P w=.ok () (World.az w b ((vs.zipIdx i).foldl (fun (cs:Array Value) (x:Value×Nat)=>cs.setIfInBounds (k+x.2) x.1) cs) T)
 |[],i,w,b,k,cs,T,h,_,_=>by
  simp only[storeCells,Sem.run_pure,List.zipIdx_nil,List.foldl_nil];congr 1;simp only[World.az];have af:b<w.heap.size:=by
   rcases Jg b w.heap.size with h'|h'
   ·exact h'
   ·simp[Jl h']at h
  have:w.heap.setIfInBounds b (.cells cs T (0,0))=w.heap:=by
   apply Jab;apply Ja5;intro j;simp only[Jw];by_cases hj:b=j
   ·subst hj;rw[h];simp[af]
   ·rw[Jq hj]
  rw[this]
 |v::vs,i,w,b,k,cs,T,h,hb,hv=>by
  simp only[J8]at hb;have af:k+i<cs.size:=ZT
  have ca:w.cell? ⟨b,k+i,none⟩=some cs[k+i]:=by rw[Dy h];exact Jf af
  have mZ:w.frozen? ⟨b,k+i,none⟩=false:=by simp[World.frozen?,h]
  have h1:=hv v ZV;have aC:(store ⟨b,k+i,none⟩ v).run P w=.ok () (w.setCell ⟨b,k+i,none⟩ v):=by
   rw[run_store _ _ _ _ _ h1];simp[ca,mZ]
  have ev:b<w.heap.size:=by
   rcases Jg b w.heap.size with h'|h'
   ·exact h'
   ·simp[Jl h']at h
  simp only[storeCells,Sem.run_bind,BL,aC,Result.andThen_ok];rw[Qaht h];rw[Su vs (i+1) _ b k (cs.setIfInBounds (k+i) v) T (D5 ev) Zac (fun x hx=>hv x Zbw)];rw[Q99];rfl
theorem Qbe0 (hs:Sat H g w){l b:Nat}(hb:g.own b=some (l,[])){w':World}(aO:w'.heap.size=w.heap.size)(gm:∀b',b'≠b→w'.heap[b']? = w.heap[b']?)
  (fM:∀T n,w.shape? b=some (T,n)→w'.shape? b=some (T,n)) (ht:w'.tape=w.tape) (fN:w'.os=w.os) (o0:w'.output=w.output):Le g w g w':=by
 refine⟨fun b' br=>⟨br,gm b' fun h=>?_⟩,fun _ _ h=>h,ZT,fun b' T n hn=>?_,ht,fN,o0⟩
 ·subst h;rw[hs.excl _ _ hb]at br;simp at br
 ·by_cases h:b'=b
  ·subst h;exact fM T n hn
  ·rw[S9 (gm b' h)];exact hn
theorem Qaw0 {l b:Nat}(hb:g.own b=some (l,[])){w':World}(gm:∀b',b'≠b→w'.heap[b']? = w.heap[b']?){m:Nat}(hm:m≠l):Cp g w g w' m:=by
 intro b' q hq;refine⟨hq,gm b' fun h=>?_⟩;subst h;rw[hb]at hq;simp at hq;exact hm hq.1.symm
theorem Q2x {l b:Nat}(hb:g.own b=some (l,[])){w':World}(aE:Le g w g w')(gm:∀b',b'≠b→w'.heap[b']? = w.heap[b']?){q:List Nat}(hq:q≠[]){c:C}{v:Value}
  (h:RepO w g l q c v):RepO w' g l q c v:=by
 refine h.move aE fun r b' br=>⟨br,gm b' fun h=>?_⟩;subst h;rw[hb]at br;simp only[Jb,Jk,true_and]at br;have:=congrArg List.length br;simp at this;exact hq (Jt.1 ZT)
theorem FZ (hs:Sat H g w){l b:Nat}(hb:g.own b=some (l,[])){w':World}(aO:w'.heap.size=w.heap.size)(gm:∀b',b'≠b→w'.heap[b']? = w.heap[b']?)
  (fM:∀T n,w.shape? b=some (T,n)→w'.shape? b=some (T,n)) (ht:w'.tape=w.tape) (fN:w'.os=w.os) (o0:w'.output=w.output) (ob:Obj) (i0:H l≠.none)
  (bC:Le g w g w'→SatObj (H.set l ob) g w' l ob) (mg:∀v es,ob=.map v es→∃v0 es0,H l=.map v0 es0∧v0<v):Stp H g w (H.set l ob) g w':=by
 have aE:=Qbe0 hs hb aO gm fM ht fN o0;have hk:=fun (m:Nat) (hm:m≠l)=>Qaw0 (g:=g) (w:=w) hb gm hm;refine⟨aE,fun m hm hn=>?_,⟨fun b' br=>hs.fresh b' ZT,hs.names,hs.excl,hs.named,fun m=>?_⟩⟩
 ·have:m≠l:=fun h=>i0 (h▸hn);rw[Heap.aj _ _ this];exact⟨hn,fun b' q hq=>hk m this b' q hq⟩
 ·by_cases hm:m=l
  ·subst hm;rw[Heap.aK];exact bC aE
  ·have dg:=Heap.aj H ob hm;rw[dg,←dg];refine SatObj.keep hs aE (hk m hm) dg fun m' v left cur hc v' es hv=>?_;by_cases em:m'=l
   ·subst em;rw[Heap.aK]at hv;obtain⟨v0,es0,q1,q2⟩:=mg v' es hv;exact .inr ⟨v0,es0,q1,q2⟩
   ·rw[Heap.aj _ _ em]at hv;exact .inl ⟨hv,hk m' em⟩
theorem G9 {w:World}{b:Nat}{x:Go.Obj}(h:w.heap[b]? = some x):b<w.heap.size:=by
 rcases Jg b w.heap.size with h'|h'
 ·exact h'
 ·simp[Jl h']at h
theorem T7 (hs:Sat H g w){l b:Nat}(hb:g.own b=some (l,[])){cs cs':Array Value}{T:TypeId}(hw:w.heap[b]? = some (.cells cs T (0,0)))(aO:cs'.size=cs.size)(ob:Obj)(i0:H l≠.none)
  (bC:Le g w g (World.az w b cs' T)→(World.az w b cs' T).heap[b]? = some (.cells cs' T (0,0))→SatObj (H.set l ob) g (World.az w b cs' T) l ob)
  (mg:∀v es,ob≠.map v es):Stp H g w (H.set l ob) g (World.az w b cs' T):=by
 have af:=G9 hw;refine FZ hs hb (by simp[World.az]) (fun b' h=>EG h) (fun T' n hn=>?_) rfl rfl rfl ob i0 (fun aE=>bC aE (D5 af)) (fun v es h=>absurd h (mg v es));simp only[World.shape?,hw,Jb,Jk]at hn;simp only[World.shape?,D5 af,Jb,Jk];rw[aO];exact hn
theorem Ld {row vs:List C}{k j:Nat}(hb:k+vs.length≤row.length):(Dn row k vs)[j]? = if k≤j∧j<k+vs.length then vs[j-k]? else row[j]?:=by
 unfold Dn;by_cases hj:k≤j∧j<k+vs.length
 ·rw[if_pos hj,J3,Jp Zac,Jo Zac];congr 1;simp;omega
 ·rw[if_neg hj];by_cases hl:j<k
  ·rw[J3,Jo Zac,Jn,if_pos hl]
  ·rw[Jp Zac,Js];congr 1;simp;omega
theorem KZ {row vs:List C}{k:Nat}(hb:k+vs.length≤row.length):(Dn row k vs).length=row.length:=by
 simp[Dn];omega
theorem XR {n:Nat}{x y:Opd}{x' y':Operand}{t:TypeId}{i:TypeInfo}{K:V→Heap→Prop}(hm:o.op=.store t x' y')(hi:P.info? t=some i)(aO:i.size=n)(hx:mO x x'=true)(hy:mO y y'=true)
  (hs:Sat H g w) (he:EnvOk w g e a) (hp:p=true) (ho:(EOp.sto n x y).eff P p e H K):EOk P H g w a o K:=by
 simp only[EOp.eff]at ho;obtain⟨h1,h2,h3,h4,h5,h6⟩:=ho;have hr:=Al he hx hp h1;have jz:=Al he hy hp h2;have cG:=GN jz (fun hn=>by rw[hn]at h4;simp at h4;omega);rw[Br h3]at hr;have fF:=hr.aF;generalize hq:a.eval x'=xv at fF;generalize fZ:(x.v e).c1=cc at fF h6;have ji:∀v∈(a.eval y').cells.toList,v.oneCell'=true:=by
  intro v hv;obtain⟨j,hj⟩:=Jak hv;have cY:(a.eval y').cells[j]? = some v:=Zbg
  have af:j<(y.v e).cells.length:=by
   rw[←cG.1];rcases Jg j (a.eval y').cells.size with h|h
   ·exact h
   ·rw[Jl h]at cY;simp at cY
  exact (cG.2 j _ v (Jd af) cY).one
 have run:∀(b k:Nat) (cs:Array Value) (T:TypeId),xv=.pointer (some ⟨b,k,none⟩)→w.heap[b]? = some (.cells cs T (0,0))→k+n≤cs.size→
   ∃cs':Array Value,(execOp a.eval o).run P w=.ok .skip (World.az w b cs' T)∧cs'.size=cs.size∧
    ∀j,cs'[j]? = if k≤j∧j<k+n then (a.eval y').cells[j-k]? else cs[j]?:=by
  intro b k cs T hv hw hb;have aM:(a.eval y').cells.toList.length=n:=by simp[cG.1,h4]
  have hf:=fun j=>RM k (a.eval y').cells.toList 0 cs j ZaP;refine⟨_,?_,(hf 0).1,fun j=>?_⟩
  ·have hzz:(a.eval y').cells.size=n:=by rw[cG.1,h4]
   simp only[execOp,hm,hq,hv,Instr.storeAt,Instr.sureAddr,Sem.run_bind,Sem.run_pure,Result.andThen_ok,storeVar,Bs hi,aO];rw[if_neg (by simp[hzz])];rw[Su _ 0 w b k cs T hw ZaP ji];rfl
  ·rw[(hf j).2];simp only[Jx,aM,Jw]
 cases fF with
 |ptr l k b sz base bI=>
  simp only[BU]at h6;split at h6
  ·rename_i cells hH
   obtain⟨h7,h8⟩:=h6;have bC:=hs.objs l;rw[hH]at bC;obtain⟨b',sz',T,cs,q1,q2,q3,q4,q5⟩:=bC;rw[bI]at q1;simp only[Jb,Jk]at q1;obtain⟨rfl,rfl,rfl⟩:=q1;obtain⟨cs',r1,r2,r3⟩:=run b (0+k) cs T rfl q3 ZT;refine EOk.skip (g':=g) r1 h8 ?_;refine T7 hs q2 q3 r2 _ ZaZ (fun aE kN=>?_) ZV;refine⟨b,sz,T,cs',bI,q2,kN,by rw[r2,q4,KZ h7],fun j c v e1 e2=>?_⟩;rw[Ld h7]at e1;rw[r3]at e2;by_cases hj:k≤j∧j<k+(y.v e).cells.length
   ·rw[if_pos hj]at e1;rw[if_pos ZT]at e2;exact .plain _ _ _ _ ((cG.2 _ _ _ e1 (by rw[←e2];congr 1;omega)).mono aE)
   ·rw[if_neg hj]at e1;rw[if_neg ZT]at e2;exact Q2x q2 aE (fun b' h=>EG h) ZV (q5 j c v e1 e2)
  ·exact h6.elim
 |ep s z i k b off m cap cE hz gM=>
  simp only[BU]at h6;split at h6
  ·simp_all
  ·rename_i l sz st nn z' i' k' gA
   simp only[C.ep.injEq]at gA;obtain⟨rfl,rfl,rfl,rfl⟩:=gA;split at h6
   ·rename_i y' rows hH
    obtain⟨rfl,rfl,h7,h8,h9,bP⟩:=h6;have bC:=hs.objs l;rw[hH]at bC
    cases cE with
    |bD=>omega
    |aw _ _ _ _ _ _ base T mm bI hn fM jk=>
     obtain⟨b',base',T',cs,val,q1,q2,q3,q4,q5,q6,q7,q8⟩:=SatVec.of bC bI;rw[bI]at q1;simp only[Jb,Jk,true_and]at q1;obtain⟨rfl,rfl⟩:=q1;have aI:rows[st+i]? = some (rows.getD (st+i) []):=by
      rw[Jv,Jd ZT];rfl
     generalize di:rows.getD (st+i) []=row at aI bP;have co:=q6 _ _ aI;have ij:(st+i) * z+z≤rows.length * z:=by
      have:(st+i+1) * z≤rows.length * z:=Jm _ ZT;rw[Jh,Jau]at this;exact this
     obtain⟨cs',r1,r2,r3⟩:=run b (base+st * z+i * z+k) cs T' rfl q3 (by
      have:st * z+i * z=(st+i) * z:=(by rw[Jh]);omega)
     refine EOk.skip (g':=g) r1 bP ?_;refine T7 hs q2 q3 r2 _ ZaZ (fun aE kN=>?_) ZV;have fW:k+(y.v e).cells.length≤row.length:=ZT;have cx:∀(i2:Nat) (row2:List C) (j:Nat) (c:C),(rows.set (st+i) (Dn row k (y.v e).cells))[i2]? = some row2→row2[j]? = some c→
       ∃v,cs'[base+i2 * z+j]? = some v∧RepO (World.az w b cs' T') g l [i2,j] c v:=by
      intro i2 row2 j c e1 e2;have aC:st * z+i * z=(st+i) * z:=(by rw[Jh]);rw[Jar]at e1;split at e1
      ·rename_i t7
       subst t7;rw[if_pos ZT]at e1;simp only[Jb]at e1;subst e1;rw[Ld fW]at e2;by_cases hj:k≤j∧j<k+(y.v e).cells.length
       ·rw[if_pos hj]at e2;have tx:j-k<(a.eval y').cells.size:=(by rw[cG.1];omega);refine⟨(a.eval y').cells[j-k],?_,?_⟩
        ·rw[r3,if_pos ZT];rw[show base+(st+i) * z+j-(base+st * z+i * z+k)=j-k by omega];exact Jf tx
        ·exact .plain _ _ _ _ ((cG.2 _ _ _ e2 (Jf tx)).mono aE)
       ·rw[if_neg hj]at e2;refine⟨val (st+i) j,?_,Q2x q2 aE (fun b' h=>EG h) ZV (q8 _ _ _ _ aI e2)⟩;rw[r3,if_neg ZT];exact q7 _ _ _ _ aI e2
      ·rename_i t7
       have ku:=q6 _ _ e1;have iI:j<z:=by
        rw[←ku];rcases Jg j row2.length with h|h
        ·exact h
        ·rw[Jc h]at e2;simp at e2
       refine⟨val i2 j,?_,Q2x q2 aE (fun b' h=>EG h) ZV (q8 _ _ _ _ e1 e2)⟩;rw[r3,if_neg ?_]
       ·exact q7 _ _ _ _ e1 e2
       ·intro hcon;rcases Jg i2 (st+i)with h|h
        ·have:(i2+1) * z≤(st+i) * z:=Jm _ ZT;rw[Jh,Jau]at this;omega
        ·have:(st+i+1) * z≤i2 * z:=Jm _ ZT;rw[Jh,Jau]at this;omega
     refine .inr ⟨b,base,T',cs',fun i2 j=>cs'.getD (base+i2 * z+j) undef,bI,q2,kN,by rw[r2];simpa using q4,by simpa using q5,fun i2 row2 e1=>?_,fun i2 row2 j c e1 e2=>?_,fun i2 row2 j c e1 e2=>?_⟩
     ·rw[Jar]at e1;split at e1
      ·rw[if_pos ZT]at e1;simp only[Jb]at e1;subst e1;rw[KZ fW];exact co
      ·exact q6 _ _ e1
     ·obtain⟨v,f1,f2⟩:=cx i2 row2 j c e1 e2;show _=some (cs'.getD (base+i2 * z+j) undef);rw[Je,f1];rfl
     ·obtain⟨v,f1,f2⟩:=cx i2 row2 j c e1 e2;show RepO _ _ _ _ _ (cs'.getD (base+i2 * z+j) undef);rw[Je,f1];exact f2
   ·exact h6.elim
  ·exact h6.elim
 |_=>simp[BU]at h6
theorem Hd {i j n sz:Nat}(hi:i<n)(hj:j<sz):i * sz+j<n * sz:=by
 have:(i+1) * sz≤n * sz:=Jm _ ZT;rw[Jh,Jau]at this;omega
theorem Mr {q n sz:Nat}(h:q<n * sz):q / sz<n∧q % sz<sz∧q / sz * sz+q % sz=q:=by
 have hz:0<sz:=by
  rcases Nat.eq_zero_or_pos sz with h0|h0
  ·subst h0;simp at h
  ·exact h0
 exact⟨Nat.div_lt_of_lt_mul (by rw[Jbi];exact h),Nat.mod_lt _ hz,by rw[Jbi];exact Nat.div_add_mod q sz⟩
theorem G4 (hs:Sat H g w){s:C}{v:Value}(h:RepC w g s v)(ho:aT H s){sz:Nat}(hz:s.aN=sz)(hn:∀r∈rowsOf H s,ai r=true) :
  ∃f:Nat→Value,(Builtin.firstCells sz (a9 s) v).run P w=.ok ((List.range (a9 s * sz)).map f).toArray w∧
   (∀q,q<a9 s * sz→(f q).oneCell'=true)∧
   ∀(i:Nat) (row:List C) (j:Nat) (c:C),(rowsOf H s)[i]? = some row→row[j]? = some c→RepC w g c (f (i * sz+j)):=by
 obtain⟨ad,cap,rfl,h1,h2,h3,h4⟩:=G7 hs h ho;by_cases h0:a9 s=0
 ·refine⟨fun _=>undef,?_,fun q hq=>by rw[h0]at hq;simp at hq,fun i row j c e1 _=>?_⟩
  ·rw[h0]
   cases ad with
   |none=>simp[Builtin.firstCells]
   |some x=>simp[Builtin.firstCells,loadCells,loadCellsFrom]
  ·have:(rowsOf H s)[i]? = none:=Jc ZT;rw[this]at e1;simp at e1
 ·obtain⟨b,off,rfl,h5⟩:=h4 h0;rw[hz]at h3 h5;have known:∀(i:Nat) (row:List C) (j:Nat) (c:C),(rowsOf H s)[i]? = some row→row[j]? = some c→w.cell? ⟨b,off+(i * sz+j),none⟩=some (getV w b off (i * sz+j))∧RepC w g c (getV w b off (i * sz+j)):=by
   intro i row j c e1 e2;obtain⟨u,k1,k2⟩:=h5 i row j c e1 e2 (IH (hn row (Ji e1)) e2);rw[Jat]at k1;simp only[getV,k1,Ju];exact⟨trivial,k2⟩
  have flat:∀q,q<a9 s * sz→w.cell? ⟨b,off+q,none⟩=some (getV w b off q)∧(getV w b off q).oneCell'=true:=by
   intro q hq;obtain⟨a1,a2,a3⟩:=Mr hq;have e1:(rowsOf H s)[q / sz]? = some ((rowsOf H s)[q / sz]'ZT):=Jd ZT;have hl:=h3 _ _ e1;have e2:((rowsOf H s)[q / sz]'ZT)[q % sz]? = some (((rowsOf H s)[q / sz]'ZT)[q % sz]'ZT):=Jd ZT;have:=known _ _ _ _ e1 e2;rw[a3]at this;exact⟨this.1,this.2.one⟩
  refine⟨getV w b off,?_,fun q hq=>(flat q hq).2,fun i row j c e1 e2=>(known i row j c e1 e2).2⟩;simp only[Builtin.firstCells];exact run_loadCells w _ _ _ fun j hj=>by rw[BL];exact (flat j hj).1
theorem KA (n:Nat):∀(r c:Nat),Builtin.growBy n r c≤max c (n+(n+768) / 4)
 |0,c=>by simp[Builtin.growBy];omega
 |r+1,c=>by
  simp only[Builtin.growBy];split
  ·omega
  ·have:=KA n r (c+(c+768) / 4);omega
theorem LE {need cap:Nat}(h:cap<need):Builtin.nextslicecap need cap≤2 * need+512:=by
 unfold Builtin.nextslicecap;split
 ·omega
 ·split
  ·omega
  ·have:=KA need 4 cap;omega
theorem Gi {ats:Array TypeId}{ty t t2 el el2:TypeId}{i:TypeInfo}{sz:Nat}(h0:ats[0]? = some t)(h1:ats[1]? = some t2)(hu:P.underlying t=some (.slice el))(cg:P.underlying t2=some (.slice el2))
  (hi:P.info? el=some i) (hz:i.size=sz) {base:Option Addr} {n cap m cap2:Nat} {a2:Option Addr} {f:Nat→Value} (bY:n+m≤cap)
  (hf:(Builtin.firstCells sz m (.slice a2 m cap2)).run P w=.ok ((List.range (m * sz)).map f).toArray w)
  {w':World} (aC:∀x,base=some x→(storeCells (x.add (n * sz)) ((List.range (m * sz)).map f)).run P w=.ok () w') (fS:base=none→w'=w) :
  (Builtin.append_ ats ty #[.slice base n cap,.slice a2 m cap2]).run P w=.ok (.slice base (n+m) cap) w':=by
 simp only[Builtin.append_,h0,h1];simp[Aq hu,Aq cg,Bs hi,hz,Builtin.lenOf,bY,hf]
 cases base with
 |none=>simp[fS rfl]
 |some x=>simp[aC x rfl]
theorem LC {ats:Array TypeId}{ty t t2 el el2:TypeId}{i:TypeInfo}{sz:Nat}{z:Value}(h0:ats[0]? = some t)(h1:ats[1]? = some t2)(hu:P.underlying t=some (.slice el))(cg:P.underlying t2=some (.slice el2))
  (hi:P.info? el=some i) (hz:i.size=sz) (be:i.zero=some z) (fR:z.cells.size=sz) (fC:i.bytes≤128) (gD:i.bytes≠0) {base:Option Addr} {n cap m cap2:Nat} {a2:Option Addr} {f f1:Nat→Value} (bY:¬n+m≤cap) (fP:n+m≤LIM)
  (jd:(Builtin.firstCells sz m (.slice a2 m cap2)).run P w.drew=.ok ((List.range (m * sz)).map f).toArray w.drew)
  (lh:(Builtin.firstCells sz n (.slice base n cap)).run P w.drew=.ok ((List.range (n * sz)).map f1).toArray w.drew) :
  ∃(newCap:Nat) (rest:Array Value),n+m≤newCap∧rest.size=(newCap-(n+m)) * sz∧
   (Builtin.append_ ats ty #[.slice base n cap,.slice a2 m cap2]).run P w=.ok (.slice (some ⟨w.heap.size,0,none⟩) (n+m) newCap)
    (w.drew.alloc (.cells (((List.range (n * sz)).map f1).toArray++((List.range (m * sz)).map f).toArray++rest) el)):=by
 rw[Ch]at fP;have ru:=LE (Jbb bY);have jO:Builtin.nextslicecap (n+m) cap * i.bytes≤(2 * (n+m)+512) * 128:=Jbf ru fC;have h48:(2:Nat) ^ 48=281474976710656:=Zab
 generalize cx:(Question.appendCap (n+m) cap el).cut (w.tape w.drawn (.appendCap (n+m) cap el))=newCap;refine⟨newCap,Builtin.zeroCells z.cells (newCap-(n+m)),?_,?_,?_⟩
 ·rw[←cx];simp[Question.cut]
 ·simp[Builtin.zeroCells,fR]
 ·simp only[Builtin.append_,h0,h1];simp[Aq hu,Aq cg,Bs hi,hz,Builtin.lenOf,bY,HD hi,gD];rw[if_neg ZT];simp[Question.forced,cx,lh,jd,BJ hi be,newRow];rw[←Jaf];simp
def G.handOver (g:G)(l l' st n nb sz base:Nat):G:=
 { g with
  own:=fun b=>if b=nb then some (l',[])else match g.own b with
   |none=>none
   |some (m,[])=>if m=l then none else some (m,[])
   |some (m,i::r)=>if m=l then (if st≤i∧i<st+n then some (l',(i-st)::r)else none)else some (m,i::r)
  io:=fun x=>if x=l' then some (nb,sz,base)else g.io x }
theorem Qapk {l l' st n nb sz base b m:Nat}{q:List Nat}(hb:g.own b=some (m,q))(hm:m≠l)(km:b≠nb):(g.handOver l l' st n nb sz base).own b=some (m,q):=by
 simp only[G.handOver,if_neg km,hb]
 cases q with
 |nil=>simp[hm]
 |cons i r=>simp[hm]
theorem S0 {l l' st n nb sz base b i:Nat}{r:List Nat}(hb:g.own b=some (l,(st+i)::r))(hi:i<n)(km:b≠nb):(g.handOver l l' st n nb sz base).own b=some (l',i::r):=by
 simp only[G.handOver,if_neg km,hb];simp[hi]
theorem Sr (hs:Sat H g w){l l':Nat}(dd:g.io l'=none)(hl:H l≠.none){st n nb sz base:Nat}{w':World}{rows:List (List C)}
  (km:(nb<w.heap.size∧g.own nb=some (l,[]))∨nb=w.heap.size) (aO:w.heap.size≤w'.heap.size) (hnw:nb<w'.heap.size) (gU:w'.heap.size≤max w.heap.size (nb+1)) (gm:∀b,b≠nb→b<w.heap.size→w'.heap[b]? = w.heap[b]?)
  (fM:nb<w.heap.size→∀T k,w.shape? nb=some (T,k)→w'.shape? nb=some (T,k)) (ht:w'.tape=w.tape) (fN:w'.os=w.os) (o0:w'.output=w.output)
  (bC:Le g w (g.handOver l l' st n nb sz base) w'→SatVec (g.handOver l l' st n nb sz base) w' l' sz rows) (dy:∀v es,H l≠.map v es) :
  Stp H g w ((H.set l .none).set l' (.vec sz rows)) (g.handOver l l' st n nb sz base) w':=by
 have jn:l≠l':=fun h=>by subst h;exact hl (hs.none_of_io dd)
 have ci:g.per nb=false:=by
  rcases km with ⟨_,h⟩|h
  ·exact hs.excl _ _ h
  ·exact (hs.fresh nb ZT).1
 have aE:Le g w (g.handOver l l' st n nb sz base) w':=by
  refine⟨fun b hb=>⟨hb,gm b (fun h=>by subst h;rw[ci]at hb;simp at hb) (Fh hs hb)⟩,fun m x hm=>?_,aO,fun b T k hn=>?_,ht,fN,o0⟩
  ·simp only[G.handOver];have:m≠l':=fun h=>by subst h;rw[dd]at hm;simp at hm
   rw[if_neg this];exact hm
  ·have af:=Ft hn;by_cases h:b=nb
   ·subst h;exact fM af T k hn
   ·rw[S9 (gm b h af)];exact hn
 have aP:∀(m b:Nat) (q:List Nat),g.own b=some (m,q)→m≠l→b≠nb:=by
  intro m b q hb hm h;subst h;rcases km with ⟨_,h⟩|h
  ·rw[hb]at h;simp at h;exact hm h.1
  ·have:=BV hs hb;omega
 have hk:∀m,m≠l→Cp g w (g.handOver l l' st n nb sz base) w' m:=by
  intro m hm b q hb;have h1:=aP m b q hb hm;exact⟨Qapk hb hm h1,gm b h1 (BV hs hb)⟩
 refine⟨aE,fun m hm hn=>?_,⟨fun b hb=>?_,?_,fun b y hb=>?_,fun b m q hb=>?_,fun m=>?_⟩⟩
 ·have h1:m≠l':=fun h=>by subst h;exact hm dd
  have h2:m≠l:=fun h=>by subst h;exact hl hn
  rw[Heap.aj _ _ h1,Heap.aj _ _ h2];exact⟨hn,fun b q hb=>hk m h2 b q hb⟩
 ·have h1:w.heap.size≤b:=ZT
  have h2:b≠nb:=ZT
  refine⟨(hs.fresh b h1).1,?_⟩;simp only[G.handOver,if_neg h2,(hs.fresh b h1).2]
 ·obtain⟨N,hN⟩:=hs.names;refine⟨max N (l'+1),fun m hm=>?_⟩;simp only[G.handOver];rw[if_neg ZT];exact hN m ZT
 ·by_cases h:b=nb
  ·subst h;exact ci
  ·have:∃z,g.own b=some z:=by
    simp only[G.handOver,if_neg h]at hb
    cases ho:g.own b with
    |none=>rw[ho]at hb;simp at hb
    |some z=>exact⟨z,rfl⟩
   obtain⟨z,hz⟩:=this;exact hs.excl b z hz
 ·simp only[G.handOver]at hb⊢;split
  ·simp
  ·rename_i jl
   split at hb
   ·simp at hb;exact absurd hb.1.symm jl
   ·split at hb
    ·simp at hb
    ·rename_i m0 ho
     split at hb
     ·simp at hb
     ·simp at hb;obtain⟨rfl,rfl⟩:=hb;exact hs.named _ _ _ ho
    ·rename_i m0 i r ho
     split at hb
     ·split at hb
      ·simp at hb;exact absurd hb.1.symm jl
      ·simp at hb
     ·simp at hb;obtain⟨rfl,rfl⟩:=hb;exact hs.named _ _ _ ho
 ·by_cases em:m=l'
  ·subst em;rw[Heap.aK];exact .inr (bC aE)
  ·rw[Heap.aj _ _ em];by_cases hm:m=l
   ·subst hm;rw[Heap.aK];trivial
   ·have dg:((H.set l .none).set l' (.vec sz rows)) m=H m:=(by rw[Heap.aj _ _ em,Heap.aj _ _ hm]);rw[Heap.aj _ _ hm,←dg];refine SatObj.keep hs aE (hk m hm) dg fun k v left cur hc v' es hv=>?_;by_cases h1:k=l'
    ·subst h1;rw[Heap.aK]at hv;simp at hv
    ·rw[Heap.aj _ _ h1]at hv;by_cases h2:k=l
     ·subst h2;rw[Heap.aK]at hv;simp at hv
     ·rw[Heap.aj _ _ h2]at hv;exact .inl ⟨hv,hk k h2⟩
theorem EJ {g':G}{w':World}{l' sz nb base n m:Nat}{T:TypeId}{arr:Array Value}{R1 R2:List (List C)}(bI:g'.io l'=some (nb,sz,base))(kU:g'.own nb=some (l',[]))
  (hw:w'.heap[nb]? = some (.cells arr T (0,0))) (ij:base+(n+m) * sz≤arr.size) (fP:n+m≤LIM) (sx:R1.length=n) (tK:R2.length=m)
  (iX:∀(i:Nat) (row:List C),R1[i]? = some row→row.length=sz) (eW:∀(i:Nat) (row:List C),R2[i]? = some row→row.length=sz)
  (h1:∀(i:Nat) (row:List C) (j:Nat) (c:C),R1[i]? = some row→row[j]? = some c→∃v,arr[base+i * sz+j]? = some v∧RepO w' g' l' [i,j] c v)
  (h2:∀(i:Nat) (row:List C) (j:Nat) (c:C),R2[i]? = some row→row[j]? = some c→∃v,arr[base+(n+i) * sz+j]? = some v∧RepC w' g' c v) :
  SatVec g' w' l' sz (R1++R2):=by
 have aG:∀(i:Nat) (row:List C) (j:Nat) (c:C),(R1++R2)[i]? = some row→row[j]? = some c→∃v,arr[base+i * sz+j]? = some v∧RepO w' g' l' [i,j] c v:=by
  intro i row j c e1 e2;by_cases hi:i<n
  ·rw[Jo ZT]at e1;exact h1 i row j c e1 e2
  ·rw[Jp ZT]at e1;obtain⟨v,k1,k2⟩:=h2 (i-R1.length) row j c e1 e2;rw[sx,show n+(i-n)=i by omega]at k1;exact⟨v,k1,.plain _ _ _ _ k2⟩
 refine⟨nb,base,T,arr,fun i j=>arr.getD (base+i * sz+j) undef,bI,kU,hw,by rw[Jah,sx,tK];exact ij,by rw[Jah,sx,tK];exact fP,fun i row e1=>?_,fun i row j c e1 e2=>?_,fun i row j c e1 e2=>?_⟩
 ·by_cases hi:i<n
  ·rw[Jo ZT]at e1;exact iX i row e1
  ·rw[Jp ZT]at e1;exact eW _ row e1
 ·obtain⟨v,k1,k2⟩:=aG i row j c e1 e2;show _=some (arr.getD (base+i * sz+j) undef);rw[Je,k1];rfl
 ·obtain⟨v,k1,k2⟩:=aG i row j c e1 e2;show RepO _ _ _ _ _ (arr.getD (base+i * sz+j) undef);rw[Je,k1];exact k2
theorem Tf {n m sz:Nat}{f1 f:Nat→Value}{rest:Array Value} :
  (∀i j,i<n→j<sz→(((List.range (n * sz)).map f1).toArray++((List.range (m * sz)).map f).toArray++rest)[0+i * sz+j]? = some (f1 (i * sz+j)))∧
  (∀i j,i<m→j<sz→(((List.range (n * sz)).map f1).toArray++((List.range (m * sz)).map f).toArray++rest)[0+(n+i) * sz+j]? = some (f (i * sz+j))):=by
 constructor
 ·intro i j hi hj;have:=Hd hi hj;rw[Jaf,Jam Zac];simp only[Jaw,Jj,J2];rw[Jad this];rfl
 ·intro i j hi hj;have:=Hd hi hj;have e0:0+(n+i) * sz+j=n * sz+(i * sz+j):=Zb0
  rw[e0,Jaf,Array.getElem?_append_right ZV];rw[Jam Zac];simp only[Jaw,Jj,List.size_toArray,List.length_map,Ja6,Nat.add_sub_cancel_left];rw[Jad this];rfl
def G.newVirt (g:G)(l sz:Nat):G:={ g with io:=fun x=>if x=l then some (0,sz+1,0)else g.io x }
theorem Sg (hs:Sat H g w){l:Nat}(hl:g.io l=none)(sz:Nat):Stp H g w (H.set l (.vec sz [])) (g.newVirt l sz) w:=by
 have aE:Le g w (g.newVirt l sz) w:=by
  refine⟨fun b hb=>⟨hb,rfl⟩,fun m x hm=>?_,Jz _,fun _ _ _ h=>h,rfl,rfl,rfl⟩;simp only[G.newVirt];have:m≠l:=fun h=>by subst h;rw[hl]at hm;simp at hm
  rw[if_neg this];exact hm
 have hk:∀m,Cp g w (g.newVirt l sz) w m:=fun m b q hb=>⟨hb,rfl⟩;refine⟨aE,fun m hm hn=>?_,⟨hs.fresh,?_,hs.excl,fun b m q hb=>?_,fun m=>?_⟩⟩
 ·have:m≠l:=fun h=>by subst h;exact hm hl
  rw[Heap.aj _ _ this];exact⟨hn,fun b q hb=>hk m b q hb⟩
 ·obtain⟨N,hN⟩:=hs.names;refine⟨max N (l+1),fun m hm=>?_⟩;simp only[G.newVirt];rw[if_neg ZT];exact hN m ZT
 ·simp only[G.newVirt];split
  ·simp
  ·exact hs.named b m q hb
 ·by_cases hm:m=l
  ·subst hm;rw[Heap.aK];exact .inl ⟨rfl,_,by simp[G.newVirt];rfl,ZV⟩
  ·have dg:=Heap.aj H (.vec sz []) hm;rw[dg,←dg];refine SatObj.keep hs aE (hk m) dg fun m' v left cur hc v' es hv=>?_;by_cases em:m'=l
   ·subst em;rw[Heap.aK]at hv;simp at hv
   ·rw[Heap.aj _ _ em]at hv;exact .inl ⟨hv,hk m'⟩
theorem Pv (hs:Sat H g w)(l:Nat)(hm:∀v es,H l≠.map v es):Stp H g w (H.set l .none) g w:=by
 refine⟨.refl _ _,fun m hm hn=>?_,⟨hs.fresh,hs.names,hs.excl,hs.named,fun m=>?_⟩⟩
 ·by_cases h:m=l
  ·subst h;rw[Heap.aK];exact⟨rfl,fun b q hb=>⟨hb,rfl⟩⟩
  ·rw[Heap.aj _ _ h];exact⟨hn,fun b q hb=>⟨hb,rfl⟩⟩
 ·by_cases h:m=l
  ·subst h;rw[Heap.aK];trivial
  ·have dg:=Heap.aj H .none h;rw[dg,←dg];refine SatObj.keep hs (.refl _ _) (fun b q hb=>⟨hb,rfl⟩) dg fun m' v left cur hc v' es hv=>?_;by_cases em:m'=l
   ·subst em;rw[Heap.aK]at hv;simp at hv
   ·rw[Heap.aj _ _ em]at hv;exact .inl ⟨hv,fun b q hb=>⟨hb,rfl⟩⟩
theorem XT {sz:Nat}{x y:Opd}{x' y':Operand}{ats:Array TypeId}{t t2 el el2:TypeId}{i:TypeInfo}{z:Value}{K:V→Heap→Prop}
  (hm:o.op=.call { callee:=.builtin .append,args:=#[x',y'],argTypes:=ats }) (h0:ats[0]? = some t) (h1:ats[1]? = some t2) (hu:P.underlying t=some (.slice el)) (cg:P.underlying t2=some (.slice el2))
  (hi:P.info? el=some i) (hz:i.size=sz) (be:i.zero=some z) (fR:z.cells.size=sz) (fC:i.bytes≤128) (gD:i.bytes≠0) (hx:mO x x'=true) (hy:mO y y'=true)
  (hs:Sat H g w) (he:EnvOk w g e a) (hp:p=true) (ho:(EOp.app sz x y).eff P p e H K):EOk P H g w a o K:=by
 simp only[EOp.eff]at ho;obtain⟨q1,q2,q3,q4,q5⟩:=ho;have kj:=Al he hx hp q1;have jz:=Al he hy hp q2;rw[Br q3]at kj;rw[Br q4]at jz;have fY:=kj.aF;have kF:=jz.aF;generalize ot:a.eval x'=xv at fY;generalize oq:a.eval y'=yv at kF;generalize (x.v e).c1=A at fY q5;generalize (y.v e).c1=B at kF q5;have bZ:(execOp a.eval o).run P w=((Builtin.append_ ats o.type #[xv,yv]).run P w).andThen fun v w'=>.ok (.value v) w':=by
  simp[execOp,hm,resolve,invoke,builtin,ot,oq]
 unfold appT at q5;obtain⟨b1,b2,q5⟩:=q5;obtain⟨ady,capy,ke,by1,by2,by3,by4⟩:=G7 hs kF b1;rw[b2]at by3;have dh:=Pw hs;split at q5
 ·
  rename_i z' rows
  obtain⟨rfl,c2,c3,c4,c5⟩:=q5;have mP:∀r∈rowsOf H B,ai r=true:=fun r hr=>c3 r (Jax _ hr);have eE:∃ad,xv=.slice ad rows.length rows.length:=by
   cases fY with
   |bn _ _ ad=>exact⟨ad,rfl⟩
   |sl _ _ _ b off cap val hl hf cR ci di jZ dG=>rw[hf rfl];exact⟨_,rfl⟩
  obtain⟨ad,rfl⟩:=eE;by_cases ib:a9 B=0
  ·have bv:rows=[]:=by
    rcases c2 with h|h
    ·exact h
    ·exact absurd (Jt.1 ZT) h
   subst bv;obtain⟨l,hl,nu⟩:=hs.newName;obtain⟨f,f1,f2,f3⟩:=G4 hs kF b1 b2 mP;rw[ke]at f1;have bX:=Gi (P:=P) (w:=w) (ty:=o.type) (base:=ad) (n:=0) (cap:=0) (m:=a9 B) h0 h1 hu cg hi hz ZT f1 (w':=w)
    (fun x _=>by rw[ib];simp[storeCells]) (fun _=>rfl)
   refine EOk.value (v:=.slice ad (0+a9 B) 0) (by rw[bZ,ke];simp only[Jai];rw[bX];rfl) (c5 l nu) ?_ ?_ (g':=g.newVirt l z')
   ·have m9:rowsOf H B=[]:=Jt.1 ZT;rw[m9];exact Sg hs hl z'
   ·simp only[Jai,ib,Jx];exact .c _ _ (.bD _ _ _ _)
  ·obtain⟨l,hl,nu⟩:=dh.sat.newName;have nh:=fY.mono dh.le;have ng:=kF.mono dh.le;have hA:∀r∈rowsOf H (C.sl true z' rows),ai r=true:=fun r hr=>c3 r (Jal _ hr);obtain⟨f,f1,f2,f3⟩:=G4 dh.sat ng b1 b2 mP;obtain⟨f',f1',f2',f3'⟩:=G4 dh.sat nh (s:=.sl true z' rows) trivial (sz:=z') rfl hA;rw[ke]at f1;simp only[a9]at f1';obtain⟨newCap,rest,k1,k2,k3⟩:=LC (P:=P) (w:=w) (ty:=o.type) h0 h1 hu cg hi hz be fR fC gD (base:=ad) (n:=rows.length) (cap:=rows.length) (m:=a9 B) ZT c4 f1 f1';have bm:=Tf (n:=rows.length) (m:=a9 B) (sz:=z') (f1:=f') (f:=f) (rest:=rest);generalize cI:(((List.range (rows.length * z')).map f').toArray++((List.range (a9 B * z')).map f).toArray++rest)=arr at k3 bm;have fE:arr.size=newCap * z':=by
    rw[←cI];simp[k2];rw[←Jh,←Jh];congr 1;omega
   have aC:=Dw dh.sat hl z' 0 (.cells arr el) (.vec z' (rows++rowsOf H B)) (fun g' hg=>by
    subst hg;have aE:=EB dh.sat hl z' 0 (.cells arr el);refine .inr (EJ (nb:=w.drew.heap.size) (base:=0) (T:=el) (arr:=arr) (n:=rows.length) (m:=a9 B) Zaf Zaf (Cl _ _)
     Za1 c4 rfl ZT ?_ by3 ?_ ?_)
    ·cases fY with
     |bn=>simp
     |sl _ _ _ b off cap val hl hf cR ci di jZ dG=>exact di
    ·intro i row j c e1 e2;have pW:row.length=z':=by
      cases fY with
      |bn=>simp at e1
      |sl _ _ _ b off cap val hl hf cR ci di jZ dG=>exact di _ _ e1
     refine⟨f' (i * z'+j),bm.1 i j ?_ ?_,.plain _ _ _ _ ((f3' i row j c e1 e2).mono aE)⟩
     ·rcases Jg i rows.length with h|h
      ·exact h
      ·rw[Jc h]at e1;simp at e1
     ·rw[←pW];rcases Jg j row.length with h|h
      ·exact h
      ·rw[Jc h]at e2;simp at e2
    ·intro i row j c e1 e2;refine⟨f (i * z'+j),bm.2 i j ?_ ?_,(f3 i row j c e1 e2).mono aE⟩
     ·rcases Jg i (rowsOf H B).length with h|h
      ·omega
      ·rw[Jc h]at e1;simp at e1
     ·rw[←by3 i row e1];rcases Jg j row.length with h|h
      ·exact h
      ·rw[Jc h]at e2;simp at e2)
   refine EOk.value (v:=.slice (some ⟨w.heap.size,0,none⟩) (rows.length+a9 B) newCap) (by rw[bZ,ke,k3];rfl) (c5 l nu) (dh.trans aC) ?_;have:=RepC.aw (w:=w.drew.alloc (.cells arr el)) (g:=g.newObj l w.drew.heap.size z' 0) l z' 0 (rows.length+a9 B) newCap w.heap.size 0 el arr.size Zaf k1
    Zak Zb6
   simpa using RepV.c _ _ this
 ·
  rename_i l z' st n
  split at q5
  ·rename_i y0 rows hH
   obtain⟨lO,lR,c2,mP,c4,c5⟩:=q5;subst lR;subst lO;have bC:=hs.objs l;rw[hH]at bC;have gt:H l≠.none:=ZaZ
   have dt:∀v es,H l≠.map v es:=ZaZ
   have fy:(∃ad,xv=.slice ad 0 0∧n=0)∨∃b base cap T mm,xv=.slice (some ⟨b,base+st * z',none⟩) n cap∧g.io l=some (b,z',base)∧n≤cap∧w.shape? b=some (T,mm)∧base+(st+cap) * z'≤mm:=by
    cases fY with
    |bD _ _ _ ad=>exact .inl ⟨ad,rfl,rfl⟩
    |aw _ _ _ _ cap b base T mm bI hn fM jk=>exact .inr ⟨b,base,cap,T,mm,rfl,bI,hn,fM,jk⟩
   have aY:((rows.drop st).take n).length=n:=Zac
   have cV:∀(i:Nat) (row:List C),((rows.drop st).take n)[i]? = some row→i<n∧rows[st+i]? = some row:=by
    intro i row h;simp only[Jn,Js]at h;split at h
    ·exact⟨by assumption,h⟩
    ·simp at h
   have jlt:∀{row:List C} {j:Nat} {c:C} {k:Nat},row.length=k→row[j]? = some c→j<k:=by
    intro row j c k hk hj;rw[←hk];rcases Jg j row.length with h|h
    ·exact h
    ·rw[Jc h]at hj;simp at hj
   have grow:∀(ad:Option Addr) (cap:Nat),xv=.slice ad n cap→¬n+a9 B≤cap→EOk P H g w a o K:=by
    intro ad cap eE rt;have ng:=kF.mono dh.le;obtain⟨f,f1,f2,f3⟩:=G4 dh.sat ng b1 b2 mP;rw[ke]at f1;have jM:∃f':Nat→Value,(Builtin.firstCells z' n (.slice ad n cap)).run P w.drew=.ok ((List.range (n * z')).map f').toArray w.drew∧
      ∀(i:Nat) (row:List C) (j:Nat) (c:C),((rows.drop st).take n)[i]? = some row→row[j]? = some c→RepO w g l [st+i,j] c (f' (i * z'+j)):=by
     rcases fy with ⟨ad',h1,h2⟩|⟨b,base,cap',T,mm,h1,h2,h3,h4,h5⟩
     ·rw[eE]at h1;simp only[Value.slice.injEq]at h1;subst h2;refine⟨fun _=>undef,?_,fun i row j c e1 _=>by simp at e1⟩
      cases ad with
      |none=>simp[Builtin.firstCells]
      |some q=>simp[Builtin.firstCells,loadCells,loadCellsFrom]
     ·rw[eE]at h1;simp only[Value.slice.injEq]at h1;obtain⟨rfl,_,rfl⟩:=h1;obtain⟨b',base',T',cs,val,r1,r2,r3,r4,r5,r6,r7,r8⟩:=SatVec.of bC h2;rw[h2]at r1;simp only[Jb,Jk,true_and]at r1;obtain⟨rfl,rfl⟩:=r1;have ij:(st+n) * z'≤rows.length * z':=Jm _ c2;rw[Jh]at ij;refine⟨fun q=>cs.getD (base+st * z'+q) undef,?_,fun i row j c e1 e2=>?_⟩
      ·simp only[Builtin.firstCells];refine run_loadCells _ _ _ _ fun j hj=>?_;rw[BL];rw[show w.drew.cell? ⟨b,base+st * z'+j,none⟩=w.cell? ⟨b,base+st * z'+j,none⟩ from rfl,Dy r3];rw[Je,Jf ZT];rfl
      ·obtain⟨hi,e1'⟩:=cV i row e1;have:=r7 _ _ _ _ e1' e2;rw[Jh]at this;have e3:base+st * z'+(i * z'+j)=base+(st * z'+i * z')+j:=ZT;show RepO _ _ _ _ _ (cs.getD (base+st * z'+(i * z'+j)) undef);rw[e3,Je,this];exact r8 _ _ _ _ e1' e2
    obtain⟨f',f1',f3'⟩:=jM;obtain⟨newCap,rest,k1,k2,k3⟩:=LC (P:=P) (w:=w) (ty:=o.type) h0 h1 hu cg hi hz be fR fC gD (base:=ad) (n:=n) (cap:=cap) (m:=a9 B) rt c4 f1 f1';have bm:=Tf (n:=n) (m:=a9 B) (sz:=z') (f1:=f') (f:=f) (rest:=rest);generalize cI:(((List.range (n * z')).map f').toArray++((List.range (a9 B * z')).map f).toArray++rest)=arr at k3 bm;have fE:arr.size=newCap * z':=by
     rw[←cI];simp[k2];rw[←Jh,←Jh];congr 1;omega
    obtain⟨l',dd,ew⟩:=dh.sat.newName;have jn:l'≠l:=fun h=>ZaD;have aC:=Sr dh.sat (l:=l) (l':=l') dd gt (st:=st) (n:=n) (nb:=w.drew.heap.size) (sz:=z') (base:=0) (w':=w.drew.alloc (.cells arr el)) (rows:=(rows.drop st).take n++rowsOf H B)
     (.inr rfl) ZV ZV ZV (fun b hb af=>Di _ _ af) (fun h=>absurd h (Jbh _)) rfl rfl rfl (fun aE=>by
      refine EJ (nb:=w.drew.heap.size) (base:=0) (T:=el) (arr:=arr) (n:=n) (m:=a9 B) Zar Zar (Cl _ _)
       Za1 c4 aY ZT (fun i row h=>?_) by3 (fun i row j c e1 e2=>?_) (fun i row j c e1 e2=>?_)
      ·obtain⟨hi,h'⟩:=cV i row h;rcases bC with ⟨r1,_⟩|⟨b',base',T',cs,val,r1,r2,r3,r4,r5,r6,r7,r8⟩
       ·rw[r1]at h';simp at h'
       ·exact r6 _ _ h'
      ·obtain⟨hi,h'⟩:=cV i row e1;have co:row.length=z':=by
        rcases bC with ⟨r1,_⟩|⟨b',base',T',cs,val,r1,r2,r3,r4,r5,r6,r7,r8⟩
        ·rw[r1]at h';simp at h'
        ·exact r6 _ _ h'
       refine⟨f' (i * z'+j),bm.1 i j hi (jlt co e2),?_⟩;refine (f3' i row j c e1 e2).move (dh.le.trans aE) fun q b hb=>?_;have fD:=BV hs hb;have ju:b≠w.drew.heap.size:=ZbD;exact⟨S0 hb hi ju,Di _ _ fD⟩
      ·refine⟨f (i * z'+j),bm.2 i j ?_ (jlt (by3 i row e1) e2),(f3 i row j c e1 e2).mono aE⟩;rcases Jg i (rowsOf H B).length with h|h
       ·omega
       ·rw[Jc h]at e1;simp at e1) dt
    refine EOk.value (v:=.slice (some ⟨w.heap.size,0,none⟩) (n+a9 B) newCap) (by rw[bZ,eE,ke,k3];rfl) (c5 l' ZaU) (dh.trans aC) ?_;have:=RepC.aw (w:=w.drew.alloc (.cells arr el)) (g:=g.handOver l l' st n w.drew.heap.size z' 0) l' z' 0 (n+a9 B) newCap w.heap.size 0 el arr.size Zar k1
     Zak Zb6
    simpa using RepV.c _ _ this
   rcases fy with ⟨ad,eE,rfl⟩|⟨b,base,cap,T,mm,eE,bI,oE,fM,jk⟩
   ·by_cases ib:a9 B=0
    ·
     obtain⟨f,f1,f2,f3⟩:=G4 hs kF b1 b2 mP;rw[ke]at f1;have bX:=Gi (P:=P) (w:=w) (ty:=o.type) (base:=ad) (n:=0) (cap:=0) (m:=a9 B) h0 h1 hu cg hi hz ZT f1 (w':=w)
      (fun x _=>by rw[ib];simp[storeCells]) (fun _=>rfl)
     have hd:=Pv hs l dt;obtain⟨l',dd,ew⟩:=hd.sat.newName;refine EOk.value (v:=.slice ad (0+a9 B) 0) (by rw[bZ,eE,ke,bX];rfl) (c5 l' ew) ?_ ?_ (g':=g.newVirt l' z')
     ·have m9:rowsOf H B=[]:=Jt.1 ZT;rw[m9];simp only[Jbe,Jav];exact hd.trans (Sg hd.sat dd z')
     ·simp only[ib,Jx];exact .c _ _ (.bD _ _ _ _)
    ·exact grow ad 0 eE ZT
   ·by_cases bY:n+a9 B≤cap
    ·
     obtain⟨b',base',T',cs,val,r1,r2,r3,r4,r5,r6,r7,r8⟩:=SatVec.of bC bI;rw[bI]at r1;simp only[Jb,Jk,true_and]at r1;obtain⟨rfl,rfl⟩:=r1;have mQ:mm=cs.size∧T=T':=by
      simp only[World.shape?,r3,Jb,Jk]at fM;exact⟨fM.2.symm,fM.1.symm⟩
     obtain⟨rfl,rfl⟩:=mQ;obtain⟨f,f1,f2,f3⟩:=G4 hs kF b1 b2 mP;rw[ke]at f1;have im:(st+(n+a9 B)) * z'≤(st+cap) * z':=Jm _ ZT;rw[Jh,Jh]at im;have ij:base+st * z'+n * z'+a9 B * z'≤cs.size:=by
      rw[Jh]at jk im;omega
     have dA:=fun k=>RM (base+st * z'+n * z') ((List.range (a9 B * z')).map f) 0 cs k Zac;generalize ni:(((List.range (a9 B * z')).map f).zipIdx 0).foldl (fun (cs:Array Value) (x:Value×Nat)=>cs.setIfInBounds (base+st * z'+n * z'+x.2) x.1) cs=cs' at dA;have fh:=Su (P:=P) ((List.range (a9 B * z')).map f) 0 w b (base+st * z'+n * z') cs T r3 Zac (by
      intro v hv;simp only[Ja8,Jbd]at hv;obtain⟨q,hq,rfl⟩:=hv;exact f2 q hq)
     rw[ni]at fh;have bX:=Gi (P:=P) (w:=w) (ty:=o.type) (base:=some ⟨b,base+st * z',none⟩) (n:=n) (cap:=cap) (m:=a9 B) h0 h1 hu cg hi hz bY f1 (w':=World.az w b cs' T)
      (fun x hx=>by simp only[Jb]at hx;subst hx;rw[BL];exact fh) (fun h=>Zaa)
     have ev:=G9 r3;obtain⟨l',dd,ew⟩:=hs.newName;have jn:l'≠l:=fun h=>ZaD;have gU:cs'.size=cs.size:=(dA 0).1;have aC:=Sr hs (l:=l) (l':=l') dd gt (st:=st) (n:=n) (nb:=b) (sz:=z') (base:=base+st * z') (w':=World.az w b cs' T) (rows:=(rows.drop st).take n++rowsOf H B)
      (.inl ⟨ev,r2⟩) (by simp[World.az]) (by simp[World.az];exact ev) (by simp[World.az];omega) (fun b' br _=>EG br)
      (fun _ T0 k hk=>by
       simp only[World.shape?,r3,Jb,Jk]at hk;simp only[World.shape?,D5 ev,gU,Jb,Jk];exact hk) rfl rfl rfl (fun aE=>by
       refine EJ (nb:=b) (base:=base+st * z') (T:=T) (arr:=cs') (n:=n) (m:=a9 B) Zar Zar (D5 ev)
        (by rw[gU,Jh];omega) c4 aY ZT (fun i row h=>r6 _ _ (cV i row h).2) by3 (fun i row j c e1 e2=>?_) (fun i row j c e1 e2=>?_)
       ·obtain⟨hi,h'⟩:=cV i row e1;have hj:=jlt (r6 _ _ h') e2;have af:=Hd hi hj;refine⟨val (st+i) j,?_,?_⟩
        ·rw[(dA _).2,if_neg ZT,←r7 _ _ _ _ h' e2];congr 1;rw[Jh];omega
        ·refine (r8 _ _ _ _ h' e2).move aE fun q b2 bM=>?_;have ju:b2≠b:=fun h=>(by subst h;rw[r2]at bM;simp at bM);exact⟨S0 bM hi ju,EG ju⟩
       ·have hj:=jlt (by3 i row e1) e2;have hi:i<a9 B:=by
         rcases Jg i (rowsOf H B).length with h|h
         ·omega
         ·rw[Jc h]at e1;simp at e1
        have af:=Hd hi hj;refine⟨f (i * z'+j),?_,(f3 i row j c e1 e2).mono aE⟩;have jO:(n+i) * z'=n * z'+i * z':=(by rw[Jh]);rw[(dA _).2,if_pos Zac];rw[show base+st * z'+(n+i) * z'+j-(base+st * z'+n * z'+0)=i * z'+j by omega];simp only[Jj];rw[Jad af];rfl) dt
     refine EOk.value (v:=.slice (some ⟨b,base+st * z',none⟩) (n+a9 B) cap) (by rw[bZ,eE,ke,bX];rfl) (c5 l' ZaU) aC ?_;have:=RepC.aw (w:=World.az w b cs' T) (g:=g.handOver l l' st n b z' (base+st * z')) l' z' 0 (n+a9 B) cap b (base+st * z') T cs.size Zar bY
      ZbE (by rw[J2];rw[Jh]at jk;omega)
     simpa using RepV.c _ _ this
    ·exact grow _ cap eE bY
  ·exact q5.elim
 ·exact q5.elim
end Go.AE
namespace Go.AE
open Go.MapKept (IsKey findNow_spec run_checkKey run_findKey run_keyThatStays)
variable {P:Program}{H:Heap}{g:G}{w:World}{e:Env}{a:Act}{o:Oper}{p:Bool}
theorem Y0 {K:V→Heap→Prop}{sz:Nat}{parts:List Opd}{t el:TypeId}{n:Nat}{parts':Array (Nat×Operand)}{i:TypeInfo}{z:Value}
  (hm:o.op=.buildSlice t n parts') (hu:P.underlying t=some (.slice el)) (hi:P.info? el=some i) (hz:i.zero=some z) (aO:i.size=sz) (mi:sz≠0)
  (hn:n=parts'.size) (nl:n * sz≤2 ^ 24) (i0:parts.length=parts'.size)
  (hx:∀(j:Nat) (x:Opd) (y:Nat×Operand),parts[j]? = some x→parts'[j]? = some y→y.1=j∧mO x y.2=true)
  (hs:Sat H g w) (he:EnvOk w g e a) (hp:p=true) (hK:(EOp.bslm sz parts).eff P p e H K):EOk P H g w a o K:=by
 simp only[EOp.eff]at hK;obtain⟨ho,hK⟩:=hK;have n7:(parts'.map fun (x:Nat×Operand)=>(x.1,a.eval x.2)).toList=parts'.toList.map fun (x:Nat×Operand)=>(x.1,a.eval x.2):=ZV
 have bm:∀(j:Nat) (y:Nat×Value),(parts'.toList.map fun (x:Nat×Operand)=>(x.1,a.eval x.2))[j]? = some y→
   ∃x y',parts[j]? = some x∧parts'[j]? = some y'∧y=(y'.1,a.eval y'.2):=by
  intro j y hj;simp only[Jj]at hj
  cases cY:parts'.toList[j]? with
  |none=>rw[cY]at hj;simp at hj
  |some y'=>
   rw[cY]at hj;simp at hj;have af:j<parts.length:=by
    rw[i0];rcases Jg j parts'.size with h|h
    ·exact h
    ·simp[Jl h]at cY
   exact⟨_,y',Jd af,by simpa using cY,hj.symm⟩
 have aI:∀x∈parts,x.fine p e∧(x.v e).cells.length=sz∧(x.v e).cells≠[]:=fun x hx=>by
  obtain⟨q1,q2⟩:=ho x hx;exact⟨q1,q2,fun hn=>mi (by rw[←q2,hn];rfl)⟩
 have jP:(parts'.toList.map fun (x:Nat×Operand)=>(x.1,a.eval x.2)).length=n:=Zce
 obtain⟨out,f1,f2,f3,f4⟩:=FP sz (parts'.toList.map fun (x:Nat×Operand)=>(x.1,a.eval x.2)) 0
  ((Array.range (n * sz)).map ((if n * sz=0 then #[]else z.cells)[· % (if n * sz=0 then #[]else z.cells).size]!)) (fun j y hj=>by
   obtain⟨x,y',e1,e2,rfl⟩:=bm j y hj;obtain⟨q1,q2⟩:=hx j x y' e1 e2;obtain⟨q3,q4,q5⟩:=aI x (Ji e1);refine⟨by simp[q1],?_⟩;rw[(GN (Al he q2 hp q3) q5).1,q4]) (by rw[jP];simp)
 obtain⟨l,hl,hH⟩:=hs.newName;have bX:(execOp a.eval o).run P w=.ok (.value (.slice (some ⟨w.heap.size,0,none⟩) n n)) (w.alloc (.cells out el)):=by
  simp only[execOp,hm,Instr.buildSlice,Sem.run_bind,Aq hu,Result.andThen_ok,Bs hi,aO,n7];rw[if_neg ZT];by_cases h0:n * sz=0
  ·simp only[if_pos h0]at f1⊢;simp only[Sem.run_bind,Sem.run_pure,Result.andThen_ok];rw[f1];simp[newRow]
  ·simp only[if_neg h0]at f1⊢;simp only[Sem.run_bind,Sem.run_pure,Result.andThen_ok,BJ hi hz];rw[f1];simp[newRow]
 have fU:(parts.map fun x=>(x.v e).cells).length=n:=by simp[i0,hn]
 have iN:∀(k:Nat) (row:List C),(parts.map fun x=>(x.v e).cells)[k]? = some row→∃x y,parts[k]? = some x∧parts'[k]? = some y∧row=(x.v e).cells:=by
  intro k row hk;simp only[Jj]at hk
  cases hj:parts[k]? with
  |none=>rw[hj]at hk;simp at hk
  |some x=>
   rw[hj]at hk;simp at hk;have af:k<parts'.size:=by
    rw[←i0];rcases Jg k parts.length with h|h
    ·exact h
    ·rw[Jc h]at hj;simp at hj
   exact⟨x,parts'[k],rfl,Jf af,hk.symm⟩
 have ca:∀(k:Nat) (row:List C) (j:Nat) (c:C),(parts.map fun x=>(x.v e).cells)[k]? = some row→row[j]? = some c→∃u,out[0+k * sz+j]? = some u∧RepC w g c u:=by
  intro k row j c hk hj;obtain⟨x,y,e1,e2,rfl⟩:=iN k row hk;obtain⟨q1,q2⟩:=hx k x y e1 e2;obtain⟨q3,q4,q5⟩:=aI x (Ji e1);have hr:=GN (Al he q2 hp q3) q5;have iI:j<sz:=by
   rw[←q4];rcases Jg j (x.v e).cells.length with h|h
   ·exact h
   ·rw[Jc h]at hj;simp at hj
  have ku:j<(a.eval y.2).cells.size:=by rw[hr.1,q4];exact iI
  have:=f4 k (y.1,a.eval y.2) j (by simp only[Jj,Jw,e2,Jr]) iI;simp only[J2]at this⊢;rw[this];exact⟨_,Jf ku,hr.2 j c _ hj (Jf ku)⟩
 have eK:out.size=n * sz:=by
  rw[f2];simp
 have hn24:n≤16777216:=by
  have eM:n * 1≤n * sz:=Jae _ ZT;have sB:(2:Nat) ^ 24=16777216:=Zab
  rw[sB]at nl;omega
 have aE:=EB hs hl sz 0 (.cells out el);have aC:=Dw hs hl sz 0 (.cells out el) (.vec sz (parts.map fun x=>(x.v e).cells)) (fun g' hg=>by
  subst hg;have:=EJ (g':=g.newObj l w.heap.size sz 0) (w':=w.alloc (.cells out el)) (l':=l) (sz:=sz) (nb:=w.heap.size) (base:=0) (n:=n) (m:=0) (T:=el) (arr:=out) (R1:=parts.map fun x=>(x.v e).cells) (R2:=[])
   Zaf Zaf (Cl _ _) (by rw[eK];simp) (by rw[Ch];omega) fU rfl
   (fun k row hk=>by obtain⟨x,y,e1,e2,rfl⟩:=iN k row hk;exact (aI x (Ji e1)).2.1) ZV
   (fun k row j c hk hj=>by
    obtain⟨u,e1,e2⟩:=ca k row j c hk hj;exact⟨u,e1,.plain _ _ _ _ (e2.mono aE)⟩) ZV
  rw[Jav]at this;exact .inr this)
 have eH:parts.length=n:=by rw[i0,hn]
 refine EOk.value bX (hK l hH) aC ?_;rw[eH];have:=RepC.aw (w:=w.alloc (.cells out el)) (g:=g.newObj l w.heap.size sz 0) l sz 0 n n w.heap.size 0 el out.size Zaf (Jz _)
  (by simp only[World.shape?,Cl]) (by rw[eK];simp)
 simpa using RepV.c _ _ this
theorem XS {t:TypeId}{K:V→Heap→Prop}(hm:o.op=.makeMap t none)(hs:Sat H g w)(ho:EOp.mkm.eff P p e H K):EOk P H g w a o K:=by
 simp only[EOp.eff]at ho;obtain⟨l,hl,hH⟩:=hs.newName;have aC:=Dw hs hl 0 0 (.map #[] 0) (.map 0 []) (fun g' hg=>by
  subst hg;exact⟨w.heap.size,#[],0,Zaf,Zaf,Cl _ _,rfl,by simp[Ch],ZV,ZV,ZV⟩)
 refine EOk.value (v:=.map (some w.heap.size)) (w':=w.alloc (.map #[] 0)) (by simp[execOp,hm,Instr.makeMap]) (ho l hH) aC (.c _ _ (.mp l w.heap.size Zaf))
def World.putObj' (w:World)(b:Nat)(x:Go.Obj):World:={ w with heap:=w.heap.setIfInBounds b x }
theorem NL {w:World}{b:Nat}{x:Go.Obj}(h:b<w.heap.size):(World.putObj' w b x).heap[b]? = some x:=by simp[World.putObj',h]
theorem Pk {w:World}{b b':Nat}{x:Go.Obj}(h:b'≠b):(World.putObj' w b x).heap[b']? = w.heap[b']?:=by
 simp only[World.putObj'];rw[Jq (Ne.symm h)]
theorem Fv {b:Nat}{x y:Go.Obj}(h:w.heap[b]? = some x)(hx:∀c T f,x≠.cells c T f):(setObj b y).run P w=.ok () (World.putObj' w b y):=by
 simp only[setObj,Sem.run,h];cases x <;> first|rfl|exact absurd rfl (hx _ _ _)
theorem LD (hs:Sat H g w){l b:Nat}(hb:g.own b=some (l,[])){ms ms':Array MapEntry}{clock clock':Nat}(hw:w.heap[b]? = some (.map ms clock)){n:Nat}{es es':List (C×V)}(hH:H l=.map n es)
  (bC:Le g w g (World.putObj' w b (.map ms' clock'))→(World.putObj' w b (.map ms' clock')).heap[b]? = some (.map ms' clock')→SatObj (H.set l (.map (n+1) es')) g (World.putObj' w b (.map ms' clock')) l (.map (n+1) es')) :
  Stp H g w (H.set l (.map (n+1) es')) g (World.putObj' w b (.map ms' clock')):=by
 have af:=G9 hw;refine FZ hs hb (by simp[World.putObj']) (fun b' h=>Pk h) (fun T' k hk=>?_) rfl rfl rfl _ ZaZ (fun aE=>bC aE (NL af)) (fun v x h=>?_)
 ·simp[World.shape?,hw]at hk
 ·simp at h;exact⟨n,es,hH,ZT⟩
theorem KV:∀(es:List (C×V)) (k:C) (v:V) (j:Nat) (x:C×V),es[j]? = some x→AM k x.1=true→(∀i y,i<j→es[i]? = some y→AM k y.1=false)→AH k v es=es.set j (k,v)
 |[],_,_,_,_,h,_,_=>Zaa
 |y::es,k,v,0,x,h,hk,_=>by simp at h;subst h;simp[AH,hk]
 |y::es,k,v,j+1,x,h,hk,hh=>by
  have h0:=hh 0 y ZT rfl;simp only[AH,h0,Jy,if_false,List.set_cons_succ];rw[KV es k v j x Zaz hk fun i z hi hz=>hh (i+1) z ZT Zbh]
theorem Rr:∀(es:List (C×V)) (k:C) (v:V),(∀x∈es,AM k x.1=false)→AH k v es=es++[(k,v)]
 |[],_,_,_=>rfl
 |y::es,k,v,h=>by
  simp only[AH,h y ZV,Jy,if_false,List.cons_append];rw[Rr es k v fun x hx=>h x Zbw]
theorem XZ {c:C}{v:Value}{l:Nat}(h:RepC w g (.mp l) v):∃b,v=.map (some b)∧g.io l=some (b,0,0):=by
 cases h with
 |mp _ b bI=>exact⟨b,rfl,bI⟩
theorem Iq {tag:Nat}{x k y:Opd}{x' k' y':Operand}{t kt et:TypeId}{K:V→Heap→Prop}(hm:o.op=.mapUpdate t x' k' y'∨o.op=.insert t x' k' y')(hu:P.underlying t=some (.map kt et))
  (pZ:P.underlying kt=some (tagD tag)) (hx:mO x x'=true) (hk:mO k k'=true) (hy:mO y y'=true)
  (hs:Sat H g w) (he:EnvOk w g e a) (hp:p=true) (ho:(EOp.upd tag x k y).eff P p e H K):EOk P H g w a o K:=by
 simp only[EOp.eff]at ho;obtain⟨q1,q2,q3,q4,q5,_,q6⟩:=ho;have kj:=Al he hx hp q1;have lB:=Al he hk hp q2;have jz:=Al he hy hp q3;rw[Br q4]at kj;rw[Br q5]at lB;have fY:=kj.aF;have cH:=lB.aF;generalize ot:a.eval x'=xv at fY;generalize hqk:a.eval k'=kv at cH;generalize oq:a.eval y'=yv at jz;generalize (x.v e).c1=A at fY q6;generalize (k.v e).c1=kc at cH q6;generalize y.v e=yc at jz q6;have bZ:(execOp a.eval o).run P w=((Instr.mapUpdate t xv kv yv).run P w).andThen fun _ w'=>.ok .skip w':=by
  rcases hm with hm|hm <;> simp[execOp,hm,ot,hqk,oq]
 unfold updT at q6;split at q6
 ·rename_i l
  split at q6
  ·rename_i n es hH
   obtain⟨c1,c2,c3⟩:=q6;obtain⟨b,rfl,bI⟩:=XZ (c:=.unk) fY;have bC:=hs.objs l;rw[hH]at bC;obtain⟨b',ms,clock,r1,r2,r3,r4,r5,r6,r7,r8⟩:=bC;rw[bI]at r1;simp only[Jb,Jk,and_true]at r1;subst r1;have cW:=DL c1 cH;have dv:(getObj b).run P w=.ok (.map ms clock) w:=by simp[getObj,Sem.run,r3]
   rcases RN c1 cH r4 r6 r8 with ⟨f1,f2,f3⟩|⟨j,m,ent,f1,f2,f3,f4,f5,f6,f7⟩
   ·
    rw[Rr es kc yc f3]at c3;refine EOk.skip (g':=g) (w':=World.putObj' w b (.map (ms.push { key:=kv,val:=yv,born:=clock }) (clock+1))) ?_ c3 ?_
    ·rw[bZ];simp only[Instr.mapUpdate,Sem.run_bind,Aq hu,Result.andThen_ok,dv,run_checkKey pZ cW _ 9999,run_findKey pZ f1,Fv r3 ZV]
    ·refine LD hs r2 r3 hH fun aE kN=>?_;refine⟨b,_,_,aE.io _ _ bI,r2,kN,by simp[r4],by simp;omega,fun i' x' m' e1 e2=>?_,fun i' m' e1=>?_,fun i' j' m1 m2 e1 e2 o7=>?_⟩
     ·rw[J7]at e2;split at e2
      ·rename_i eO;simp at e2;subst e2
       rw[Jp ZT]at e1;rw[eO,r4]at e1;simp at e1;subst e1;exact⟨cH.mono aE,jz.mono aE⟩
      ·rename_i eO
       have:i'<es.length:=by
        rw[←r4];rcases Jg i' ms.size with h|h
        ·exact h
        ·rw[Jl h]at e2;simp at e2
       rw[Jo this]at e1;exact (r6 i' x' m' e1 e2).mono aE
     ·rw[J7]at e1;split at e1
      ·simp at e1;subst e1;simp
      ·have:=r7 i' m' e1;omega
     ·have old:∀(i':Nat) (m1:MapEntry),ms[i']? = some m1→m1.born<clock∧m1.key≠kv:=by
       intro i' m1 h1;refine⟨r7 _ _ h1,fun fv=>?_⟩;have af:i'<es.length:=by
        rw[←r4];rcases Jg i' ms.size with h|h
        ·exact h
        ·rw[Jl h]at h1;simp at h1
       have qb:=Jd af;have:=(Eo c1 (Ji qb) cH (r6 _ _ _ qb h1).1).2 fv;rw[f3 _ (Ji qb)]at this;simp at this
      rw[J7]at e1 e2;split at e1 <;> split at e2
      ·omega
      ·simp at e1;subst e1;have:=old _ _ e2;rcases o7 with h|h
       ·simp at h;omega
       ·simp at h;exact absurd h.symm this.2
      ·simp at e2;subst e2;have:=old _ _ e1;rcases o7 with h|h
       ·simp at h;omega
       ·simp at h;exact absurd h this.2
      ·exact r8 _ _ _ _ e1 e2 o7
   ·
    rw[KV es kc yc j ent f4 f6 f7]at c3;have iI:j<ms.size:=by
     rcases Jg j ms.size with h|h
     ·exact h
     ·rw[Jl h]at f2;simp at f2
    refine EOk.skip (g':=g) (w':=World.putObj' w b (.map (ms.modify j fun e=>{ e with key:=kv,val:=yv }) clock)) ?_ c3 ?_
    ·rw[bZ];simp only[Instr.mapUpdate,Sem.run_bind,Aq hu,Result.andThen_ok,dv,run_checkKey pZ cW _ 9999,run_findKey pZ f1,f2,Jr,Ju,f3,run_keyThatStays cW];rw[Fv r3 ZV];rfl
    ·refine LD hs r2 r3 hH fun aE kN=>?_;refine⟨b,_,_,aE.io _ _ bI,r2,kN,by simp[r4],by simpa using r5,fun i' x' m' e1 e2=>?_,fun i' m' e1=>?_,fun i' j' m1 m2 e1 e2 o7=>?_⟩
     ·rw[J9]at e2;rw[Jar]at e1;split at e2
      ·rename_i hj
       subst hj;rw[if_pos rfl,if_pos ZT]at e1;simp at e1;subst e1;rw[f2]at e2;simp at e2;subst e2;exact⟨cH.mono aE,jz.mono aE⟩
      ·rename_i hj
       rw[if_neg hj]at e1;exact (r6 i' x' m' e1 e2).mono aE
     ·rw[J9]at e1;split at e1
      ·rename_i hj;subst hj;rw[f2]at e1;simp at e1;subst e1;exact r7 j m f2
      ·exact r7 _ _ e1
     ·have old:∀(i':Nat) (m1:MapEntry),(ms.modify j fun e=>{ e with key:=kv,val:=yv })[i']? = some m1→∃m0,ms[i']? = some m0∧m0.born=m1.born∧m0.key=m1.key:=by
       intro i' m1 h1;rw[J9]at h1;split at h1
       ·rename_i hj;subst hj;rw[f2]at h1;simp at h1;subst h1;exact⟨m,f2,rfl,f3⟩
       ·exact⟨m1,h1,rfl,rfl⟩
      obtain⟨n1,k1,k2,k3⟩:=old _ _ e1;obtain⟨n2,k4,k5,k6⟩:=old _ _ e2;refine r8 _ _ _ _ k1 k4 ?_;rcases o7 with h|h
      ·exact .inl (by rw[k2,k5,h])
      ·exact .inr (by rw[k3,k6,h])
  ·exact q6.elim
 ·exact q6.elim
end Go.AE
namespace Go.AE
variable {P:Program}{H:Heap}{g:G}{w:World}{e:Env}{a:Act}{o:Oper}{p:Bool}
theorem TB {f:FuncId}(h:fnOk P f=true)(args:Array Value)(w:World):(callFunc f args).run P w=.ok (.enter f args) w:=by
 unfold fnOk at h;split at h
 ·rename_i fn hf
  simp only[Ja,bne_iff_ne,ne_eq]at h;obtain⟨h1,h2⟩:=h;have hn:fn.body≠none:=by intro hb;rw[hb]at h1;simp at h1
  simp[callFunc,hf,h2,hn]
 ·simp at h
theorem Mj {f:FuncId}{args:List V}{K:V→Heap→Prop}(hc:Qm P f args H K)(hs:Sat H g w){vs:List Value}(hl:vs.length=args.length)
  (hv:∀(j:Nat) (x:V) (u:Value),args[j]? = some x→vs[j]? = some u→RepV w g x u) (hr:(execOp a.eval o).run P w=.ok (.enter f vs.toArray) w):EOk P H g w a o K:=by
 intro Q next hn iF;unfold Oper.wp;rw[hr,Oper.upon_enter];refine (hc.2 g w vs hs hl hv).mono fun en w' h=>?_;rcases h with ⟨v,x,H',g',rfl,hk,aC,dz⟩|⟨v,H',g',rfl,hk,aC⟩
 ·exact hn x v w' H' g' hk aC dz
 ·exact iF v w' H' g' hk aC
theorem Ri (he:EnvOk w g e a)(hp:p=true){xs:List Opd}{ys:List Operand}(hm:mOs xs ys=true)(hf:∀x∈xs,x.fine p e) :
  (ys.map a.eval).length=(xs.map fun x=>x.v e).length∧∀(j:Nat) (x:V) (u:Value),(xs.map fun x=>x.v e)[j]? = some x→(ys.map a.eval)[j]? = some u→RepV w g x u:=by
 obtain⟨h1,h2⟩:=Fw xs ys hm;refine⟨by simp[h1],fun j x u e1 e2=>?_⟩;simp only[Jj]at e1 e2
 cases hj:xs[j]? with
 |none=>rw[hj]at e1;simp at e1
 |some x0=>
  cases cY:ys[j]? with
  |none=>rw[cY]at e2;simp at e2
  |some y0=>
   rw[hj]at e1;rw[cY]at e2;simp at e1 e2;subst e1;subst e2;exact Al he (h2 j x0 y0 hj cY) hp (hf x0 (Ji hj))
theorem YT {f:Nat}{xs:List Opd}{aS:Array Operand}{ats:Array TypeId}{K:V→Heap→Prop}(hm:o.op=.call { callee:=.value (.func f),args:=aS,argTypes:=ats })(hx:mOs xs aS.toList=true)
  (hs:Sat H g w) (he:EnvOk w g e a) (hp:p=true) (hf:∀x∈xs,x.fine p e) (hc:Qm P f (xs.map fun x=>x.v e) H K):EOk P H g w a o K:=by
 obtain⟨h1,h2⟩:=Ri he hp hx hf;refine Mj hc hs h1 h2 ?_;have cI:aS.map a.eval=(aS.toList.map a.eval).toArray:=by apply Jab;simp
 simp only[execOp,hm,resolve,Deferred.ofValue,Act.eval,Sem.run_bind,Sem.run_pure,Result.andThen_ok,invoke];have:(#[]++aS.map a.eval++#[]:Array Value)=(aS.toList.map a.eval).toArray:=by rw[cI];simp
 rw[this];exact TB hc.1 _ w
theorem Qbpe {x:Opd}{y:Operand}{xs:List Opd}{aS:Array Operand}{ats:Array TypeId}{K:V→Heap→Prop}(hm:o.op=.call { callee:=.value y,args:=aS,argTypes:=ats })(hy:mO x y=true)(hx:mOs xs aS.toList=true)
  (hs:Sat H g w) (he:EnvOk w g e a) (hp:p=true) (ho:(EOp.eA x xs).eff P p e H K):EOk P H g w a o K:=by
 simp only[EOp.eff]at ho;obtain⟨q1,hf,q2⟩:=ho;have hr:=Al he hy hp q1;split at q2
 ·rename_i n caps hv
  rw[hv]at hr;obtain⟨cv,hq,cG,j3⟩:=hr.aF.fn_inv;obtain⟨h1,h2⟩:=Ri he hp hx hf;refine Mj (vs:=aS.toList.map a.eval++cv) q2 hs (by rw[Jah,Jah,h1];simp[cG]) (fun j z u e1 e2=>?_) ?_
  ·by_cases hj:j<(xs.map fun x=>x.v e).length
   ·rw[Jo hj]at e1;rw[Jo (by rw[h1];exact hj)]at e2;exact h2 j z u e1 e2
   ·rw[Jp ZT]at e1 e2;rw[h1]at e2;simp only[Jj]at e1
    cases hc:caps[j-(xs.map fun x=>x.v e).length]? with
    |none=>rw[hc]at e1;simp at e1
    |some c=>
     rw[hc]at e1;simp at e1;subst e1;exact .c _ _ (j3 _ c u hc e2)
  ·have cI:aS.map a.eval=(aS.toList.map a.eval).toArray:=by apply Jab;simp
   simp only[execOp,hm,resolve,hq,Deferred.ofValue,Sem.run_bind,Sem.run_pure,Result.andThen_ok,invoke];have:(#[]++aS.map a.eval++cv.toArray:Array Value)=(aS.toList.map a.eval++cv).toArray:=by rw[cI];simp
   rw[this];exact TB q2.1 _ w
 ·exact q2.elim
theorem Qatz {t el:TypeId}(h:P.underlying t=some (.slice el))(d:Nat)(b:Option Addr)(n c:Nat)(w:World):(Op.equalIn (d+1) t (.slice b n c) (.slice none 0 0)).run P w=.ok b.isNone w:=by
 cases b <;> simp[Op.equalIn,Aq h]
theorem YS {x:Opd}{x' y':Operand}{t t' el:TypeId}{K:V→Heap→Prop}(hm:o.op=.binOp .eql t x' y' t')(hu:P.underlying t=some (.slice el))(hx:mO x x'=true)(hy:a.eval y'=.slice none 0 0)
  (hs:Sat H g w) (he:EnvOk w g e a) (hp:p=true) (ho:(EOp.nilq x).eff P p e H K):EOk P H g w a o K:=by
 simp only[EOp.eff]at ho;obtain⟨q1,q2⟩:=ho;have hr:=Al he hx hp q1;split at q2
 ·rename_i fl sz rows hv
  rw[hv]at hr;have j3:=hr.aF;generalize hq:a.eval x'=xv at j3;have lG:(execOp a.eval o).run P w=((binOp .eql t xv (.slice none 0 0)).run P w).andThen fun v w'=>.ok (.value v) w':=by
   simp only[execOp,hm,hq,hy,Sem.run_bind];rw[Ba]
   ·simp
   ·intro cs ds h;simp at h
   ·intro h;simp at h
  have gA:∀b:Option Addr,∀n c,(Op.equal t (.slice b n c) (.slice none 0 0)).run P w=.ok b.isNone w:=by
   intro b n c;exact Qatz hu 9999 b n c w
  cases j3 with
  |bn _ _ ad=>
   refine EOk.value (g':=g) (v:=.bool ad.isNone) (w':=w) ?_ (q2 ad.isNone (fun _=>rfl)) (.refl hs) (.c _ _ (.bool _));rw[lG];simp only[binOp,Sem.run_bind,gA,Result.andThen_ok,Sem.run_pure]
  |sl=>
   refine EOk.value (g':=g) (v:=.bool false) (w':=w) ?_ (q2 false ZV) (.refl hs) (.c _ _ (.bool _));rw[lG];simp only[binOp,Sem.run_bind,gA,Result.andThen_ok,Sem.run_pure];rfl
 ·exact q2.elim
theorem Qbqb {v:Value}{l:Nat}(h:RepC w g (.itr l) v):∃b,v=.pointer (some ⟨b,0,none⟩)∧g.io l=some (b,0,0):=by
 cases h with
 |itr _ b bI=>exact⟨b,rfl,bI⟩
theorem YQ {x:Opd}{x':Operand}{t:TypeId}{K:V→Heap→Prop}(hm:o.op=.range t x')(hu:P.underlying t=some .string)(hx:mO x x'=true)
  (hs:Sat H g w) (he:EnvOk w g e a) (hp:p=true) (ho:(EOp.rngs x).eff P p e H K):EOk P H g w a o K:=by
 simp only[EOp.eff]at ho;obtain⟨q1,q2⟩:=ho;have hr:=Al he hx hp q1;obtain⟨l',dd,ew⟩:=hs.newName;split at q2
 ·rename_i s hv
  rw[hv]at hr;obtain⟨hq,hl⟩:=hr.aF.str_inv;have aC:=Dw hs dd 0 0 (.stringIter ⟨s.toArray⟩ 0) (.sit s 0) (fun g' hg=>by
   subst hg;exact⟨w.heap.size,Zaf,Zaf,Cl _ _,hl⟩)
  refine EOk.value (v:=.pointer (some ⟨w.heap.size,0,none⟩)) (w':=w.alloc (.stringIter ⟨s.toArray⟩ 0)) ?_ (q2 l' ew) aC (.c _ _ (.itr l' w.heap.size Zaf));simp[execOp,hm,hq,Instr.range,Aq hu]
 ·exact q2.elim
theorem YR {x:Opd}{x':Operand}{K:V→Heap→Prop}(hm:o.op=.next x' true)(hx:mO x x'=true)
  (hs:Sat H g w) (he:EnvOk w g e a) (hp:p=true) (ho:(EOp.nxts x).eff P p e H K):EOk P H g w a o K:=by
 simp only[EOp.eff]at ho;obtain⟨q1,q2⟩:=ho;have hr:=Al he hx hp q1;split at q2
 ·rename_i i hv
  rw[hv]at hr;obtain⟨b,hq,bI⟩:=Qbqb hr.aF;have bC:=hs.objs i;split at q2
  ·rename_i s q hH
   obtain⟨c1,c2⟩:=q2;rw[hH]at bC;obtain⟨b',r1,r2,r3,r4⟩:=bC;rw[bI]at r1;simp only[Jb,Jk,and_true]at r1;subst r1;have aO:(⟨s.toArray⟩:ByteArray).size=s.length:=by simp[ByteArray.size]
   have bZ:(execOp a.eval o).run P w=((Instr.next (.pointer (some ⟨b,0,none⟩)) true o.type).run P w).andThen fun v w'=>.ok (.value v) w':=by
    simp[execOp,hm,hq]
   by_cases af:q<s.length
   ·have dl:q<(⟨s.toArray⟩:ByteArray).size:=(by rw[aO];exact af);have dv:(getObj b).run P w=.ok (.stringIter ⟨s.toArray⟩ q) w:=(by simp[getObj,Sem.run,r3]);have bX:(Instr.next (.pointer (some ⟨b,0,none⟩)) true o.type).run P w=.ok (.tuple #[.bool true,.int .i64 q,.int .i32 (Utf8.decode ⟨s.toArray⟩ q).1]) (World.putObj' w b (.stringIter ⟨s.toArray⟩ (q+(Utf8.decode ⟨s.toArray⟩ q).2))):=by
     simp only[Instr.next,Sem.run_bind,dv,Result.andThen_ok,dl,if_true,Fv r3 ZV];simp[goInt]
    have fC:((⟨s.toArray⟩:ByteArray)[q]'dl)=s.getD q 0:=by
     have:((⟨s.toArray⟩:ByteArray)[q]'dl)=s[q]'af:=rfl;rw[this,Jv,Jd af];rfl
    have aC:Stp H g w (H.set i (.sit s (q+(Utf8.decode ⟨s.toArray⟩ q).2))) g (World.putObj' w b (.stringIter ⟨s.toArray⟩ (q+(Utf8.decode ⟨s.toArray⟩ q).2))):=by
     have hb:b<w.heap.size:=G9 r3;refine FZ hs r2 (by simp[World.putObj']) (fun b' h=>Pk h) (fun T' k hk=>?_) rfl rfl rfl _ ZaZ (fun aE=>⟨b,bI,r2,NL hb,r4⟩) ZV;simp[World.shape?,r3]at hk
    refine EOk.value (g':=g) (v:=.tuple #[.bool true,.int .i64 q,.int .i32 (Utf8.decode ⟨s.toArray⟩ q).1]) (by rw[bZ,bX];rfl) (c2 ((Utf8.decode ⟨s.toArray⟩ q).1:Nat) (Utf8.decode ⟨s.toArray⟩ q).2 af ?_ ?_ ?_) aC (.tup _ [.bool true,.int .i64 q,.int .i32 (Utf8.decode ⟨s.toArray⟩ q).1] rfl fun j y u e1 e2=>?_)
    ·by_cases ha:(s.getD q 0).toNat<128
     ·rw[decode_ascii ⟨s.toArray⟩ q dl Zb9];exact Jz _
     ·exact (decode_high ⟨s.toArray⟩ q dl (by rw[fC];omega)).2
    ·intro ha;rw[decode_ascii ⟨s.toArray⟩ q dl Zb9];exact⟨by simp only[fC],rfl⟩
    ·intro ha;have:=(decode_high ⟨s.toArray⟩ q dl Zb9).1;omega
    ·match j with
     |0=>simp at e1 e2;subst e1;subst e2;exact .c _ _ (.bool _)
     |1=>simp at e1 e2;subst e1;subst e2;exact .c _ _ (.int _ _)
     |2=>simp at e1 e2;subst e1;subst e2;exact .c _ _ (.int _ _)
     |j+3=>simp at e1
   ·have ft:¬q<(⟨s.toArray⟩:ByteArray).size:=(by rw[aO];exact af);refine EOk.value (g':=g) (v:=.tuple #[.bool false]) (w':=w) (by simp[bZ,Instr.next,getObj,Sem.run,r3,ft]) (c1 ZT) (.refl hs) (.tup _ [.bool false] rfl fun j x u e1 e2=>?_)
    cases j with
    |zero=>simp at e1 e2;subst e1;subst e2;exact .c _ _ (.bool _)
    |succ j=>simp at e1
  ·exact q2.elim
 ·exact q2.elim
def Bo (z:Value)(sz:Nat)(q:Nat):Value:=z.cells[q % sz]!
theorem Ts {z:Value}{sz:Nat}(fR:z.cells.size=sz)(m:Nat):Builtin.zeroCells z.cells m=((List.range (m * sz)).map (Bo z sz)).toArray:=by
 subst fR;apply Jab;simp[Builtin.zeroCells,Bo,Array.toList_range]
theorem Qbj1 {el:TypeId}{i:TypeInfo}{z:Value}{sz:Nat}(hi:P.info? el=some i)(be:i.zero=some z)(fR:z.cells.size=sz)(m:Nat)(w:World) :
  (if m * sz=0 then (pure #[]:Sem (Array Value))else do pure (Builtin.zeroCells (←zeroValue el).cells m)).run P w=.ok ((List.range (m * sz)).map (Bo z sz)).toArray w:=by
 split
 ·rename_i h;rw[h];simp
 ·simp[BJ hi be,Ts fR]
theorem Gh {ats:Array TypeId}{ty t t2 el:TypeId}{i:TypeInfo}{z:Value}{sz:Nat}(h0:ats[0]? = some t)(h1:ats[1]? = some t2)(hu:P.underlying t=some (.slice el))(cg:P.underlying t2=some (.int .i64))
  (hi:P.info? el=some i) (hz:i.size=sz) (be:i.zero=some z) (fR:z.cells.size=sz) (fC:i.bytes≤128) {base:Option Addr} {n cap m:Nat} (hm:m≤LIM) (bY:n+m≤cap)
  {w':World} (aC:∀x,base=some x→(storeCells (x.add (n * sz)) ((List.range (m * sz)).map (Bo z sz))).run P w=.ok () w') (fS:base=none→w'=w) :
  (Builtin.append_ ats ty #[.slice base n cap,.int .i64 m]).run P w=.ok (.slice base (n+m) cap) w':=by
 rw[Ch]at hm;have jO:m * i.bytes≤m * 128:=Jae _ fC;have hw:IntKind.i64.wrap (m:Int)=m:=ZaX
 have mS:¬(281474976710656<(m:Int) * (i.bytes:Int)):=by
  have:((m * i.bytes:Nat):Int)≤((m * 128:Nat):Int):=by exact_mod_cast jO
  push_cast at this
  omega
 have hzm:=fun w=>Qbj1 (P:=P) hi be fR m w;simp only[Builtin.append_,h0,h1];simp[Aq hu,Aq cg,Bs hi,hz,asInt,asIntOf,hw,HD hi,mS,bY];rw[if_neg ZT];split
 ·rename_i h
  rw[h]at aC
  cases base with
  |none=>simp[fS rfl]
  |some x=>have:=aC x rfl;simp at this;simp[this]
 ·simp only[BJ hi be,Result.andThen,Ts fR]
  cases base with
  |none=>simp[fS rfl]
  |some x=>simp[aC x rfl]
theorem LB {ats:Array TypeId}{ty t t2 el:TypeId}{i:TypeInfo}{z:Value}{sz:Nat}(h0:ats[0]? = some t)(h1:ats[1]? = some t2)(hu:P.underlying t=some (.slice el))(cg:P.underlying t2=some (.int .i64))
  (hi:P.info? el=some i) (hz:i.size=sz) (be:i.zero=some z) (fR:z.cells.size=sz) (fC:i.bytes≤128) (gD:i.bytes≠0) {base:Option Addr} {n cap m:Nat} {f1:Nat→Value} (bY:¬n+m≤cap) (fP:n+m≤LIM)
  (lh:(Builtin.firstCells sz n (.slice base n cap)).run P w.drew=.ok ((List.range (n * sz)).map f1).toArray w.drew) :
  ∃(newCap:Nat) (rest:Array Value),n+m≤newCap∧rest.size=(newCap-(n+m)) * sz∧
   (Builtin.append_ ats ty #[.slice base n cap,.int .i64 m]).run P w=.ok (.slice (some ⟨w.heap.size,0,none⟩) (n+m) newCap)
    (w.drew.alloc (.cells (((List.range (n * sz)).map f1).toArray++((List.range (m * sz)).map (Bo z sz)).toArray++rest) el)):=by
 rw[Ch]at fP;have ru:=LE (Jbb bY);have jO:Builtin.nextslicecap (n+m) cap * i.bytes≤(2 * (n+m)+512) * 128:=Jbf ru fC;have oF:m * i.bytes≤m * 128:=Jae _ fC;have hw:IntKind.i64.wrap (m:Int)=m:=ZaX
 have mS:¬(281474976710656<(m:Int) * (i.bytes:Int)):=by
  have:((m * i.bytes:Nat):Int)≤((m * 128:Nat):Int):=by exact_mod_cast oF
  push_cast at this
  omega
 have b9:¬(281474976710656<Builtin.nextslicecap (n+m) cap * i.bytes):=ZT
 have hmax:¬(9223372036854775807<(n:Int)+(m:Int)):=ZT
 generalize cx:(Question.appendCap (n+m) cap el).cut (w.tape w.drawn (.appendCap (n+m) cap el))=newCap;refine⟨newCap,Builtin.zeroCells z.cells (newCap-(n+m)),?_,?_,?_⟩
 ·rw[←cx];simp[Question.cut]
 ·simp[Builtin.zeroCells,fR]
 ·simp only[Builtin.append_,h0,h1];simp[Aq hu,Aq cg,Bs hi,hz,asInt,asIntOf,hw,HD hi,mS,bY,gD];rw[if_neg ZT,if_neg ZT,if_neg b9];simp[Question.forced,cx,lh];split
  ·rename_i h
   rw[h];simp[BJ hi be,newRow]
  ·simp only[BJ hi be,Result.andThen,Ts fR];rw[←Jaf];simp[newRow]
theorem e_apz {sz m:Nat}{zr:List C}{A:C}{x' y':Operand}{ats:Array TypeId}{t t2 el:TypeId}{i:TypeInfo}{z:Value}{K:V→Heap→Prop}
  (hm:o.op=.call { callee:=.builtin .append,args:=#[x',y'],argTypes:=ats }) (h0:ats[0]? = some t) (h1:ats[1]? = some t2) (hu:P.underlying t=some (.slice el)) (cg:P.underlying t2=some (.int .i64))
  (hi:P.info? el=some i) (hz:i.size=sz) (be:i.zero=some z) (fR:z.cells.size=sz) (fC:i.bytes≤128) (gD:i.bytes≠0) (sE:BB zr z=true)
  (fY:RepC w g A (a.eval x')) (oq:a.eval y'=.int .i64 m) (jl:m≤LIM) (hs:Sat H g w) (q5:appT H sz A (.sl false sz (List.replicate m zr)) K):EOk P H g w a o K:=by
 generalize ot:a.eval x'=xv at fY;have bZ:(execOp a.eval o).run P w=((Builtin.append_ ats o.type #[xv,.int .i64 m]).run P w).andThen fun v w'=>.ok (.value v) w':=by
  simp[execOp,hm,resolve,invoke,builtin,ot,oq]
 have qe:=fun (w:World) (g:G)=>Hh (w:=w) (g:=g) sE;have lQ:zr.length=sz:=by
  have:=(qe w g).1;omega
 obtain⟨R,hR⟩:∃R,List.replicate m zr=R:=⟨_,rfl⟩;rw[hR]at q5;have hRl:R.length=m:=by rw[←hR];simp
 have tI:∀(i:Nat) (row:List C),R[i]? = some row→i<m∧row=zr:=by
  intro i row h;rw[←hR,List.getElem?_replicate]at h;split at h
  ·exact⟨‹_›,(Jbk h).symm⟩
  ·cases h
 have by3:∀(i:Nat) (row:List C),R[i]? = some row→row.length=sz:=fun i row h=>by rw[(tI i row h).2,lQ]
 have fz:∀(w:World) (g:G) (j:Nat) (c:C),zr[j]? = some c→∀i,RepC w g c (Bo z sz (i * sz+j)):=by
  intro w g j c hj i;have hjs:j<sz:=by
   rw[←lQ];exact (Jan.1 hj).1
  have e:(i * sz+j) % sz=j:=by rw[Nat.add_comm,Nat.add_mul_mod_self_right,Nat.mod_eq_of_lt hjs]
  have hg:z.cells[j]? = some z.cells[j]!:=by
   rw[getElem!_pos z.cells j ZT];exact Jf ZT
  rw[Bo,e];exact (qe w g).2 j c _ hj hg
 have f3:∀(w:World) (g:G) (i:Nat) (row:List C) (j:Nat) (c:C),R[i]? = some row→row[j]? = some c→RepC w g c (Bo z sz (i * sz+j)):=by
  intro w g i row j c h1 h2;rw[(tI i row h1).2]at h2;exact fz w g j c h2 i
 have f2:∀q,q<m * sz→(Bo z sz q).oneCell'=true:=by
  intro q hq;obtain⟨a1,a2,a3⟩:=Mr hq;have:=fz w g (q % sz) (zr[q % sz]'ZT) (Jd ZT) (q / sz);rw[a3]at this;exact this.one
 clear sE qe lQ fz hR;have dh:=Pw hs;unfold appT at q5;obtain⟨_,_,q5⟩:=q5;simp only[rowsOf,a9,hRl]at q5;split at q5
 ·
  rename_i z' rows
  obtain⟨rfl,c2,c3,c4,c5⟩:=q5;have eE:∃ad,xv=.slice ad rows.length rows.length:=by
   cases fY with
   |bn _ _ ad=>exact⟨ad,rfl⟩
   |sl _ _ _ b off cap val hl hf cR ci di jZ dG=>rw[hf rfl];exact⟨_,rfl⟩
  obtain⟨ad,rfl⟩:=eE;by_cases ib:m=0
  ·have bv:rows=[]:=by
    rcases c2 with h|h
    ·exact h
    ·exact absurd (Jt.1 ZT) h
   subst bv;obtain⟨l,hl,nu⟩:=hs.newName;have bX:=Gh (P:=P) (w:=w) (ty:=o.type) (base:=ad) (n:=0) (cap:=0) (m:=m) h0 h1 hu cg hi hz be fR fC jl ZT (w':=w)
    (fun x _=>by rw[ib];simp[storeCells]) (fun _=>rfl)
   refine EOk.value (v:=.slice ad (0+m) 0) (by rw[bZ];simp only[Jai];rw[bX];rfl) (c5 l nu) ?_ ?_ (g':=g.newVirt l z')
   ·have m9:R=[]:=Jt.1 ZT;rw[m9];exact Sg hs hl z'
   ·simp only[Jai,ib,Jx];exact .c _ _ (.bD _ _ _ _)
  ·obtain⟨l,hl,nu⟩:=dh.sat.newName;have nh:=fY.mono dh.le;have hA:∀r∈rowsOf H (C.sl true z' rows),ai r=true:=fun r hr=>c3 r (Jal _ hr);obtain⟨f',f1',f2',f3'⟩:=G4 dh.sat nh (s:=.sl true z' rows) trivial (sz:=z') rfl hA;simp only[a9]at f1';obtain⟨newCap,rest,k1,k2,k3⟩:=LB (P:=P) (w:=w) (ty:=o.type) h0 h1 hu cg hi hz be fR fC gD (base:=ad) (n:=rows.length) (cap:=rows.length) (m:=m) ZT c4 f1';have bm:=Tf (n:=rows.length) (m:=m) (sz:=z') (f1:=f') (f:=Bo z z') (rest:=rest);generalize cI:(((List.range (rows.length * z')).map f').toArray++((List.range (m * z')).map (Bo z z')).toArray++rest)=arr at k3 bm;have fE:arr.size=newCap * z':=by
    rw[←cI];simp[k2];rw[←Jh,←Jh];congr 1;omega
   have aC:=Dw dh.sat hl z' 0 (.cells arr el) (.vec z' (rows++R)) (fun g' hg=>by
    subst hg;have aE:=EB dh.sat hl z' 0 (.cells arr el);refine .inr (EJ (nb:=w.drew.heap.size) (base:=0) (T:=el) (arr:=arr) (n:=rows.length) (m:=m) Zaf Zaf (Cl _ _)
     Za1 c4 rfl ZT ?_ by3 ?_ ?_)
    ·cases fY with
     |bn=>simp
     |sl _ _ _ b off cap val hl hf cR ci di jZ dG=>exact di
    ·intro i row j c e1 e2;have pW:row.length=z':=by
      cases fY with
      |bn=>simp at e1
      |sl _ _ _ b off cap val hl hf cR ci di jZ dG=>exact di _ _ e1
     refine⟨f' (i * z'+j),bm.1 i j ?_ ?_,.plain _ _ _ _ ((f3' i row j c e1 e2).mono aE)⟩
     ·rcases Jg i rows.length with h|h
      ·exact h
      ·rw[Jc h]at e1;simp at e1
     ·rw[←pW];rcases Jg j row.length with h|h
      ·exact h
      ·rw[Jc h]at e2;simp at e2
    ·intro i row j c e1 e2;refine⟨Bo z z' (i * z'+j),bm.2 i j ?_ ?_,f3 _ _ i row j c e1 e2⟩
     ·rcases Jg i (R).length with h|h
      ·omega
      ·rw[Jc h]at e1;simp at e1
     ·rw[←by3 i row e1];rcases Jg j row.length with h|h
      ·exact h
      ·rw[Jc h]at e2;simp at e2)
   refine EOk.value (v:=.slice (some ⟨w.heap.size,0,none⟩) (rows.length+m) newCap) (by rw[bZ,k3];rfl) (c5 l nu) (dh.trans aC) ?_;have:=RepC.aw (w:=w.drew.alloc (.cells arr el)) (g:=g.newObj l w.drew.heap.size z' 0) l z' 0 (rows.length+m) newCap w.heap.size 0 el arr.size Zaf k1
    Zak Zb6
   simpa using RepV.c _ _ this
 ·
  rename_i l z' st n
  split at q5
  ·rename_i y0 rows hH
   obtain⟨lO,lR,c2,mP,c4,c5⟩:=q5;subst lR;subst lO;have bC:=hs.objs l;rw[hH]at bC;have gt:H l≠.none:=ZaZ
   have dt:∀v es,H l≠.map v es:=ZaZ
   have fy:(∃ad,xv=.slice ad 0 0∧n=0)∨∃b base cap T mm,xv=.slice (some ⟨b,base+st * z',none⟩) n cap∧g.io l=some (b,z',base)∧n≤cap∧w.shape? b=some (T,mm)∧base+(st+cap) * z'≤mm:=by
    cases fY with
    |bD _ _ _ ad=>exact .inl ⟨ad,rfl,rfl⟩
    |aw _ _ _ _ cap b base T mm bI hn fM jk=>exact .inr ⟨b,base,cap,T,mm,rfl,bI,hn,fM,jk⟩
   have aY:((rows.drop st).take n).length=n:=Zac
   have cV:∀(i:Nat) (row:List C),((rows.drop st).take n)[i]? = some row→i<n∧rows[st+i]? = some row:=by
    intro i row h;simp only[Jn,Js]at h;split at h
    ·exact⟨by assumption,h⟩
    ·simp at h
   have jlt:∀{row:List C} {j:Nat} {c:C} {k:Nat},row.length=k→row[j]? = some c→j<k:=by
    intro row j c k hk hj;rw[←hk];rcases Jg j row.length with h|h
    ·exact h
    ·rw[Jc h]at hj;simp at hj
   have grow:∀(ad:Option Addr) (cap:Nat),xv=.slice ad n cap→¬n+m≤cap→EOk P H g w a o K:=by
    intro ad cap eE rt;have jM:∃f':Nat→Value,(Builtin.firstCells z' n (.slice ad n cap)).run P w.drew=.ok ((List.range (n * z')).map f').toArray w.drew∧
      ∀(i:Nat) (row:List C) (j:Nat) (c:C),((rows.drop st).take n)[i]? = some row→row[j]? = some c→RepO w g l [st+i,j] c (f' (i * z'+j)):=by
     rcases fy with ⟨ad',h1,h2⟩|⟨b,base,cap',T,mm,h1,h2,h3,h4,h5⟩
     ·rw[eE]at h1;simp only[Value.slice.injEq]at h1;subst h2;refine⟨fun _=>undef,?_,fun i row j c e1 _=>by simp at e1⟩
      cases ad with
      |none=>simp[Builtin.firstCells]
      |some q=>simp[Builtin.firstCells,loadCells,loadCellsFrom]
     ·rw[eE]at h1;simp only[Value.slice.injEq]at h1;obtain⟨rfl,_,rfl⟩:=h1;obtain⟨b',base',T',cs,val,r1,r2,r3,r4,r5,r6,r7,r8⟩:=SatVec.of bC h2;rw[h2]at r1;simp only[Jb,Jk,true_and]at r1;obtain⟨rfl,rfl⟩:=r1;have ij:(st+n) * z'≤rows.length * z':=Jm _ c2;rw[Jh]at ij;refine⟨fun q=>cs.getD (base+st * z'+q) undef,?_,fun i row j c e1 e2=>?_⟩
      ·simp only[Builtin.firstCells];refine run_loadCells _ _ _ _ fun j hj=>?_;rw[BL];rw[show w.drew.cell? ⟨b,base+st * z'+j,none⟩=w.cell? ⟨b,base+st * z'+j,none⟩ from rfl,Dy r3];rw[Je,Jf ZT];rfl
      ·obtain⟨hi,e1'⟩:=cV i row e1;have:=r7 _ _ _ _ e1' e2;rw[Jh]at this;have e3:base+st * z'+(i * z'+j)=base+(st * z'+i * z')+j:=ZT;show RepO _ _ _ _ _ (cs.getD (base+st * z'+(i * z'+j)) undef);rw[e3,Je,this];exact r8 _ _ _ _ e1' e2
    obtain⟨f',f1',f3'⟩:=jM;obtain⟨newCap,rest,k1,k2,k3⟩:=LB (P:=P) (w:=w) (ty:=o.type) h0 h1 hu cg hi hz be fR fC gD (base:=ad) (n:=n) (cap:=cap) (m:=m) rt c4 f1';have bm:=Tf (n:=n) (m:=m) (sz:=z') (f1:=f') (f:=Bo z z') (rest:=rest);generalize cI:(((List.range (n * z')).map f').toArray++((List.range (m * z')).map (Bo z z')).toArray++rest)=arr at k3 bm;have fE:arr.size=newCap * z':=by
     rw[←cI];simp[k2];rw[←Jh,←Jh];congr 1;omega
    obtain⟨l',dd,ew⟩:=dh.sat.newName;have jn:l'≠l:=fun h=>ZaD;have aC:=Sr dh.sat (l:=l) (l':=l') dd gt (st:=st) (n:=n) (nb:=w.drew.heap.size) (sz:=z') (base:=0) (w':=w.drew.alloc (.cells arr el)) (rows:=(rows.drop st).take n++R)
     (.inr rfl) ZV ZV ZV (fun b hb af=>Di _ _ af) (fun h=>absurd h (Jbh _)) rfl rfl rfl (fun aE=>by
      refine EJ (nb:=w.drew.heap.size) (base:=0) (T:=el) (arr:=arr) (n:=n) (m:=m) Zar Zar (Cl _ _)
       Za1 c4 aY ZT (fun i row h=>?_) by3 (fun i row j c e1 e2=>?_) (fun i row j c e1 e2=>?_)
      ·obtain⟨hi,h'⟩:=cV i row h;rcases bC with ⟨r1,_⟩|⟨b',base',T',cs,val,r1,r2,r3,r4,r5,r6,r7,r8⟩
       ·rw[r1]at h';simp at h'
       ·exact r6 _ _ h'
      ·obtain⟨hi,h'⟩:=cV i row e1;have co:row.length=z':=by
        rcases bC with ⟨r1,_⟩|⟨b',base',T',cs,val,r1,r2,r3,r4,r5,r6,r7,r8⟩
        ·rw[r1]at h';simp at h'
        ·exact r6 _ _ h'
       refine⟨f' (i * z'+j),bm.1 i j hi (jlt co e2),?_⟩;refine (f3' i row j c e1 e2).move (dh.le.trans aE) fun q b hb=>?_;have fD:=BV hs hb;have ju:b≠w.drew.heap.size:=ZbD;exact⟨S0 hb hi ju,Di _ _ fD⟩
      ·refine⟨Bo z z' (i * z'+j),bm.2 i j ?_ (jlt (by3 i row e1) e2),f3 _ _ i row j c e1 e2⟩;rcases Jg i (R).length with h|h
       ·omega
       ·rw[Jc h]at e1;simp at e1) dt
    refine EOk.value (v:=.slice (some ⟨w.heap.size,0,none⟩) (n+m) newCap) (by rw[bZ,eE,k3];rfl) (c5 l' ZaU) (dh.trans aC) ?_;have:=RepC.aw (w:=w.drew.alloc (.cells arr el)) (g:=g.handOver l l' st n w.drew.heap.size z' 0) l' z' 0 (n+m) newCap w.heap.size 0 el arr.size Zar k1
     Zak Zb6
    simpa using RepV.c _ _ this
   rcases fy with ⟨ad,eE,rfl⟩|⟨b,base,cap,T,mm,eE,bI,oE,fM,jk⟩
   ·by_cases ib:m=0
    ·
     have bX:=Gh (P:=P) (w:=w) (ty:=o.type) (base:=ad) (n:=0) (cap:=0) (m:=m) h0 h1 hu cg hi hz be fR fC jl ZT (w':=w)
      (fun x _=>by rw[ib];simp[storeCells]) (fun _=>rfl)
     have hd:=Pv hs l dt;obtain⟨l',dd,ew⟩:=hd.sat.newName;refine EOk.value (v:=.slice ad (0+m) 0) (by rw[bZ,eE,bX];rfl) (c5 l' ew) ?_ ?_ (g':=g.newVirt l' z')
     ·have m9:R=[]:=Jt.1 ZT;rw[m9];simp only[Jbe,Jav];exact hd.trans (Sg hd.sat dd z')
     ·simp only[ib,Jx];exact .c _ _ (.bD _ _ _ _)
    ·exact grow ad 0 eE ZT
   ·by_cases bY:n+m≤cap
    ·
     obtain⟨b',base',T',cs,val,r1,r2,r3,r4,r5,r6,r7,r8⟩:=SatVec.of bC bI;rw[bI]at r1;simp only[Jb,Jk,true_and]at r1;obtain⟨rfl,rfl⟩:=r1;have mQ:mm=cs.size∧T=T':=by
      simp only[World.shape?,r3,Jb,Jk]at fM;exact⟨fM.2.symm,fM.1.symm⟩
     obtain⟨rfl,rfl⟩:=mQ;have im:(st+(n+m)) * z'≤(st+cap) * z':=Jm _ ZT;rw[Jh,Jh]at im;have ij:base+st * z'+n * z'+m * z'≤cs.size:=by
      rw[Jh]at jk im;omega
     have dA:=fun k=>RM (base+st * z'+n * z') ((List.range (m * z')).map (Bo z z')) 0 cs k Zac;generalize ni:(((List.range (m * z')).map (Bo z z')).zipIdx 0).foldl (fun (cs:Array Value) (x:Value×Nat)=>cs.setIfInBounds (base+st * z'+n * z'+x.2) x.1) cs=cs' at dA;have fh:=Su (P:=P) ((List.range (m * z')).map (Bo z z')) 0 w b (base+st * z'+n * z') cs T r3 Zac (by
      intro v hv;simp only[Ja8,Jbd]at hv;obtain⟨q,hq,rfl⟩:=hv;exact f2 q hq)
     rw[ni]at fh;have bX:=Gh (P:=P) (w:=w) (ty:=o.type) (base:=some ⟨b,base+st * z',none⟩) (n:=n) (cap:=cap) (m:=m) h0 h1 hu cg hi hz be fR fC jl bY (w':=World.az w b cs' T)
      (fun x hx=>by simp only[Jb]at hx;subst hx;rw[BL];exact fh) (fun h=>Zaa)
     have ev:=G9 r3;obtain⟨l',dd,ew⟩:=hs.newName;have jn:l'≠l:=fun h=>ZaD;have gU:cs'.size=cs.size:=(dA 0).1;have aC:=Sr hs (l:=l) (l':=l') dd gt (st:=st) (n:=n) (nb:=b) (sz:=z') (base:=base+st * z') (w':=World.az w b cs' T) (rows:=(rows.drop st).take n++R)
      (.inl ⟨ev,r2⟩) (by simp[World.az]) (by simp[World.az];exact ev) (by simp[World.az];omega) (fun b' br _=>EG br)
      (fun _ T0 k hk=>by
       simp only[World.shape?,r3,Jb,Jk]at hk;simp only[World.shape?,D5 ev,gU,Jb,Jk];exact hk) rfl rfl rfl (fun aE=>by
       refine EJ (nb:=b) (base:=base+st * z') (T:=T) (arr:=cs') (n:=n) (m:=m) Zar Zar (D5 ev)
        (by rw[gU,Jh];omega) c4 aY ZT (fun i row h=>r6 _ _ (cV i row h).2) by3 (fun i row j c e1 e2=>?_) (fun i row j c e1 e2=>?_)
       ·obtain⟨hi,h'⟩:=cV i row e1;have hj:=jlt (r6 _ _ h') e2;have af:=Hd hi hj;refine⟨val (st+i) j,?_,?_⟩
        ·rw[(dA _).2,if_neg ZT,←r7 _ _ _ _ h' e2];congr 1;rw[Jh];omega
        ·refine (r8 _ _ _ _ h' e2).move aE fun q b2 bM=>?_;have ju:b2≠b:=fun h=>(by subst h;rw[r2]at bM;simp at bM);exact⟨S0 bM hi ju,EG ju⟩
       ·have hj:=jlt (by3 i row e1) e2;have hi:i<m:=by
         rcases Jg i (R).length with h|h
         ·omega
         ·rw[Jc h]at e1;simp at e1
        have af:=Hd hi hj;refine⟨Bo z z' (i * z'+j),?_,f3 _ _ i row j c e1 e2⟩;have jO:(n+i) * z'=n * z'+i * z':=(by rw[Jh]);rw[(dA _).2,if_pos Zac];rw[show base+st * z'+(n+i) * z'+j-(base+st * z'+n * z'+0)=i * z'+j by omega];simp only[Jj];rw[Jad af];rfl) dt
     refine EOk.value (v:=.slice (some ⟨b,base+st * z',none⟩) (n+m) cap) (by rw[bZ,eE,bX];rfl) (c5 l' ZaU) aC ?_;have:=RepC.aw (w:=World.az w b cs' T) (g:=g.handOver l l' st n b z' (base+st * z')) l' z' 0 (n+m) cap b (base+st * z') T cs.size Zar bY
      ZbE (by rw[J2];rw[Jh]at jk;omega)
     simpa using RepV.c _ _ this
    ·exact grow _ cap eE bY
  ·exact q5.elim
 ·exact q5.elim
def EV (P:Program)(el:TypeId)(sz:Nat):Bool:=
 match P.info? el with
 |some i=>i.size == sz&&decide (i.bytes≤128)&&decide (i.bytes≠0)&&(match i.zero with
  |some z=>z.cells.size == sz
  |none=>false)
 |none=>false
theorem Qbav {el:TypeId}{sz:Nat}(h:EV P el sz=true):∃i z,P.info? el=some i∧i.size=sz∧i.zero=some z∧z.cells.size=sz∧i.bytes≤128∧i.bytes≠0:=by
 unfold EV at h;split at h
 ·rename_i i hi
  simp only[Ja,decide_eq_true_eq,beq_iff_eq]at h;obtain⟨⟨⟨h1,h2⟩,h3⟩,h4⟩:=h;split at h4
  ·rename_i z hz;exact⟨i,z,hi,h1,hz,by simpa using h4,h2,h3⟩
  ·simp at h4
 ·simp at h
def mMap (P:Program)(t:TypeId)(tag:Nat):Bool:=
 match P.underlying t with
 |some (.map kt _)=>(match P.underlying kt with
  |some d=>CM d tag
  |none=>false)
 |_=>false
theorem K3 {t:TypeId}{tag:Nat}(h:mMap P t tag=true):∃kt et,P.underlying t=some (.map kt et)∧P.underlying kt=some (tagD tag):=by
 unfold mMap at h;split at h
 ·rename_i kt et hu
  split at h
  ·rename_i d hd;have:=Q9j h;subst this;exact⟨kt,et,hu,hd⟩
  ·simp at h
 ·simp at h
def mE (P:Program)(o:Oper):EOp→Bool
 |.alloc cells=>match o.op with
  |.alloc t=>D7 P t cells
  |_=>false
 |.boxm x=>match o.op with
  |.box _ x'=>mO x x'
  |_=>false
 |.sto n x y=>match o.op with
  |.store t x' y'=>B6 P t n&&mO x x'&&mO y y'
  |_=>false
 |.app sz x y=>match o.op with
  |.call { callee:=.builtin .append,args:=⟨[x',y']⟩,argTypes:=ats }=>mO x x'&&mO y y'&&(match ats[0]?,ats[1]? with
   |some t,some t2=>(match P.underlying t,P.underlying t2 with
    |some (.slice el),some (.slice _)=>EV P el sz
    |_,_=>false)
   |_,_=>false)
  |_=>false
 |.apz sz zr x y=>false
 |.mks sz zero x=>false
 |.mkm=>match o.op with
  |.makeMap _ none=>true
  |_=>false
 |.upd tag x k y=>match o.op with
  |.mapUpdate t x' k' y'=>mO x x'&&mO k k'&&mO y y'&&mMap P t tag
  |.insert t x' k' y'=>mO x x'&&mO k k'&&mO y y'&&mMap P t tag
  |_=>false
 |.del tag x k=>false
 |.clrm x=>false
 |.clrs sz zero x=>false
 |.call f xs=>match o.op with
  |.call { callee:=.value (.func f'),args:=aS,argTypes:=_ }=>f == f'&&mOs xs aS.toList
  |_=>false
 |.eA x xs=>match o.op with
  |.call { callee:=.value y,args:=aS,argTypes:=_ }=>mO x y&&mOs xs aS.toList
  |_=>false
 |.rng x=>false
 |.rngs x=>match o.op with
  |.range t x'=>mO x x'&&(match P.underlying t with
   |some .string=>true
   |_=>false)
  |_=>false
 |.nxts x=>match o.op with
  |.next x' true=>mO x x'
  |_=>false
 |.nxt x=>false
 |.ent x=>false
 |.nilq x=>match o.op with
  |.binOp .eql t x' (.const (.slice none 0 0)) _=>mO x x'&&(match P.underlying t with
   |some (.slice _)=>true
   |_=>false)
  |_=>false
 |.cpy sz x y=>false
 |.bslm sz parts=>match o.op with
  |.buildSlice t n parts'=>n == parts'.size&&decide (n * sz≤2 ^ 24)&&mRow 0 parts parts'.toList&&decide (sz≠0)&&(match P.underlying t with
   |some (.slice el)=>B6 P el sz&&(match P.info? el with
    |some i=>i.zero.isSome
    |none=>false)
   |_=>false)
  |_=>false
theorem FQ {op:EOp}{K:V→Heap→Prop}(hm:mE P o op=true)(hs:Sat H g w)(he:EnvOk w g e a)(hp:p=true)(ho:op.eff P p e H K):EOk P H g w a o K:=by
 cases op with
 |alloc cells=>
  simp only[mE]at hm;split at hm
  ·obtain⟨i,z,h1,h2,h3⟩:=Q9l hm;exact Qbpd ‹_› h1 h2 h3 hs ho
  ·simp at hm
 |boxm x=>
  simp only[mE]at hm;split at hm
  ·exact Y1 ‹_› hm hs he hp ho
  ·simp at hm
 |sto n x y=>
  simp only[mE]at hm;split at hm
  ·simp only[Ja]at hm;obtain⟨i,h1,h2⟩:=GG hm.1.1;exact XR ‹_› h1 h2 hm.1.2 hm.2 hs he hp ho
  ·simp at hm
 |app sz x y=>
  simp only[mE]at hm;split at hm
  ·rename_i x' y' ats b7
   simp only[Ja]at hm;obtain⟨⟨h1,h2⟩,h3⟩:=hm;split at h3
   ·rename_i t t2 ht jh
    split at h3
    ·rename_i el el2 hu cg
     obtain⟨i,z,k1,k2,k3,k4,k5,k6⟩:=Qbav h3;exact XT b7 ht jh hu cg k1 k2 k3 k4 k5 k6 h1 h2 hs he hp ho
    ·simp at h3
   ·simp at h3
  ·simp at hm
 |apz sz zr x y=>
  simp[mE]at hm
 |bslm sz parts=>
  simp only[mE]at hm;split at hm
  ·rename_i t n parts' b7
   simp only[Ja,decide_eq_true_eq,beq_iff_eq]at hm;obtain⟨⟨⟨⟨h1,h2⟩,h3⟩,h4⟩,h5⟩:=hm;split at h5
   ·rename_i el eu
    rw[Ja]at h5;obtain⟨i,hi,hz⟩:=GG h5.1;have h6:=h5.2;rw[hi]at h6;obtain⟨z,bF⟩:=J1.1 h6;obtain⟨k1,k2⟩:=FV _ _ _ h3;exact Y0 b7 eu hi bF hz h4 h1 h2 (by simpa using k1) (fun j x y e1 e2=>by
     have:=k2 j x y e1 ZaH;exact⟨by simpa using this.1,this.2⟩) hs he hp ho
   ·simp at h5
  ·simp at hm
 |mks sz zero x=>
  simp[mE]at hm
 |mkm=>
  simp only[mE]at hm;split at hm
  ·exact XS ‹_› hs ho
  ·simp at hm
 |upd tag x k y=>
  simp only[mE]at hm;split at hm
  ·simp only[Ja]at hm;obtain⟨kt,et,h1,h2⟩:=K3 hm.2;exact Iq (.inl ‹_›) h1 h2 hm.1.1.1 hm.1.1.2 hm.1.2 hs he hp ho
  ·simp only[Ja]at hm;obtain⟨kt,et,h1,h2⟩:=K3 hm.2;exact Iq (.inr ‹_›) h1 h2 hm.1.1.1 hm.1.1.2 hm.1.2 hs he hp ho
  ·simp at hm
 |del tag x k=>
  simp[mE]at hm
 |clrm x=>
  simp[mE]at hm
 |clrs sz zero x=>
  simp[mE]at hm
 |call f xs=>
  simp only[mE]at hm;split at hm
  ·simp only[Ja,beq_iff_eq]at hm;obtain⟨rfl,h2⟩:=hm;simp only[EOp.eff]at ho;exact YT ‹_› h2 hs he hp ho.1 ho.2
  ·simp at hm
 |eA x xs=>
  simp only[mE]at hm;split at hm
  ·simp only[Ja]at hm;exact Qbpe ‹_› hm.1 hm.2 hs he hp ho
  ·simp at hm
 |rng x=>
  simp[mE]at hm
 |rngs x=>
  simp only[mE]at hm;split at hm
  ·rename_i t x' b7
   rw[Ja]at hm;obtain⟨h1,h2⟩:=hm;split at h2
   ·exact YQ b7 ‹_› h1 hs he hp ho
   ·simp at h2
  ·simp at hm
 |nxts x=>
  simp only[mE]at hm;split at hm
  ·exact YR ‹_› hm hs he hp ho
  ·simp at hm
 |nxt x=>
  simp[mE]at hm
 |ent x=>
  simp[mE]at hm
 |cpy sz x y=>
  simp[mE]at hm
 |nilq x=>
  simp only[mE]at hm;split at hm
  ·rename_i t x' t' b7
   rw[Ja]at hm;obtain⟨h1,h2⟩:=hm;split at h2
   ·exact YS b7 ‹_› h1 rfl hs he hp ho
   ·simp at h2
  ·simp at hm
def mG (ops:Array Oper):Option (Nat×Bool)→Option (Nat×Bool)→Bool
 |none,none=>true
 |some (j,b),some (t,b')=>(match ops[j]? with
  |some o=>o.dst == some t
  |none=>false)&&b == b'
 |_,_=>false
def mDst (n:Nat)(d d':Option Nat):Bool:=
 d == d'&&(match d with
  |some t=>decide (t<n)
  |none=>true)
def Bh (P:Program)(n:Nat)(ops:Array Oper)(o:Oper):Item→Bool
 |.f d g op=>mDst n o.dst d&&mG ops o.guard g&&mF P o op
 |.p d g f xs=>mDst n o.dst d&&mG ops o.guard g&&mE P o (.call f xs)
 |.e d g op=>mDst n o.dst d&&mG ops o.guard g&&mE P o op
 |.chk _ _ _=>false
def mIts (P:Program)(n:Nat)(ops:Array Oper):Nat→List Item→Bool
 |i,[]=>i == ops.size
 |i,x::r=>(match ops[i]? with
  |some o=>Bh P n ops o x
  |none=>false)&&mIts P n ops (i+1) r
def Post (n:Nat)(H:Heap)(g:G)(w:World)(K:Env→Heap→Prop)(a:Act)(w':World):Prop:=
 ∃e' H' g',K e' H'∧Stp H g w H' g' w'∧EnvOk w' g' e' a∧a.defers=[]∧a.tmps.size=n
theorem EnvOk.mono {g':G}{w':World}(aE:Le g w g' w')(h:EnvOk w g e a):EnvOk w' g' e a:=fun t=>(h t).mono aE
theorem EnvOk.put {n:Nat}{d:Option Nat}{x:V}{v:Value}(h:EnvOk w g e a)(hv:RepV w g x v)(hn:a.tmps.size=n)(hd:∀t,d=some t→t<n):EnvOk w g (putE d x e) (a.put d v):=by
 intro t
 cases d with
 |none=>exact h t
 |some s=>
  have hs:=hd s rfl;simp only[putE,lk,Act.put];by_cases ht:t=s
  ·subst ht;rw[if_pos rfl];have:(a.tmps.setIfInBounds t v).getD t undef=v:=by
    rw[Je,Jaa ZT];rfl
   rw[this];exact hv
  ·rw[if_neg ht];have:(a.tmps.setIfInBounds s v).getD t undef=a.tmps.getD t undef:=by
    rw[Je,Jq (Ne.symm ht),←Je]
   rw[this];exact h t
theorem B2 (a:Act)(d:Option Nat)(v:Value):(a.put d v).tmps.size=a.tmps.size∧(a.put d v).defers=a.defers:=by
 cases d <;> simp[Act.put]
theorem GC {n:Nat}{ops:Array Oper}{gd:Option (Nat×Bool)}(hm:mG ops o.guard gd=true)(he:EnvOk w g e a)(ho:gdO e gd):Region.wanted o (yielded ops a.tmps)=gdB e gd:=by
 unfold Region.wanted
 cases hg:o.guard with
 |none=>
  cases gd with
  |none=>rfl
  |some x=>rw[hg]at hm;simp[mG]at hm
 |some jb=>
  obtain⟨j,b⟩:=jb
  cases gd with
  |none=>rw[hg]at hm;simp[mG]at hm
  |some tb=>
   obtain⟨t,b'⟩:=tb;rw[hg]at hm;simp only[mG,Ja,beq_iff_eq]at hm;obtain⟨h1,rfl⟩:=hm;split at h1
   ·rename_i oj hoj
    simp at h1;simp only[yielded,hoj,Option.bind_some,h1];have hv:=he t;simp only[gdO]at ho;simp only[gdB];have bm:∀c,a.tmps.getD t undef=.bool c→a.tmps[t]? = some (.bool c):=by
     intro c hc;rw[Je]at hc
     cases hx:a.tmps[t]? with
     |none=>rw[hx]at hc;simp[undef]at hc
     |some y=>rw[hx]at hc;simp at hc;rw[hc]
    have bO:a.tmps.getD t undef=undef→∀c,a.tmps[t]?≠some (.bool c):=by
     intro hu c hc;rw[Je,hc]at hu;simp[undef]at hu
    split at ho
    ·rename_i c fT
     rw[fT]at hv;have:=bm _ hv.aF.bk;simp only[fT];simp[this]
    ·rename_i q c fT
     rw[fT]at hv;simp only[fT]
     cases hv with
     |gd _ _ _ k1 k2=>
      cases q with
      |true=>
       have:=bm _ (k1 rfl).aF.bk;simp[this]
      |false=>
       have:=bO (k2 rfl);simp only[Bool.false_and]
       cases hx:a.tmps[t]? with
       |none=>simp
       |some y=>cases y <;> simp_all
    ·rename_i q v km fT
     rw[fT]at hv;subst ho;have e0:gdB e (some (t,b))=false:=by
      simp only[gdB,fT]
      cases v with
      |c x=>cases x <;> simp
      |_=>rfl
     refine Eq.trans ?_ e0.symm
     cases hv with
     |gd _ _ _ k1 k2=>
      have:=bO (k2 rfl)
      cases hx:a.tmps[t]? with
      |none=>simp
      |some y=>cases y <;> simp_all
    ·exact ho.elim
   ·simp at h1
theorem Dk {n:Nat}{d d':Option Nat}(h:mDst n d d'=true):d=d'∧∀t,d=some t→t<n:=by
 unfold mDst at h;rw[Ja]at h;refine⟨by simpa using h.1,fun t ht=>?_⟩;subst ht;simpa using h.2
theorem P4 {f:Nat}{xs:List Opd}{r:V}(hm:mE P o (.call f xs)=true)(hs:Sat H g w)(he:EnvOk w g e a)(hp:p=true)(hf:∀x∈xs,x.fine p e)(hc:DB P f (xs.map fun x=>x.v e) r) :
  EOk P H g w a o (fun v H'=>v=r∧H'=H):=
 FQ (op:=.call f xs) hm hs he hp ⟨hf,hc.2 H _ ⟨rfl,rfl⟩⟩
theorem Rx {KP:Value→Heap→Prop}{K:V→Heap→Prop}{x:V}{v:Value}(h:BC KP K x H)(hr:RepV w g x v):K x H:=by
 cases hr <;> exact h
theorem Qbaq {n:Nat}{ops:Array Oper}{i:Nat}{x:Item}{rest:List Item}{KP:Value→Heap→Prop}{K:Env→Heap→Prop}{Q:Exit→Act→World→Prop}{next:Act→World→Prop}(nB:ops[i]? = some o)(hm:Bh P n ops o x=true)
  (hs:Sat H g w) (he:EnvOk w g e a) (hn:a.tmps.size=n) (hd:a.defers=[]) (hr:regT P (x::rest) e H KP K)
  (iF:∀v H' g' w',KP v H'→Stp H g w H' g' w'→Q (.panic [{ v:=v,recovered:=false }]) a w')
  (cf:∀e' H' g' a' w',regT P rest e' H' KP K→Stp H g w H' g' w'→EnvOk w' g' e' a'→a'.tmps.size=n→a'.defers=[]→next a' w') :
  (if Region.wanted o (yielded ops a.tmps)then o.wp P a w next Q∨(o.asks P a w∧LetsOut Q)else next (a.put o.dst undef) w):=by
 cases x with
 |f d gd op=>
  simp only[Bh,Ja]at hm;obtain⟨⟨h1,h2⟩,h3⟩:=hm;obtain⟨hd1,eY⟩:=Dk h1;simp only[regT]at hr;obtain⟨r1,r2,r3⟩:=hr;rw[GC (n:=n) h2 he r1];by_cases hg:gdB e gd=true
  ·rw[if_pos hg];obtain⟨v,w',g',k1,k2,k3,k4⟩:=KD h3 hs he hg (r2 hg);left;unfold Oper.wp;rw[k1,Oper.upon_value,hd1];refine cf _ _ _ _ _ (r3 fun _=>k4) k2 (((he.mono k2.le).put (n:=n) ?_ hn (hd1▸eY))) ZaQ ZaR
   cases gd with
   |none=>exact k3
   |some tb=>exact .gd _ _ _ (fun _=>k3) (fun h=>by rw[hg]at h;simp at h)
  ·rw[if_neg hg];have eP:gdB e gd=false:=Za5
   rw[hd1];refine cf _ _ _ _ _ (r3 fun h=>absurd h hg) (.refl hs) (he.put (n:=n) ?_ hn (hd1▸eY)) ZaQ ZaR
   cases gd with
   |none=>simp[gdB]at eP
   |some tb=>exact .gd _ _ _ (fun h=>absurd h hg) (fun _=>rfl)
 |p d gd f xs=>
  simp only[Bh,Ja]at hm;obtain⟨⟨h1,h2⟩,h3⟩:=hm;obtain⟨hd1,eY⟩:=Dk h1;simp only[regT]at hr;obtain⟨r1,v0,r2,r3⟩:=hr;rw[GC (n:=n) h2 he r1];by_cases hg:gdB e gd=true
  ·rw[if_pos hg];obtain⟨s1,s2⟩:=r2 hg;left;refine P4 h3 hs he hg s1 s2 Q next (fun x v w' H' g' hk aC dz=>?_) fun v w' H' g' hk _=>absurd hk.1.symm (s2.1 v);obtain⟨rfl,rfl⟩:=hk;rw[hd1];refine cf _ _ _ _ _ r3 aC (((he.mono aC.le).put (n:=n) ?_ hn (hd1▸eY))) ZaQ ZaR
   cases gd with
   |none=>exact dz
   |some tb=>exact .gd _ _ _ (fun _=>dz) (fun h=>by rw[hg]at h;simp at h)
  ·rw[if_neg hg];have eP:gdB e gd=false:=Za5
   rw[hd1];refine cf _ _ _ _ _ r3 (.refl hs) (he.put (n:=n) ?_ hn (hd1▸eY)) ZaQ ZaR
   cases gd with
   |none=>simp[gdB]at eP
   |some tb=>exact .gd _ _ _ (fun h=>absurd h hg) (fun _=>rfl)
 |e d gd op=>
  simp only[Bh,Ja]at hm;obtain⟨⟨h1,h2⟩,h3⟩:=hm;obtain⟨hd1,eY⟩:=Dk h1;simp only[regT]at hr;obtain⟨r1,r2,r3⟩:=hr;rw[GC (n:=n) h2 he r1];by_cases hg:gdB e gd=true
  ·rw[if_pos hg];left;refine FQ h3 hs he hg (r2 hg) Q next (fun x v w' H' g' hk aC dz=>?_) fun v w' H' g' hk aC=>iF v H' g' w' hk aC;rw[hd1];exact cf _ _ _ _ _ (Rx hk dz) aC (((he.mono aC.le).put (n:=n) dz hn (hd1▸eY))) ZaQ ZaR
  ·rw[if_neg hg];have eP:gdB e gd=false:=Za5
   rw[hd1];exact cf _ _ _ _ _ (r3 eP) (.refl hs) (he.put (n:=n) (.unk _) hn (hd1▸eY)) ZaQ ZaR
 |chk d gd op=>simp[Bh]at hm
theorem OQ {n:Nat}{ops:Array Oper}{KP:Value→Heap→Prop}{K:Env→Heap→Prop}{Q:Exit→Act→World→Prop}{H0:Heap}{g0:G}{w0:World}(hQ:∀a' w',Post n H0 g0 w0 K a' w'→Q .normal a' w')
  (hP:∀v a' w',Post n H0 g0 w0 (fun _ H'=>KP v H') a' w'→Q (.panic [{ v:=v,recovered:=false }]) a' w') :
  ∀(its:List Item) (i:Nat) (e:Env) (H:Heap) (g:G) (w:World) (a:Act),mIts P n ops i its=true→Stp H0 g0 w0 H g w→EnvOk w g e a→a.tmps.size=n→a.defers=[]→regT P its e H KP K→
   wpOps P ops Q (List.range' i its.length) a w
 |[],i,e,H,g,w,a,_,aC,he,hn,hd,hr=>hQ a w ⟨e,H,g,hr,aC,he,hd,hn⟩
 |x::rest,i,e,H,g,w,a,hm,aC,he,hn,hd,hr=>by
  simp only[mIts,Ja]at hm;obtain⟨h1,h2⟩:=hm;split at h1
  ·rename_i o ho
   simp only[J8,List.range'_succ,wpOps,ho];have:=Qbaq (Q:=Q) (next:=wpOps P ops Q (List.range' (i+1) rest.length)) ho h1 aC.sat he hn hd hr (fun v H' g' w' k1 k2=>hP v a w' ⟨e,H',g',k1,aC.trans k2,he.mono k2.le,hd,hn⟩) fun e' H' g' a' w' k1 k2 k3 k4 k5=>
    OQ hQ hP rest (i+1) e' H' g' w' a' h2 (aC.trans k2) k3 k4 k5 k1
   simpa using this
  ·simp at h1
theorem P9 {n:Nat}{ops:Array Oper}:∀(its:List Item) (i:Nat),mIts P n ops i its=true→i+its.length=ops.size
 |[],i,h=>by simpa[mIts]using h
 |x::r,i,h=>by
  simp only[mIts,Ja]at h;have:=P9 r (i+1) h.2;simp only[J8];omega
end Go.AE
namespace Go.AE
variable {P:Program}
def optL:Option Opd→List Opd
 |none=>[]
 |some x=>[x]
def FOp.opds:FOp→List Opd
 |.mv x=>[x]
 |.pick c a b=>[c,a,b]
 |.bin _ _ a b=>[a,b]
 |.not a=>[a]
 |.fad _ a=>[a]
 |.iad _ a i=>[a,i]
 |.ld _ _ a=>[a]
 |.nck a=>[a]
 |.len a=>[a]
 |.lenx a=>[a]
 |.lens a=>[a]
 |.lensx a=>[a]
 |.lenm a=>[a]
 |.sli _ a lo hi=>a::(optL lo++optL hi)
 |.slis a lo hi=>a::(optL lo++optL hi)
 |.ext a _=>[a]
 |.asl _ a=>[a]
 |.aslp _ a hi=>a::optL hi
 |.ldg _ _ _=>[]
 |.ldo _ _=>[]
 |.aslg _ _ _=>[]
 |.iax _ _ a i=>[a,i]
 |.slm _ a hi=>[a,hi]
 |.b2s a=>[a]
 |.iaa _ _ a i=>[a,i]
 |.fld _ _ _ a=>[a]
 |.idx a i=>[a,i]
 |.bld _ parts=>parts.map fun p=>p.2.2
 |.fH _ parts=>parts
 |.box a=>[a]
 |.cvt _ a=>[a]
 |.mkf _ caps=>caps
 |.lup _ _ m k=>[m,k]
 |.lup2 _ _ m k=>[m,k]
 |.mx a b=>[a,b]
 |.mn a b=>[a,b]
def EOp.opds:EOp→List Opd
 |.alloc _=>[]
 |.boxm a=>[a]
 |.sto _ a v=>[a,v]
 |.app _ a b=>[a,b]
 |.apz _ _ a n=>[a,n]
 |.mks _ _ n=>[n]
 |.mkm=>[]
 |.upd _ m k v=>[m,k,v]
 |.del _ m k=>[m,k]
 |.clrm m=>[m]
 |.clrs _ _ m=>[m]
 |.call _ args=>args
 |.eA f args=>f::args
 |.rng m=>[m]
 |.nxt it=>[it]
 |.rngs m=>[m]
 |.nxts it=>[it]
 |.ent it=>[it]
 |.nilq a=>[a]
 |.bslm _ parts=>parts
 |.cpy _ a b=>[a,b]
def FOp.hfree:FOp→Bool
 |.iad _ _ _=>false
 |.ld _ _ _=>false
 |.len _=>false
 |.lenx _=>false
 |.lenm _=>false
 |.sli _ _ _ _=>false
 |.lup _ _ _ _=>false
 |.asl _ _=>false
 |.ldg _ _ _=>false
 |.ldo _ _=>false
 |.aslg _ _ _=>false
 |.lup2 _ _ _ _=>false
 |_=>true
theorem Opd.aL {e e':Env}{x:Opd}(h:x.raw e'=x.raw e):x.v e'=x.v e:=by
 simp only[Opd.v,h]
theorem Opd.aA {e e':Env}{x:Opd}{p:Bool}(h:x.raw e'=x.raw e):x.fine p e'↔x.fine p e:=by
 simp only[Opd.fine,h]
theorem Ho {e e':Env}{x:Option Opd}{p:Bool}(h:∀y∈optL x,y.raw e'=y.raw e) :
  (x.map fun y=>Q8 (y.v e'))=(x.map fun y=>Q8 (y.v e))∧(optF p x e'↔optF p x e)∧(optI x e'↔optI x e):=by
 cases x with
 |none=>exact⟨rfl,Ja4,Ja4⟩
 |some y=>
  have:=h y (by simp[optL]);simp only[Jr,optF,optI,Opd.aL this,Opd.aA this,and_self]
theorem FOp.congr {op:FOp}{e e':Env}{H:Heap}{p:Bool}(h:∀x∈op.opds,x.raw e'=x.raw e) :
  op.val e' H=op.val e H∧(op.obl p e' H↔op.obl p e H):=by
 cases op <;> simp only[FOp.opds,Jas,Jba,or_false,forall_eq_or_imp,forall_eq,List.mem_append,Ja8,forall_exists_index,and_imp]at h
 case sli sz a lo hi=>
  have h1:=Opd.aL h.1;have h2:=Ho (x:=lo) (p:=p) fun y hy=>h.2 y (.inl hy);have h3:=Ho (x:=hi) (p:=p) fun y hy=>h.2 y (.inr hy);simp only[FOp.val,FOp.obl,h1,h2.1,h3.1,h2.2.1,h3.2.1,h2.2.2,h3.2.2,Opd.aA h.1,and_self]
 case ldg n b l=>exact⟨rfl,Ja4⟩
 case ldo b l=>exact⟨rfl,Ja4⟩
 case aslg n b l=>exact⟨rfl,Ja4⟩
 case aslp n a hi=>
  have h1:=Opd.aL h.1;have h3:=Ho (x:=hi) (p:=p) fun y hy=>h.2 y hy;simp only[FOp.val,FOp.obl,h1,h3.1,h3.2.1,h3.2.2,Opd.aA h.1,and_self]
 case slis a lo hi=>
  have h1:=Opd.aL h.1;have h2:=Ho (x:=lo) (p:=p) fun y hy=>h.2 y (.inl hy);have h3:=Ho (x:=hi) (p:=p) fun y hy=>h.2 y (.inr hy);simp only[FOp.val,FOp.obl,h1,h2.1,h3.1,h2.2.1,h3.2.1,h2.2.2,h3.2.2,Opd.aA h.1,and_self]
 case bld zero parts=>
  have h1:∀x∈parts,x.2.2.raw e'=x.2.2.raw e:=fun x hx=>h _ x hx rfl;refine⟨?_,?_⟩
  ·simp only[FOp.val];have:(parts.map fun p=>(p.1,(p.2.2.v e').cells))=parts.map fun p=>(p.1,(p.2.2.v e).cells):=
    J4 fun x hx=>by rw[Opd.aL (h1 x hx)]
   rw[this]
  ·simp only[FOp.obl];exact forall_congr' fun x=>forall_congr' fun hx=>by rw[Opd.aA (h1 x hx),Opd.aL (h1 x hx)]
 case fH sz parts=>
  refine⟨?_,?_⟩
  ·simp only[FOp.val];have:(parts.map fun x=>(x.v e').cells)=parts.map fun x=>(x.v e).cells:=
    J4 fun x hx=>ZbP
   rw[this]
  ·simp only[FOp.obl];exact forall_congr' fun x=>forall_congr' fun hx=>Zbr
 case mkf f caps=>
  refine⟨?_,?_⟩
  ·simp only[FOp.val];have:(caps.map fun x=>(x.v e').c1)=caps.map fun x=>(x.v e).c1:=
    J4 fun x hx=>ZbP
   rw[this]
  ·simp only[FOp.obl];exact forall_congr' fun x=>forall_congr' fun hx=>Zbr
 case pick c a b=>
  simp only[FOp.val,FOp.obl,Opd.aL h.1,Opd.aL h.2.1,Opd.aL h.2.2,Opd.aA h.1,true_and];constructor <;> rintro⟨k1,k2⟩ <;> refine⟨k1,?_⟩ <;> split at k2 <;> first|exact k2.elim|skip
  ·rw[Opd.aA h.2.1,Opd.aA h.2.2]at k2;exact k2
  ·rw[Opd.aA h.2.1,Opd.aA h.2.2];exact k2
 all_goals first
  |(have h1:=Opd.aL h;simp only[FOp.val,FOp.obl,h1,Opd.aA h,and_self])
  |(have h1:=Opd.aL h.1;have h2:=Opd.aL h.2;simp only[FOp.val,FOp.obl,h1,h2,Opd.aA h.1,Opd.aA h.2,and_self])
theorem FOp.hcongr {op:FOp}{e:Env}{H H':Heap}{p:Bool}(h:op.hfree=true):op.val e H'=op.val e H∧(op.obl p e H'↔op.obl p e H):=by
 cases op <;> first|(simp[FOp.hfree]at h;done)|exact⟨rfl,Ja4⟩
theorem Q9a {e e':Env}{xs:List Opd}(h:∀x∈xs,x.raw e'=x.raw e):(xs.map fun x=>x.v e')=(xs.map fun x=>x.v e):=
 J4 fun x hx=>Opd.aL (h x hx)
theorem Q21 {e e':Env}{xs:List Opd}{p:Bool}(h:∀x∈xs,x.raw e'=x.raw e):(∀x∈xs,x.fine p e')↔(∀x∈xs,x.fine p e):=
 forall_congr' fun x=>forall_congr' fun hx=>Opd.aA (h x hx)
theorem EOp.congr {op:EOp}{e e':Env}{H:Heap}{p:Bool}{K:V→Heap→Prop}(h:∀x∈op.opds,x.raw e'=x.raw e)(he:op.eff P p e H K):op.eff P p e' H K:=by
 cases op
 case call f xs=>
  simp only[EOp.opds]at h;simp only[EOp.eff]at he⊢;rw[Q9a h,Q21 h];exact he
 case eA f xs=>
  simp only[EOp.opds,Jas,forall_eq_or_imp]at h;simp only[EOp.eff]at he⊢;rw[Q9a h.2,Q21 h.2,Opd.aA h.1,Opd.aL h.1];exact he
 case bslm sz parts=>
  simp only[EOp.opds]at h;simp only[EOp.eff]at he⊢;have:(parts.map fun x=>(x.v e').cells)=parts.map fun x=>(x.v e).cells:=
   J4 fun x hx=>ZbP
  rw[this];exact⟨fun x hx=>by rw[Opd.aA (h x hx),Opd.aL (h x hx)];exact he.1 x hx,he.2⟩
 all_goals simp only[EOp.opds,Jas,Jba,or_false,forall_eq_or_imp,forall_eq]at h
 all_goals first
  |exact he
  |(simp only[EOp.eff,Opd.aL h,Opd.aA h]at he⊢;exact he)
  |(simp only[EOp.eff,Opd.aL h.1,Opd.aA h.1,Opd.aL h.2,Opd.aA h.2]at he⊢;exact he)
  |(simp only[EOp.eff,Opd.aL h.1,Opd.aA h.1,Opd.aL h.2.1,Opd.aA h.2.1,Opd.aL h.2.2,Opd.aA h.2.2]at he⊢;exact he)
def Item.dst:Item→Option Nat
 |.f d _ _=>d
 |.p d _ _ _=>d
 |.e d _ _=>d
 |.chk _ _ _=>none
def Item.gd:Item→Option (Nat×Bool)
 |.f _ g _=>g
 |.p _ g _ _=>g
 |.e _ g _=>g
 |.chk _ g _=>g
def Item.opds:Item→List Opd
 |.f _ _ op=>op.opds
 |.p _ _ _ xs=>xs
 |.e _ _ op=>op.opds
 |.chk _ _ op=>op.opds
def Opd.tm:Opd→List Nat
 |.t n=>[n]
 |_=>[]
def Item.looks (x:Item):List Nat:=x.opds.flatMap Opd.tm++(match x.gd with
 |some (t,_)=>[t]
 |none=>[])
theorem Qbhu {e e':Env}{x:Opd}(h:∀t∈x.tm,lk t e'=lk t e):x.raw e'=x.raw e:=by
 cases x with
 |t n=>simpa[Opd.raw,Opd.tm]using h
 |k v=>rfl
theorem K4 {e e':Env}{x:Item}(h:∀t∈x.looks,lk t e'=lk t e):∀y∈x.opds,y.raw e'=y.raw e:=fun y hy=>
 Qbhu fun t ht=>h t (Jal _ (List.mem_flatMap.2 ⟨y,hy,ht⟩))
theorem Qbk6 {e e':Env}{gd:Option (Nat×Bool)}(h:∀t b,gd=some (t,b)→lk t e'=lk t e):gdB e' gd=gdB e gd∧(gdO e' gd↔gdO e gd):=by
 cases gd with
 |none=>exact⟨rfl,Ja4⟩
 |some x=>
  obtain⟨t,b⟩:=x;have:=h t b rfl;simp only[gdB,gdO,this,and_self]
theorem PB {e e':Env}{x:Item}(h:∀t∈x.looks,lk t e'=lk t e):gdB e' x.gd=gdB e x.gd∧(gdO e' x.gd↔gdO e x.gd):=
 Qbk6 fun t b hg=>h t (Jax _ (by rw[hg];simp))
theorem DJ (ks:List Nat)(e:Env)(t:Nat):lk t (trim ks e)=if t∈ks then lk t e else .unk:=by
 unfold trim
 induction ks with
 |nil=>simp[lk]
 |cons k ks ih=>
  simp only[Jbg,lk,ih,Jas];by_cases h:t=k
  ·subst h;simp
  ·simp[h]
end Go.AE
namespace Go.AE
variable {P:Program}{H:Heap}{g:G}{w:World}{e:Env}{a:Act}
def Item.isE:Item→Bool
 |.e _ _ _=>true
 |_=>false
def Item.aH:Item→Bool
 |.chk _ _ _=>true
 |_=>false
def Item.isFl:Item→Bool
 |.f _ _ _=>true
 |.p _ _ _ _=>true
 |_=>false
def Item.hf:Item→Bool
 |.f _ _ op=>op.hfree
 |_=>true
def Item.isFa:Item→Bool
 |.e (some _) none (.alloc _)=>true
 |_=>false
abbrev Row:=Nat×Item
def Hf (ms:List Nat)(o:Oper):Nat→List Edge→Nat
 |s,[]=>s
 |s,ed::r=>Hf ms o (if Region.binds .any ed then s ||| (2 ^ ed.on ||| ms.getD ed.on 0)else s) r
def dIn (d:Option Nat)(l:List Nat):Bool:=
 match d with
 |some t=>l.contains t
 |none=>false
def flo (fa i:Nat):Bool:=i == fa || (decide (100000≤fa)&&(fa-100000).testBit i)
def Er (ms:List Nat)(fa:Nat)(x y:Row):Bool:=
 x.1 != y.1&&!((ms.getD x.1 0).testBit y.1)&&(match x.2.dst with
  |some t=>y.2.dst != some t
  |none=>true)
 &&(!(dIn y.2.dst x.2.looks) || (ms.getD y.1 0).testBit x.1)
 &&(!(dIn x.2.dst y.2.looks) || (ms.getD y.1 0).testBit x.1)
 &&(!x.2.isE || flo fa y.1 || (ms.getD y.1 0).testBit x.1)
def Bv (j:Nat):List Row→Bool
 |[]=>false
 |y::r=>y.2.aH&&(y.1 == j || Bv j r)
def Cv (P:Program)(n:Nat)(ops:Array Oper)(ms:List Nat)(fa:Nat)(pre:List Row)(y:Row)(rest:List Row):Bool:=
 match ops[y.1]? with
 |none=>false
 |some o=>match y.2 with
  |.chk d gd op=>Bh P n ops o (.f (some d) gd op)&&pre.any (fun z=>!z.2.aH&&z.1 == y.1&&z.2.looks == y.2.looks&&z.2.dst == some d&&!z.2.hf)
    &&pre.all (fun z=>z.2.aH || !(dIn z.2.dst y.2.looks) || (ms.getD y.1 0).testBit z.1)
  |_=>Bh P n ops o y.2&&o.after.toList.all (fun ed=>!Region.binds .any ed || pre.any fun z=>!z.2.aH&&z.1 == ed.on)
    &&ms.getD y.1 0 == Hf ms o 0 o.after.toList&&!(dIn y.2.dst y.2.looks)
    &&pre.all (fun z=>z.2.aH || Er ms fa z y)&&(!flo fa y.1 || y.2.isFa)
    &&(!y.2.isE || pre.all (fun z=>z.2.aH || z.2.hf || (ms.getD y.1 0).testBit z.1 || Bv z.1 rest))
def CP (P:Program)(n:Nat)(ops:Array Oper)(ms:List Nat)(fa:Nat):List Row→List Row→Bool
 |_,[]=>true
 |pre,y::r=>Cv P n ops ms fa pre y r&&CP P n ops ms fa (pre++[y]) r
def EU:List Oper→List Nat→List Nat
 |[],ms=>ms
 |o::r,ms=>EU r (ms++[Hf ms o 0 o.after.toList])
def EW (P:Program)(n:Nat)(ops:Array Oper)(fa:Nat)(ord:List Nat)(its:List Item):Bool:=
 ord.length == its.length&&Region.noSelect ops&&CP P n ops (EU ops.toList []) fa [] (ord.zip its)
  &&(List.range ops.size).all fun i=>(ord.zip its).any fun y=>!y.2.aH&&y.1 == i
theorem Q3j {n:Nat}{ops:Array Oper}{ms:List Nat}{fa:Nat}:∀(L pre:List Row),CP P n ops ms fa pre L=true→
  ∀A y B,L=A++y::B→Cv P n ops ms fa (pre++A) y B=true
 |[],_,_,A,y,B,h=>Zaa
 |x::r,pre,hm,A,y,B,h=>by
  simp only[CP,Ja]at hm
  cases A with
  |nil=>
   simp at h;obtain⟨rfl,rfl⟩:=h;simpa using hm.1
  |cons a A=>
   simp at h;obtain⟨rfl,rfl⟩:=h;have:=Q3j _ _ hm.2 A y B rfl;simpa[J3]using this
theorem Pf {ms:List Nat}{o:Oper}{j:Nat}:∀(l:List Edge) (s:Nat),(Hf ms o s l).testBit j=true→
  s.testBit j=true∨∃ed∈l,Region.binds .any ed=true∧(ed.on=j∨(ms.getD ed.on 0).testBit j=true)
 |[],s,h=>.inl h
 |ed::r,s,h=>by
  simp only[Hf]at h;rcases Pf r _ h with h1|⟨x,hx,h1⟩
  ·by_cases hb:Region.binds .any ed=true
   ·rw[if_pos hb]at h1;simp only[Nat.testBit_or,Jag]at h1;rcases h1 with h1|h1|h1
    ·exact .inl h1
    ·rw[Nat.testBit_two_pow]at h1;exact .inr ⟨ed,ZV,hb,.inl Za4⟩
    ·exact .inr ⟨ed,ZV,hb,.inr h1⟩
   ·rw[if_neg hb]at h1;exact .inl h1
  ·exact .inr ⟨x,Zbw,h1⟩
theorem dIn_iff {d:Option Nat}{l:List Nat}:dIn d l=true↔∃t,d=some t∧t∈l:=by
 cases d <;> simp[dIn]
structure PairOk (ms:List Nat)(fa:Nat)(x y:Row):Prop where
 ne:x.1≠y.1
 top:(ms.getD x.1 0).testBit y.1=false
 dst:∀t,x.2.dst=some t→y.2.dst≠some t
 war:∀t,y.2.dst=some t→t∈x.2.looks→(ms.getD y.1 0).testBit x.1=true
 raw:∀t,x.2.dst=some t→t∈y.2.looks→(ms.getD y.1 0).testBit x.1=true
 ord:x.2.isE=true→¬flo fa y.1=true→(ms.getD y.1 0).testBit x.1=true
theorem Qa2x {ms:List Nat}{fa:Nat}{x y:Row}(h:Er ms fa x y=true):PairOk ms fa x y:=by
 simp only[Er,Ja,bne_iff_ne,Jag,Jap,beq_iff_eq]at h;obtain⟨⟨⟨⟨⟨h1,h2⟩,h3⟩,h4⟩,h5⟩,h6⟩:=h;refine⟨h1,h2,?_,?_,?_,?_⟩
 ·intro t ht;rw[ht]at h3;simpa using h3
 ·intro t ht hm;rcases h4 with h4|h4
  ·have:=dIn_iff.2 ⟨t,ht,hm⟩;rw[this]at h4;simp at h4
  ·exact h4
 ·intro t ht hm;rcases h5 with h5|h5
  ·have:=dIn_iff.2 ⟨t,ht,hm⟩;rw[this]at h5;simp at h5
  ·exact h5
 ·intro hx hy;rcases h6 with (h6|h6)|h6
  ·rw[hx]at h6;simp at h6
  ·exact absurd h6 hy
  ·exact h6
structure RowOk (P:Program)(n:Nat)(ops:Array Oper)(ms:List Nat)(fa:Nat)(pre:List Row)(y:Row)(rest:List Row)(o:Oper):Prop where
 op:ops[y.1]? = some o
 item:Bh P n ops o y.2=true
 aft:∀ed∈o.after,Region.binds .any ed=true→∃z∈pre,z.2.aH=false∧z.1=ed.on
 anc:∀j,(ms.getD y.1 0).testBit j=true→∃ed∈o.after,Region.binds .any ed=true∧(ed.on=j∨(ms.getD ed.on 0).testBit j=true)
 self:∀t,y.2.dst=some t→t∉y.2.looks
 pair:∀z∈pre,z.2.aH=false→PairOk ms fa z y
 isFa:flo fa y.1=true→y.2.isFa=true
 cover:y.2.isE=true→∀z∈pre,z.2.aH=false→z.2.hf=false→(ms.getD y.1 0).testBit z.1=false→Bv z.1 rest=true
theorem Qba7 {n:Nat}{ops:Array Oper}{ms:List Nat}{fa:Nat}{pre:List Row}{y:Row}{rest:List Row}(h:Cv P n ops ms fa pre y rest=true)(hc:y.2.aH=false) :
  ∃o,RowOk P n ops ms fa pre y rest o:=by
 obtain⟨i,x⟩:=y;unfold Cv at h
 cases ho:ops[i]? with
 |none=>simp[ho]at h
 |some o=>
  simp only[ho]at h;have key:(Bh P n ops o x&&o.after.toList.all (fun ed=>!Region.binds .any ed || pre.any fun z=>!z.2.aH&&z.1 == ed.on)
    &&ms.getD i 0 == Hf ms o 0 o.after.toList&&!(dIn x.dst x.looks)
    &&pre.all (fun z=>z.2.aH || Er ms fa z (i,x))&&(!flo fa i || x.isFa)
    &&(!x.isE || pre.all (fun z=>z.2.aH || z.2.hf || (ms.getD i 0).testBit z.1 || Bv z.1 rest)))=true:=by
   cases x with
   |chk=>simp[Item.aH]at hc
   |f=>exact h
   |p=>exact h
   |e=>exact h
  simp only[Ja,J5,Jag,Jap,beq_iff_eq,bne_iff_ne,Ja9]at key;obtain⟨⟨⟨⟨⟨⟨h1,h2⟩,h3⟩,h4⟩,h5⟩,h6⟩,h7⟩:=key;refine⟨o,ho,h1,?_,?_,?_,?_,?_,?_⟩
  ·intro ed pr hb;rcases h2 ed (by simpa using pr)with h|⟨z,hz,h⟩
   ·rw[hb]at h;simp at h
   ·exact⟨z,hz,h.1,h.2⟩
  ·intro j hj;simp only at hj;rw[h3]at hj;rcases Pf _ _ hj with h|⟨ed,pr,h⟩
   ·simp at h
   ·exact⟨ed,by simpa using pr,h⟩
  ·intro t ht hm;have:=dIn_iff.2 ⟨t,ht,hm⟩;simp only at this;rw[this]at h4;simp at h4
  ·intro z hz cA;rcases h5 z hz with h|h
   ·rw[cA]at h;simp at h
   ·exact Qa2x h
  ·intro hf;rcases h6 with h|h
   ·exact absurd hf (by rw[h];decide)
   ·exact h
  ·intro hE z hz cA hzh sD;rcases h7 with h|h
   ·simp only at hE;rw[hE]at h;simp at h
   ·rcases h z hz with ((h|h)|h)|h
    ·rw[cA]at h;simp at h
    ·rw[hzh]at h;simp at h
    ·simp only at sD;rw[sD]at h;simp at h
    ·exact h
theorem Qa97 {n:Nat}{ops:Array Oper}{ms:List Nat}{fa:Nat}{pre:List Row}{i d:Nat}{gd:Option (Nat×Bool)}{op:FOp}{rest:List Row}(h:Cv P n ops ms fa pre (i,.chk d gd op) rest=true) :
  ∃o,ops[i]? = some o∧Bh P n ops o (.f (some d) gd op)=true∧(∃z∈pre,z.2.aH=false∧z.1=i∧z.2.looks=(Item.f (some d) gd op).looks∧z.2.dst=some d∧z.2.hf=false)∧
   ∀z∈pre,z.2.aH=false→∀t,z.2.dst=some t→t∈(Item.f (some d) gd op).looks→(ms.getD i 0).testBit z.1=true:=by
 unfold Cv at h
 cases ho:ops[i]? with
 |none=>simp[ho]at h
 |some o=>
  simp only[ho,Ja,Ja9,J5,Jag,Jap,beq_iff_eq]at h;obtain⟨⟨h1,z,hz,⟨⟨⟨h2,h3⟩,h4⟩,h5⟩,h6⟩,h7⟩:=h;refine⟨o,rfl,h1,⟨z,hz,h2,h3,h4,h5,h6⟩,?_⟩;intro z hz cA t ht hm;rcases h7 z hz with (h|h)|h
  ·rw[cA]at h;simp at h
  ·have:=dIn_iff.2 ⟨t,ht,hm⟩;change dIn z.2.dst (Item.chk d gd op).looks=true at this;rw[this]at h;simp at h
  ·exact h
end Go.AE
