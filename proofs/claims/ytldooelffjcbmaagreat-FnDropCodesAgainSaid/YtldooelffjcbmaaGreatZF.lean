/- Part 6 of the proof: the engine, codes, walks and plain laws, each named where it stands. -/
import Derived.Test.YtldooelffjcbmaaGreatZE
import Derived.Below
import Derived.OpenShut
import Derived.ProofKit
open Nat (reduceEqDiff reduceAdd reduceLeDiff reduceLT)
set_option linter.unusedVariables false
set_option linter.unusedSimpArgs false
set_option maxRecDepth 4000
open Bool renaming and_eq_true->J0
open Int renaming toNat_natCast->J3,le_refl->Ja8
open List renaming mem_singleton->Ja,take_succ_eq_append_getElem->Jb,length_map->Jc,getElem_mem->Jd,take_of_length_le->Je,getD_eq_getElem?_getD->Jf,length_append->Jg,length_nil->Jh,perm_append_comm->Ji,getElem?_eq_getElem->Jj,mem_iff_getElem->Jk,length_cons->Jl,append_nil->Jm,mem_append_right->Jn,map_append->Jo,forall_mem_cons->Jp,drop_eq_getElem_cons->Js,pairwise_iff_getElem->Jt,length_take->Ju,not_mem_nil->Jv,getD_cons_succ->Jw,getD_cons_zero->Jx,map_congr_left->Jy,mem_append->Jz,mem_append_left->J1,mem_range->J2,append_assoc->J4,flatMap_nil->J5,pairwise_lt_range->J6,getElem?_eq_none->J7,length_singleton->J8,mem_map->J9,flatMap_cons->Jaa,mem_cons_of_mem->Jab,getElem_map->Jac,flatMap_append->Jae,map_map->Jaf,mem_cons_self->Jag,mem_filter->Jah,length_replicate->Jai,map_nil->Jaj,mem_flatMap->Jak,map_cons->Jal,ext_getElem->Jam,take_length->Jan,drop_of_length_le->Jao,set_append_right->Jap,getElem_range->Jav,set_cons_zero->Jaw,getElem_drop->Jay,length_range->Jaz,all_eq_true->Ja0,length_drop->Ja1,range_succ->Ja2,drop_zero->Ja3,sum_cons->Ja4,map_set->Ja5
open List.Pairwise renaming filter->Jat
open Nat renaming le_refl->Jq,zero_add->Jr,add_zero->Jaq,sub_self->Jar,mul_le_mul_right->Jau,eq_zero_or_pos->Jax,lt_or_ge->Ja6,succ_mul->Ja7
open Option renaming getD_some->Jad,map_some->Jas
open Option.some renaming injEq->Ja9
namespace Go.AE.Y
attribute [local go_sem] cond_true cond_false Bool.not_true Bool.not_false
attribute [local instance] Classical.propDecidable
open Go.Proofs.Tryz
variable {H H0:Heap}{K:V→Heap→Prop}{E B Lg:List (Nat×Obj)}{q:CodeD}
theorem Qbnw {S:Nat→Bool}(q:CodeD):FrzV H S (.ag q.cells) (.ag q.cells):=FrzL.ag (.cons (.same _ rfl) (.cons (.same _ rfl) (.cons (.same _ rfl) .nil)))
structure CodeD.sgl (q:CodeD):Prop where
 ok:q.ok
 p0:0≤q.params
 pr:q.params≤q.regs
 h9:∀y∈q.blocks,y.ins.length≤900∧y.phis.length≤900
theorem Qbre {cs:List CodeD}(h:Qa3 cs=true){c:CodeD}(hc:c∈cs):c.sgl:=by
 obtain⟨k,hk,rfl⟩:=Jk.1 hc;have ho:=Qvw h hk;obtain⟨_,h2,h3⟩:=of_decide_eq_true h;obtain⟨g1,g2⟩:=h2 k hk;simp only[Qsj,J0,decide_eq_true_eq]at g1;refine⟨ho,by omega,by omega,fun y hy=>?_⟩;have a1:=Qad8 (f:=Qvx) (Jd hk);have a2:=Qad8 (f:=Qvy) hy;simp only[Qvx,Qvy]at *;omega
set_option maxHeartbeats 2000000 in
theorem Qbi4 (hq:q.sgl)(hK:∀(d:CodeD) H',d.fits→Upd H H' []→K (.ag d.cells) H') :
  Qu prog Q45 [.ag [.int .i64 q.params,.int .i64 q.regs,.sl false 5 (Qm q.blocks)],.c (.str [115,105,110,103,108,101])] H K:=by
 refine Qt ?_;refine Qb Qam Qbju ?_;refine Qa ?_;simp only[go_sem];intro x4 hx4 H1 h1;have kn:=(Kn.start0 H).al hx4 h1;refine Q5 ?_;refine Qa ?_;simp only[go_sem];refine Qh (Qc ?_);refine Qa ?_;simp only[go_sem];refine Qd rfl (fun hc=>absurd hc (by decide)) (fun _=>?_);refine Qa ?_;simp only[go_sem];refine Qd rfl (fun hc=>absurd hc (by decide)) (fun _=>?_);refine Qa ?_;simp only[go_sem];refine Qd rfl (fun hc=>absurd hc (by decide)) (fun _=>?_);refine Qa ?_;simp only[go_sem];refine Qd rfl (fun hc=>absurd hc (by decide)) (fun _=>?_);refine Qa ?_;simp only[go_sem];refine Qd rfl (fun _=>?_) (fun hc=>absurd hc (by decide));refine Qa ?_;simp only[go_sem];refine Qa48 hq.ok hq.p0 hq.pr hq.h9 fun d H2 hd hu=>?_;have kn:=kn.call0 hu;have hx4:=kn.l 0 rfl;simp only[go_sem,Q8w,CodeD.cells,hx4];intro H3 h3;have kn:=kn.stL 0 rfl h3;have hx4:=kn.l 0 rfl;refine Qk ?_;simp only[go_sem,X.next,Q7,Qad,Qaxc,Ja,forall_eq,RS.op,hx4];exact⟨_,Qbnw d,hK d _ hd kn.fin⟩
set_option maxHeartbeats 4000000 in
theorem Qbi2 {cs:List CodeD}{fl:Bool}(hfit:∀c∈cs,c.fits)(hK:∀(ds:List CodeD) (b:Bool) H',(b=true→UnitOk ds)→Upd H H' []→K (.tup [.ag [.sl false 3 (Ql ds)],.c (.bool b)]) H') :
  Qu prog Q43 [.ag [.sl fl 3 (Ql cs)],.c (.str [115,105,110,103,108,101])] H K:=by
 refine Qt ?_;refine Qb Qam Qbjr ?_;refine Qa ?_;simp only[go_sem];intro x4 hx4 H1 h1;have kn:=(Kn.start0 H).al hx4 h1;simp only[go_sem,Q8j];refine Q5 ?_;refine Qa ?_;simp only[go_sem];refine Qec hfit fun H2 hu=>?_;have kn:=kn.call0 hu;simp only[go_sem,Q8k];refine Qh (Qd rfl ?_ ?_)
 ·intro _;have hx4:=kn.l 0 rfl;refine Qa ?_;simp only[go_sem,hx4];intro H3 h3;have kn:=kn.stL 0 rfl h3;have hx4:=kn.l 0 rfl;simp only[go_sem,Q8l];refine Qk ?_;simp only[go_sem,X.next,Q7,Qad,Q1z,Jp,Jv,RS.op,hx4];refine⟨fun _=>trivial,_,Qsi (FrzL.ag (.cons (FrzR.nil.sl) .nil)) (.c _ _ (Qf rfl)),hK [] false _ (fun h=>by simp at h) kn.fin⟩
 ·intro hc;have hG:Qa3 cs=true:=Qfg hc;refine Qi ?_;try simp only[go_sem]
  refine Qa ?_;simp only[go_sem];intro x6 hx6 H3 h3;have kn:=kn.al hx6 h3;have hx6:=kn.l 1 rfl;simp only[go_sem,Q8m,hx6];intro H4 h4;have kn:Kn H H4 [] [(x4,.st [.sl true 3 []]),(x6,.st [.sl true 3 []])]:=kn.stL 1 rfl h4;refine Q5 ?_;refine Qa ?_;simp only[go_sem];have hcl:=(Qavt hfit hG).1;refine Qh (Qc (Qv (fun m e1 H1=>∃(ds:List CodeD) (t:C) (Lg:List (Nat×Obj)),m=cs.length-ds.length∧ds.length≤cs.length∧(∀d∈ds,d.fits)∧Gr Lg 3 (Ql ds) t∧Kn H H1 [] ([(x4,.st [.sl true 3 []]),(x6,.st [t])]++Lg)∧
   lk 1 e1=.c (.str [115,105,110,103,108,101])∧lk 2 e1=.c (.pp [.sl fl 3 (Ql cs)])∧lk 4 e1=.c (.ptr x4 0)∧lk 6 e1=.c (.ptr x6 0)∧lk 7 e1=.c (.int .i64 ds.length)) cs.length ?_ ?_))
  ·exact⟨[],_,[],by simp,by simp,by simp,.nil 3,by simpa using kn,rfl,rfl,rfl,rfl,rfl⟩
  ·clear kn hx6;rintro m e1 H5 ⟨ds,t,Lg,hm,hdl,hds,hgr,kn,l1,l2,l4,l6,l7⟩;have htw:=hgr.isOw;refine Q5 ?_;refine Qa ?_;simp only[go_sem,l1,l2,l4,l6,l7,Qx];try intro _
   refine Qh (Qd rfl ?_ ?_)
   ·intro hc2;have hlt:ds.length<cs.length:=(by simpa using hc2);have hx6:=kn.l 1 rfl;obtain⟨q,hq⟩:∃q,cs[ds.length]=q:=⟨_,rfl⟩;have hqs:q.sgl:=Qbre hG (by rw[←hq];exact Jd hlt);refine Qi ?_;try simp only[go_sem]
    refine Qh (Qc ?_);refine Qbh ?_;simp only[go_sem,l1,l2,l4,l6,l7,hx6,htw,hlt,Qx,Qaf _ _ hlt,CodeD.cells,hq];refine Qbi4 hqs fun d H6 hd hu=>?_;have kn:=kn.call0 hu;have hx6:=kn.l 1 rfl;simp only[go_sem,Q8o,CodeD.cells,hx6,htw];refine kn.growR (new:=Ql [d]) hgr (.mk' _ _ _ _) (Qbr _) (by simp only[Qx,LIM,Jl,Jh];omega) fun t2 Lg2 H7 hgr2 ht2 kn=>?_;have hx6:=kn.l 1 rfl;simp only[go_sem,Q8n,hx6,ht2];intro H8 h8;have kn:=kn.stL 1 rfl h8;refine Qq ?_;simp only[go_sem,l1,l2,l4,l6,l7];refine⟨Qp (by omega) (by omega),?_⟩;show ∃m,_;refine⟨cs.length-(ds.length+1),by omega,ds++[d],t2,Lg2,by simp,by simp only[Jg,Jl,Jh];omega,fun w hw=>?_,?_,kn,rfl,rfl,rfl,rfl,by simp[lk]⟩
    ·rcases Jz.1 hw with hw|hw
     ·exact hds w hw
     ·simp only[Ja]at hw;rw[hw];exact hd
    ·have:Ql (ds++[d])=Ql ds++Ql [d]:=(by simp[Ql]);rw[this];exact hgr2
   ·intro _;refine Qs ?_;simp only[go_sem,X.next];have hx6:=kn.l 1 rfl;obtain⟨S,hSL,hSB,hfz,kn⟩:=kn.freeze0;have hx6b:=hSB (x6,.st [t]) (by simp);have hft:FrzC H5 S t (.sl false 3 (Ql ds)):=Gr.frzM hgr hSL (FrzR.same (Qbr _));have kn:=kn.setL (o':=.st [.sl false 3 (Ql ds)]) 1 rfl (by simp);refine c_gh (Qh1 S (Qa4z ?_) (hfz.set (o:=.st [.sl false 3 (Ql ds)]) hx6b.2 (by rw[hx6b.1];exact FrzKL.st (.cons htw hft .nil)))) (e':=[(4,.c (.ptr x4 0)),(6,.c (.ptr x6 0))]) ?_
    ·simp only[Jp];exact⟨.c _ _ (.same _ rfl),.c _ _ (.same _ rfl),by simp⟩
    generalize (H5.frz S).set x6 (Obj.st [C.sl false 3 (Ql ds)])=H6 at *;have hx6:=kn.l 1 rfl;have hx4:=kn.l 0 rfl;clear hfz hx6b hft hSL hSB;refine Q5 ?_;refine Qa ?_;simp only[go_sem,hx6];refine Qec hds fun H7 hu=>?_;have kn:=kn.call0 hu;have hx6:=kn.l 1 rfl;have hx4:=kn.l 0 rfl;simp only[go_sem,Q2y];refine Qh (Qd rfl ?_ ?_)
    ·intro _;refine Qa ?_;simp only[go_sem,hx4];intro H8 h8;have kn:=kn.stL 0 rfl h8;have hx4:=kn.l 0 rfl;simp only[go_sem,Q2z];refine Qk ?_;simp only[go_sem,X.next,Q7,Qad,Q1z,Jp,Jv,RS.op,hx4];refine⟨fun _=>trivial,_,Qsi (FrzL.ag (.cons (FrzR.nil.sl) .nil)) (.c _ _ (Qf rfl)),hK [] false _ (fun h=>by simp at h) kn.fin⟩
    ·intro hc3;have hG2:Qa3 ds=true:=Qfg hc3;refine Qi ?_;try simp only[go_sem]
     refine Qa ?_;simp only[go_sem,hx6,hx4];intro H8 h8;have kn:=kn.stL 0 rfl h8;have hx4:=kn.l 0 rfl;simp only[go_sem,Q20];refine Qk ?_;simp only[go_sem,X.next,Q7,Qad,Q1z,Jp,Jv,RS.op,hx4];obtain⟨u1,u2,u3⟩:=Qavt hds hG2;refine⟨fun _=>trivial,_,Qsi (Qfe ds) (.c _ _ (Qf rfl)),hK ds true _ (fun _=>⟨u2,u1,u3⟩) kn.fin⟩
theorem Qavx {cs:List CodeD}{fl:Bool}(hfit:∀c∈cs,c.fits)(hK:∀(ds:List CodeD) (b:Bool) H',(b=true→UnitOk ds)→Upd H H' []→K (.tup [.ag [.sl false 3 (Ql ds)],.c (.bool b)]) H') :
  Qu prog Qgx [.ag [.sl fl 3 (Ql cs)]] H K:=by
 refine Qt ?_;refine Qb Qam Qafn ?_;refine Qa ?_;simp only[go_sem];intro x2 hx2 H1 h1;have kn:=(Kn.start0 H).al hx2 h1;simp only[go_sem,Qkk];refine Qa ?_;simp only[go_sem];refine Qbi2 hfit fun ds b H2 hb hu=>?_;have kn:=kn.call0 hu;have hx2:=kn.l 0 rfl;simp only[go_sem,Qkm,Jx,Jw,hx2];intro H3 h3;have kn:=kn.stL 0 rfl h3;have hx2:=kn.l 0 rfl;simp only[go_sem,Qkl];refine Qk ?_;simp only[go_sem,Q7,Qad,Qsx,Jp,Jv,RS.op,hx2];exact⟨fun _=>trivial,_,Qsi (Qfe ds) (.c _ _ (Qf rfl)),hK ds b _ hb kn.fin⟩
def oneU:List CodeD:=[⟨0,1,[⟨[],[⟨1,0,[],0⟩],3,0,[]⟩]⟩]
theorem Qbtv:UnitOk oneU:=by
 refine⟨by simp[oneU],by simp[oneU],fun c hc=>?_⟩;simp only[oneU,Ja]at hc;subst hc;refine⟨by simp,by simp,fun y hy=>?_,fun y hy=>?_⟩
 ·simp only[Ja]at hy;subst hy;simp
 ·simp only[Ja]at hy;subst hy;simp
theorem Qbpy {S:Nat→Bool}:FrzC H S (.sl true 3 [[.int .i64 0,.int .i64 1,.sl true 5 [[.sl true 2 [],.sl true 4 [[.int .i64 1,.int .i64 0,.sl true 1 [],.int .i64 0]],.int .i64 3,.int .i64 0,.sl true 1 []]]]]) (.sl false 3 (Ql oneU)):=
 FrzR.sl (.cons (.cons (Qf rfl) (.cons (Qf rfl) (.cons (FrzR.sl (.cons (.cons FrzR.nil.sl (.cons (FrzR.sl (.cons (.cons (Qf rfl) (.cons (Qf rfl) (.cons FrzR.nil.sl (.cons (Qf rfl) .nil)))) .nil)) (.cons (Qf rfl) (.cons (Qf rfl) (.cons FrzR.nil.sl .nil))))) .nil)) .nil))) .nil)
theorem Qbi9 {R:Rdr}{k:Nat}(hH:H R.l=R.o k)(hk:k+7100000≤2^30)
  (hK:∀(cs:List CodeD) (H':Heap) (k':Nat),k<k'→k'≤k+7050000→Upd H H' [(R.l,R.o k')]→UnitOk cs→K (.ag [.sl false 3 (Ql cs)]) H') :
  Qu prog Q5a [.c (.ptr R.l 0)] H K:=by
 refine Qt ?_;refine Qb Qam Qbj2 ?_;refine Qa ?_;simp only[go_sem];intro x2 hx2 H1 h1;have kn:=(Kn.start1 hH (R.o_ne k)).al hx2 h1;refine Qa ?_;simp only[go_sem];refine Qawi (kn.e 0 rfl) (by omega) fun cs H3 k2 hk3 hk4 hu hok=>?_;have kn:=kn.callE 0 rfl hu (R.o_ne _);simp only[go_sem,Q9n];refine Qavx hok.fits fun ds b H4 hb hu=>?_;have kn:=kn.call0 hu;simp only[go_sem,Q9m,Jx,Jw];intro x3 hx3 H5 h5;have kn:=kn.al hx3 h5;have hx3:=kn.l 1 rfl;simp only[go_sem,Q9l,hx3];intro H6 h6;have kn:=kn.stL 1 rfl h6;have hx2:=kn.l 0 rfl;have hx3:=kn.l 1 rfl;simp only[go_sem,Q9k];refine Q5 ?_;refine Qa ?_;simp only[go_sem];refine Qh (Qd rfl ?_ ?_)
 ·intro _;refine Qa ?_;simp only[go_sem,hx2];intro H7 h7;have kn:=kn.stL 0 rfl h7;have hx2:=kn.l 0 rfl;refine Qk ?_;simp only[go_sem,X.next,Q7,Qad,Qaf8,Ja,forall_eq,RS.op,hx2];exact⟨_,FrzL.ag (.cons Qbpy .nil),hK oneU _ k2 hk3 hk4 kn.fin Qbtv⟩
 ·intro hc;have hbt:b=true:=Qfg hc;refine Qi ?_;try simp only[go_sem]
  refine Qa ?_;simp only[go_sem,hx2,hx3];intro H7 h7;have kn:=kn.stL 0 rfl h7;have hx2:=kn.l 0 rfl;refine Qk ?_;simp only[go_sem,Q7,Qad,Qaf8,Ja,forall_eq,RS.op,hx2];exact⟨_,Qfe ds,hK ds _ k2 hk3 hk4 kn.fin (hb hbt)⟩
theorem Qbi8 {R:Rdr}{k:Nat}(hH:H R.l=R.o k)(hk:k+7300000≤2^30)
  (hK:∀(cs:List CodeD) (H':Heap) (k':Nat),k<k'→k'≤k+7150000→Upd H H' [(R.l,R.o k')]→UnitOk cs→K (.ag [.sl false 3 (Ql cs)]) H') :
  Qu prog Q49 [.c (.ptr R.l 0)] H K:=by
 refine Qt ?_;refine Qb Qam Qbj1 ?_;refine Qa ?_;simp only[go_sem];intro x2 hx2 H1 h1;have kn:=(Kn.start1 hH (R.o_ne k)).al hx2 h1;refine Q5 ?_;refine Qa ?_;simp only[go_sem];refine Qbd (kn.e 0 rfl) (by omega) fun v H2 hv hu=>?_;have kn:=kn.callE 0 rfl hu (R.o_ne _);simp only[go_sem,Q9h];refine Qh (Qd rfl ?_ ?_)
 ·intro hc;refine Qa ?_;simp only[go_sem];refine Qafd (kn.e 0 rfl) (by omega) fun cs H3 k2 hk3 hk4 hu hok=>?_;have kn:=kn.callE 0 rfl hu (R.o_ne _);have hx2:=kn.l 0 rfl;simp only[go_sem,Q9i,hx2];intro H4 h4;have kn:=kn.stL 0 rfl h4;have hx2:=kn.l 0 rfl;refine Qk ?_;simp only[go_sem,X.next,Q7,Qad,Qaf7,Ja,forall_eq,RS.op,hx2];exact⟨_,Qfe cs,hK cs _ k2 (by omega) (by omega) kn.fin hok⟩
 ·intro hc;refine Qi ?_;try simp only[go_sem]
  refine Qa ?_;simp only[go_sem];refine Qbi9 (kn.e 0 rfl) (by omega) fun cs H3 k2 hk3 hk4 hu hok=>?_;have kn:=kn.callE 0 rfl hu (R.o_ne _);have hx2:=kn.l 0 rfl;simp only[go_sem,Q9j,hx2];intro H4 h4;have kn:=kn.stL 0 rfl h4;have hx2:=kn.l 0 rfl;refine Qk ?_;simp only[go_sem,Q7,Qad,Qaf7,Ja,forall_eq,RS.op,hx2];exact⟨_,Qfe cs,hK cs _ k2 (by omega) (by omega) kn.fin hok⟩
theorem Qa49 {R:Rdr}{k:Nat}(hH:H R.l=R.o k)(hk:k+7400000≤2^30)
  (hK:∀(cs:List CodeD) (H':Heap) (k':Nat),k<k'→k'≤k+7200000→Upd H H' [(R.l,R.o k')]→UnitOk cs→K (.ag [.sl false 3 (Ql cs)]) H') :
  Qu prog Qsa [.c (.ptr R.l 0)] H K:=by
 refine Qt ?_;refine Qb Qam Qa5i ?_;refine Qa ?_;simp only[go_sem];intro x2 hx2 H1 h1;have kn:=(Kn.start1 hH (R.o_ne k)).al hx2 h1;refine Q5 ?_;refine Qa ?_;simp only[go_sem];refine Qbd (kn.e 0 rfl) (by omega) fun v H2 hv hu=>?_;have kn:=kn.callE 0 rfl hu (R.o_ne _);simp only[go_sem,Qym];refine Qh (Qd rfl ?_ ?_)
 ·intro hc;refine Qa ?_;simp only[go_sem];refine Qbi8 (kn.e 0 rfl) (by omega) fun cs H3 k2 hk3 hk4 hu hok=>?_;have kn:=kn.callE 0 rfl hu (R.o_ne _);have hx2:=kn.l 0 rfl;simp only[go_sem,Qyn,hx2];intro H4 h4;have kn:=kn.stL 0 rfl h4;have hx2:=kn.l 0 rfl;refine Qk ?_;simp only[go_sem,X.next,Q7,Qad,Qzj,Ja,forall_eq,RS.op,hx2];exact⟨_,Qfe cs,hK cs _ k2 (by omega) (by omega) kn.fin hok⟩
 ·intro hc;refine Qi ?_;try simp only[go_sem]
  refine Qa ?_;simp only[go_sem];refine Qafd (kn.e 0 rfl) (by omega) fun cs H3 k2 hk3 hk4 hu hok=>?_;have kn:=kn.callE 0 rfl hu (R.o_ne _);have hx2:=kn.l 0 rfl;simp only[go_sem,Qyo,hx2];intro H4 h4;have kn:=kn.stL 0 rfl h4;have hx2:=kn.l 0 rfl;refine Qk ?_;simp only[go_sem,Q7,Qad,Qzj,Ja,forall_eq,RS.op,hx2];exact⟨_,Qfe cs,hK cs _ k2 (by omega) (by omega) kn.fin hok⟩
def caI (q:CodeD)(b j:Nat):List Plc:=((List.range j).filter fun i=>decide ((((Qbt q b).ins[i]?).map InsD.op).getD 0=14)).map fun (i:Nat)=>((b:Int),(i:Int))
def caTo (q:CodeD)(b:Nat):List Plc:=(List.range b).flatMap fun b=>caI q b (Qbt q b).ins.length
def caL (q:CodeD):List Plc:=caTo q q.blocks.length
theorem Qbci {b j:Nat}(h:j<(Qbt q b).ins.length):caI q b (j+1)=caI q b j++if (Qbt q b).ins[j].op=14 then [((b:Int),(j:Int))]else []:=by
 rw[caI,caI,Ja2,List.filter_append,Jo];congr 1;have e:(((Qbt q b).ins[j]?).map InsD.op).getD 0=(Qbt q b).ins[j].op:=by simp[h]
 by_cases hc:(Qbt q b).ins[j].op=14
 ·rw[if_pos hc];simp[e,hc]
 ·rw[if_neg hc];simp[e,hc]
theorem Qr2 {b:Nat}:caTo q (b+1)=caTo q b++caI q b (Qbt q b).ins.length:=by simp[caTo,Ja2]
noncomputable def Qaem (cs:List CodeD)(k:Int):List Plc:=if hasG cs k=true then match cs[k.toNat]? with
 |some q=>caL q
 |none=>[]else []
theorem Qaek {b j:Nat}:(caI q b j).length≤j:=by
 rw[caI,Jc];exact Nat.le_trans (List.length_filter_le _ _) (by simp)
set_option maxHeartbeats 4000000 in
theorem Qy4 {cs:List CodeD}{fl:Bool}{k:Int}(hfit:∀c∈cs,c.fits)(hK:∀(H':Heap),Upd H H' []→K (.c (.sl false 1 (Qca (Qaem cs k)))) H') :
  Qu prog Qd2 [.ag [.sl fl 3 (Ql cs)],.c (.int .i64 k)] H K:=by
 refine Qt ?_;refine Qb Qam Qafm ?_;refine Qa ?_;simp only[go_sem];refine Qa ?_;simp only[go_sem];refine Q5 ?_;refine Qa ?_;simp only[go_sem];refine Qbos hfit fun H1 hu=>?_;have kn:=(Kn.start0 H).call0 hu;simp only[go_sem,Qkf];refine Qh (Qd rfl ?_ ?_)
 ·intro hc;have hg:hasG cs k=false:=Qsp hc;refine Qa ?_;simp only[go_sem];refine Qk ?_;simp only[go_sem,X.next,Q7,Qad,Qix,Ja,forall_eq,RS.op];have e:Qaem cs k=[]:=by rw[Qaem,hg];simp
  have:=hK _ kn.fin;rw[e]at this;exact⟨_,.c _ _ FrzR.nil.sl,this⟩
 ·intro hc;have hg:hasG cs k=true:=Qfg hc;obtain⟨m,hm,rfl,ho⟩:=Qbin hg;obtain⟨q,hq⟩:∃q,cs[m]=q:=⟨_,rfl⟩;rw[hq]at ho;have e:Qaem cs (m:Int)=caL q:=by
   rw[Qaem,if_pos hg];simp[hm,hq]
  have hb1:=ho.b1;refine Qi ?_;try simp only[go_sem]
  refine Qa ?_;simp only[go_sem,hm,Qx,Qaf _ _ hm,CodeD.cells,hq];intro x6 hx6 H2 h2;have kn:=kn.al hx6 h2;have hx6:=kn.l 0 rfl;simp only[go_sem,Qkg,hx6];intro H3 h3;have kn:Kn H H3 [] ([(x6,.st [.int .i64 q.params,.int .i64 q.regs,.sl false 5 (Qm q.blocks)])]++[]):=kn.stL 0 rfl h3;refine Q5 ?_;refine Qa ?_;simp only[go_sem];refine Qh (Qc (Qv (fun m2 e1 H1=>∃(b:Nat) (t:C) (Lg:List (Nat×Obj)),m2=q.blocks.length-b∧b≤q.blocks.length∧(caTo q b).length≤b * 1200∧Gr Lg 1 (Qca (caTo q b)) t∧Kn H H1 [] ([(x6,.st [.int .i64 q.params,.int .i64 q.regs,.sl false 5 (Qm q.blocks)])]++Lg)∧
   lk 5 e1=.c t∧lk 6 e1=.c (.ptr x6 0)∧lk 7 e1=.c (.int .i64 b)) q.blocks.length ?_ ?_))
  ·exact⟨0,_,[],by omega,by omega,by simp[caTo],.nil 1,kn,rfl,rfl,rfl⟩
  ·clear kn hx6;rintro m2 e1 H4 ⟨b,t,Lg,hm2,hb,hcl,hgr,kn,l5,l6,l7⟩;have htw:=hgr.isOw;have hx6:=kn.l 0 rfl;refine Q5 ?_;refine Qa ?_;simp only[go_sem,l5,l6,l7,hx6,htw,Qj];try intro _
   refine Qh (Qd rfl ?_ ?_)
   ·intro hc2;have hlt:b<q.blocks.length:=(by simpa using hc2);obtain⟨y,hy⟩:∃y,q.blocks[b]=y:=⟨_,rfl⟩;have hya:Qbt q b=y:=(by rw[Qbi hlt,hy]);have hil:=ho.il b hlt;rw[hy]at hil;refine Qi ?_;try simp only[go_sem]
    refine Qh (Qc ?_);refine Qa ?_;simp only[go_sem,htw];refine Qc (Qv (fun m3 e1 H1=>∃(j:Nat) (t:C) (Lg:List (Nat×Obj)),m3=y.ins.length-j∧j≤y.ins.length∧Gr Lg 1 (Qca (caTo q b++caI q b j)) t∧Kn H H1 [] ([(x6,.st [.int .i64 q.params,.int .i64 q.regs,.sl false 5 (Qm q.blocks)])]++Lg)∧
     lk 5 e1=.c t∧lk 6 e1=.c (.ptr x6 0)∧lk 7 e1=.c (.int .i64 b)∧lk 8 e1=.c (.int .i64 j)) y.ins.length ?_ ?_)
    ·exact⟨0,t,Lg,by omega,by omega,by simpa[caI]using hgr,kn,rfl,rfl,rfl,rfl⟩
    ·clear kn hx6 hgr htw l5 l6 l7;rintro m3 e2 H5 ⟨j,t,Lg,hm3,hj,hgr,kn,l5,l6,l7,l8⟩;have htw:=hgr.isOw;have hx6:=kn.l 0 rfl;refine Q5 ?_;refine Qa ?_;simp only[go_sem,l5,l6,l7,l8,hx6,htw,hlt,Qj,Q9 _ _ hlt,BlkD.cells,hy,Qaa];try intro _
     refine Qh (Qd rfl ?_ ?_)
     ·intro hc3;have hlt3:j<y.ins.length:=(by simpa using hc3);obtain⟨x,hx⟩:∃x,y.ins[j]=x:=⟨_,rfl⟩;have hsucc:caI q b (j+1)=caI q b j++if x.op=14 then [((b:Int),(j:Int))]else []:=by
       have:=Qbci (q:=q) (b:=b) (j:=j) (by rw[hya];exact hlt3);simp only[hya,hx]at this;exact this
      have hlen:=Qaek (q:=q) (b:=b) (j:=j);refine Qi ?_;try simp only[go_sem]
      refine Qcq (fun e2 H2=>∃(t:C) (Lg:List (Nat×Obj)),Gr Lg 1 (Qca (caTo q b++caI q b (j+1))) t∧Kn H H2 [] ([(x6,.st [.int .i64 q.params,.int .i64 q.regs,.sl false 5 (Qm q.blocks)])]++Lg)∧
       lk 5 e2=.c t∧lk 6 e2=.c (.ptr x6 0)∧lk 7 e2=.c (.int .i64 b)∧lk 8 e2=.c (.int .i64 j)) ?_ ?_
      ·intro Q hnr _ _;refine Qc ?_;refine Qa ?_;simp only[go_sem,l5,l6,l7,l8,hx6,htw,hlt,Qj,Q9 _ _ hlt,BlkD.cells,hy,hlt3,Qaa,Qay _ _ hlt3,InsD.cells,hx];refine Qd rfl ?_ ?_
       ·intro hc4;have h14:x.op=14:=(by simpa using hc4);refine Qq ?_;simp only[go_sem,htw];refine kn.growR (new:=Qca [((b:Int),(j:Int))]) hgr (.mk' _ _ _ _) (Qf5 _) (by
         simp only[Qdo,Jg,LIM,Jl,Jh];have:b * 1200≤160 * 1200:=Jau _ (by omega);omega) fun t2 Lg2 H6 hgr2 ht2 kn=>?_
        simp only[go_sem,Qkh,ht2];refine hnr _ _ ⟨t2,Lg2,?_,kn,rfl,rfl,rfl,rfl⟩;rw[hsucc,if_pos h14,←J4];have:Qca (caTo q b++caI q b j++[((b:Int),(j:Int))])=Qca (caTo q b++caI q b j)++Qca [((b:Int),(j:Int))]:=(by simp[Qca]);rw[this];exact hgr2
       ·intro hc4;have h14:¬x.op=14:=(by simpa using hc4);refine Qi ?_;try simp only[go_sem]
        refine hnr _ _ ⟨t,Lg,?_,kn,rfl,rfl,rfl,rfl⟩;rw[hsucc,if_neg h14,Jm];exact hgr
      ·rintro e3 H6 ⟨t,Lg,hgr,kn,l5,l6,l7,l8⟩;have htw:=hgr.isOw;refine Qq ?_;simp only[go_sem,l5,l6,l7,l8,htw];refine⟨Qp (by omega) (by omega),?_⟩;show ∃m,_;exact⟨y.ins.length-(j+1),by omega,j+1,t,Lg,rfl,by omega,hgr,kn,rfl,rfl,rfl,rfl⟩
     ·intro hc3;have hje:j=y.ins.length:=(by have:y.ins.length≤j:=(by simpa using hc3);omega);subst hje;have hlen:=Qaek (q:=q) (b:=b) (j:=y.ins.length);refine Qs ?_;simp only[go_sem,X.next];refine Qq ?_;simp only[go_sem,l5,l6,l7,htw];refine⟨Qp (by omega) (by omega),?_⟩;show ∃m,_;refine⟨q.blocks.length-(b+1),by omega,b+1,t,Lg,rfl,by omega,?_,?_,kn,rfl,rfl,rfl⟩
      ·rw[Qr2,hya,Jg,Ja7];omega
      ·rw[Qr2,hya];exact hgr
   ·intro hc2;have hbe:b=q.blocks.length:=(by have:q.blocks.length≤b:=(by simpa using hc2);omega);subst hbe;refine Qs ?_;simp only[go_sem,X.next];refine Qa ?_;simp only[go_sem,l5,htw];refine Qk ?_;simp only[go_sem,Q7,Qad,Qix,Ja,forall_eq,RS.op,htw];have:=hK _ kn.fin;rw[e]at this;exact⟨_,.c _ _ (hgr.frz kn (Qf5 _)),this⟩
set_option maxHeartbeats 4000000 in
theorem Qbjc {R:Rdr}{k:Nat}(hH:H R.l=R.o k)(hk:k+40000000≤2^30)
  (hK:∀(cs:List CodeD) (H':Heap) (k':Nat),k<k'→k'≤k+39000000→Upd H H' [(R.l,R.o k')]→UnitOk cs→K (.ag [.sl false 3 (Ql cs)]) H') :
  Qu prog Q5d [.c (.ptr R.l 0)] H K:=by
 refine Qt ?_;refine Qb Qam Qbj5 ?_;refine Qa ?_;simp only[go_sem];intro x2 hx2 H1 h1;have kn:=(Kn.start1 hH (R.o_ne k)).al hx2 h1;refine Q5 ?_;refine Qa ?_;simp only[go_sem];refine Qh (Qc (Qv (fun m e1 H1=>∃(i k':Nat) (L:List (Nat×Obj)),m=4-i∧i≤4∧k≤k'∧k'≤k+i * 7300000∧Kn H H1 [(R.l,R.o k')] ([(x2,.st [.sl true 3 []])]++L)∧
  lk 0 e1=.c (.ptr R.l 0)∧lk 2 e1=.c (.ptr x2 0)∧lk 4 e1=.c (.int .i64 i)) 4 ?_ ?_))
 ·exact⟨0,k,[],by omega,by omega,by omega,by omega,kn,rfl,rfl,rfl⟩
 ·clear kn;rintro m e1 H2 ⟨i,k1,L,hm,hi,hk1,hk2,kn,l0,l2,l4⟩;have hx2:=kn.l 0 rfl;refine Qa ?_;simp only[go_sem,l0,l2,l4];refine Qh (Qd rfl ?_ ?_)
  ·intro hc;have hlt:i<4:=by
    have:=of_decide_eq_true hc;omega
   refine Qi ?_;try simp only[go_sem]
   refine Qh (Qc ?_);refine Qa ?_;simp only[go_sem];refine Qa49 (kn.e 0 rfl) (by omega) fun cs H3 k3 hk3 hk4 hu hok=>?_;have kn:=kn.callE 0 rfl hu (R.o_ne _);simp only[go_sem,Q90];intro x3 hx3 H4 h4;have kn:=(kn.al hx3 h4).perm Ji;have hx3:=kn.l 0 rfl;simp only[go_sem,Q9z,hx3];intro H5 h5;have kn:Kn H H5 [(R.l,R.o k3)] ([(x2,.st [.sl true 3 []])]++([(x3,.st [.sl false 3 (Ql cs)])]++L)):=
    (kn.stL 0 rfl h5).perm (Qn fun f hf h0 hc hp=>by
     show f ([(x3,_)]++([(x2,_)]++L))=_;simp only[hf];omega)
   have hx3:=kn.l 1 rfl;obtain⟨u0,u4,ugd⟩:=hok;have hi1:((cs.length:Int)-1)=((cs.length-1:Nat):Int):=by omega
   have hcsf:∀c∈cs,c.fits:=fun c hc=>(ugd c hc).f;refine Qcq (fun e2 H2=>∃(bb:Bool),Kn H H2 [(R.l,R.o k3)] ([(x2,.st [.sl true 3 []])]++([(x3,.st [.sl false 3 (Ql cs)])]++L))∧lk 0 e2=.c (.ptr R.l 0)∧lk 2 e2=.c (.ptr x2 0)∧lk 3 e2=.c (.ptr x3 0)∧lk 4 e2=.c (.int .i64 i)∧lk 21 e2=.c (.bool bb)) ?_ ?_
   ·intro Q hnr _ _;refine Qq ?_;simp only[go_sem,hx3,Qx];intro _ _;refine⟨fun _=>Qp (by omega) (by omega),fun h=>?_,fun h=>?_⟩
    ·refine Qy4 hcsf fun H6 hu=>?_;have kn:=kn.call0 hu;simp only[go_sem,Qtp,h];try intro _
     exact hnr _ _ ⟨_,kn,rfl,rfl,rfl,rfl,rfl⟩
    ·simp only[go_sem,Qtp,h];try intro _
     exact hnr _ _ ⟨_,kn,rfl,rfl,rfl,rfl,rfl⟩
   ·rintro e2 H6 ⟨bb,kn,l0,l2,l3,l4,l21⟩;refine Qd (c:=bb) l21 ?_ ?_
    ·intro _;have hx2:=kn.l 0 rfl;have hx3:=kn.l 1 rfl;refine Qa ?_;simp only[go_sem,l0,l2,l3,l4,hx2,hx3];intro H7 h7;have kn:=kn.stL 0 rfl h7;have hx2:=kn.l 0 rfl;refine Qk ?_;simp only[go_sem,X.next,Q7,Qad,Qaga,Ja,forall_eq,RS.op,hx2];exact⟨_,Qfe cs,hK cs _ k3 (by omega) (by omega) kn.fin ⟨u0,u4,ugd⟩⟩
    ·intro _;refine Qi ?_;try simp only[go_sem]
     refine Qq ?_;simp only[go_sem,l0,l2,l3,l4];refine⟨Qp (by omega) (by omega),?_⟩;show ∃m,_;exact⟨4-(i+1),by omega,i+1,k3,_,rfl,by omega,by omega,by omega,kn,rfl,rfl,rfl⟩
  ·intro _;refine Qs ?_;simp only[go_sem,X.next];refine Qa ?_;simp only[go_sem,l0,l2];refine Qafd (kn.e 0 rfl) (by omega) fun cs H3 k3 hk3 hk4 hu hok=>?_;have kn:=kn.callE 0 rfl hu (R.o_ne _);have hx2:=kn.l 0 rfl;simp only[go_sem,Q91,hx2];intro H4 h4;have kn:=kn.stL 0 rfl h4;have hx2:=kn.l 0 rfl;refine Qk ?_;simp only[go_sem,Q7,Qad,Qaga,Ja,forall_eq,RS.op,hx2];exact⟨_,Qfe cs,hK cs _ k3 (by omega) (by omega) kn.fin hok⟩
def bks (q:CodeD):Nat:=q.blocks.length
noncomputable def blocksI (cs:List CodeD):Int:=if Qa3 cs=true then (Qhy bks cs:Nat)else -1
noncomputable def sizeI (cs:List CodeD)(k:Int):Int:=if hasG cs k=true then match cs[k.toNat]? with
 |some q=>(Qvx q:Nat)
 |none=>-1 else -1
section
variable {P:Program}{e:Env}{its r:List Item}{KK:Env→Heap→Prop}{d:Option Nat}{t:Nat}{w:Bool}{op:FOp}
def isF:Item→Bool
 |.f ..=>true
 |_=>false
end
set_option maxHeartbeats 4000000 in
theorem Qav3 (ho:q.ok)(hK:∀(H':Heap),Upd H H' []→K (.c (.sl false 1 (Qca (caL q)))) H'):Qu prog Qgw [.ag q.cells] H K:=by
 refine Qt ?_;have kn:=Kn.start0 H;have hb1:=ho.b1;simp only[CodeD.cells];refine Qb Qam Qafj ?_;refine Qa ?_;simp only[go_sem];refine Qa ?_;simp only[go_sem];refine Q5 ?_;refine Qa ?_;simp only[go_sem,Qj];try intro _
 refine Qh (Qc (Qv (fun m2 e1 H1=>∃(b:Nat) (t:C) (Lg:List (Nat×Obj)),m2=q.blocks.length-b∧b≤q.blocks.length∧(caTo q b).length≤b * 1200∧Gr Lg 1 (Qca (caTo q b)) t∧Kn H H1 [] ([]++Lg)∧
  lk 3 e1=.c t∧lk 9 e1=.c (.sl false 5 (Qm q.blocks))∧lk 10 e1=.c (.int .i64 q.blocks.length)∧lk 11 e1=.c (.int .i64 b)) q.blocks.length ?_ ?_))
 ·exact⟨0,_,[],by omega,by omega,by simp[caTo],.nil 1,kn,rfl,rfl,rfl,rfl⟩
 ·clear kn;rintro m2 e1 H4 ⟨b,t,Lg,hm2,hb,hcl,hgr,kn,l3,l9,l10,l11⟩;have htw:=hgr.isOw;refine Qa ?_;simp only[go_sem,l3,l9,l10,l11,htw];refine Qh (Qd rfl ?_ ?_)
  ·intro hc2;have hlt:b<q.blocks.length:=by simpa using hc2
   obtain⟨y,hy⟩:∃y,q.blocks[b]=y:=⟨_,rfl⟩;have hya:Qbt q b=y:=by rw[Qbi hlt,hy]
   have hil:=ho.il b hlt;rw[hy]at hil;refine Qi ?_;try simp only[go_sem]
   refine Qh (Qc ?_);refine Qa ?_;simp only[go_sem,htw,hlt,Qj,Q9 _ _ hlt,BlkD.cells,hy];intro x5 hx5 H5 h5;have kn:=kn.al hx5 h5;have hx5:H5 x5=.st [.sl true 2 [],.sl true 4 [],.int .i64 0,.int .i64 0,.sl true 1 []]:=(kn.get (x5,.st [.sl true 2 [],.sl true 4 [],.int .i64 0,.int .i64 0,.sl true 1 []]) (by simp)).1;simp only[go_sem,Qj8,hx5,htw];intro H6 h6;have kn:Kn H H5 [] ([(x5,.st [.sl true 2 [],.sl true 4 [],.int .i64 0,.int .i64 0,.sl true 1 []])]++Lg):=kn.perm (by simp);have kn:Kn H H6 [] ([(x5,.st [.sl false 2 (Qab y.phis),.sl false 4 (Qap y.ins),.int .i64 y.jump,.int .i64 y.on,.sl false 1 (Qe y.next)])]++Lg):=kn.stL 0 rfl h6;have hx5:H6 x5=.st [.sl false 2 (Qab y.phis),.sl false 4 (Qap y.ins),.int .i64 y.jump,.int .i64 y.on,.sl false 1 (Qe y.next)]:=kn.l 0 rfl;refine Qa ?_;simp only[go_sem,hx5,htw,Qaa];try intro _
   refine Qc (Qv (fun m3 e1 H1=>∃(j:Nat) (t:C) (Lg:List (Nat×Obj)),m3=y.ins.length-j∧j≤y.ins.length∧Gr Lg 1 (Qca (caTo q b++caI q b j)) t∧Kn H H1 [] ([]++Lg)∧
    lk 3 e1=.c t∧lk 4 e1=.c (.int .i64 b)∧lk 9 e1=.c (.sl false 5 (Qm q.blocks))∧lk 10 e1=.c (.int .i64 q.blocks.length)∧lk 11 e1=.c (.int .i64 b)∧
    lk 17 e1=.c (.sl false 4 (Qap y.ins))∧lk 18 e1=.c (.int .i64 y.ins.length)∧lk 19 e1=.c (.int .i64 j)) y.ins.length ?_ ?_)
   ·exact⟨0,t,Lg,by omega,by omega,by simpa[caI]using hgr,Kn.drop (B:=[(x5,_)]) (kn.perm (by simpa using Ji (l₁:=[(x5,_)]) (l₂:=Lg))),rfl,rfl,rfl,rfl,rfl,rfl,rfl,rfl⟩
   ·clear kn hx5 hgr htw l3 l9 l10 l11;rintro m3 e2 H7 ⟨j,t,Lg,hm3,hj,hgr,kn,l3,l4,l9,l10,l11,l17,l18,l19⟩;have htw:=hgr.isOw;refine Qa ?_;simp only[go_sem,l3,l4,l9,l10,l11,l17,l18,l19,htw];refine Qh (Qd rfl ?_ ?_)
    ·intro hc3;have hlt3:j<y.ins.length:=(by simpa using hc3);obtain⟨x,hx⟩:∃x,y.ins[j]=x:=⟨_,rfl⟩;have hsucc:caI q b (j+1)=caI q b j++if x.op=14 then [((b:Int),(j:Int))]else []:=by
      have:=Qbci (q:=q) (b:=b) (j:=j) (by rw[hya];exact hlt3);simp only[hya,hx]at this;exact this
     have hlen:=Qaek (q:=q) (b:=b) (j:=j);refine Qi ?_;try simp only[go_sem]
     refine Qcq (fun e2 H2=>∃(t:C) (Lg:List (Nat×Obj)),Gr Lg 1 (Qca (caTo q b++caI q b (j+1))) t∧Kn H H2 [] ([]++Lg)∧
      lk 3 e2=.c t∧lk 4 e2=.c (.int .i64 b)∧lk 9 e2=.c (.sl false 5 (Qm q.blocks))∧lk 10 e2=.c (.int .i64 q.blocks.length)∧lk 11 e2=.c (.int .i64 b)∧
      lk 17 e2=.c (.sl false 4 (Qap y.ins))∧lk 18 e2=.c (.int .i64 y.ins.length)∧lk 19 e2=.c (.int .i64 j)) ?_ ?_
     ·intro Q hnr _ _;refine Qc ?_;refine Qa ?_;simp only[go_sem,l3,l4,l9,l10,l11,l17,l18,l19,htw,hlt3,Qaa,Qay _ _ hlt3,InsD.cells,hx];intro x7 hx7 H8 h8;have kn:=kn.al hx7 h8;have hx7:H8 x7=.st [.int .i64 0,.int .i64 0,.sl true 1 [],.int .i64 0]:=(kn.get (x7,.st [.int .i64 0,.int .i64 0,.sl true 1 [],.int .i64 0]) (by simp)).1;simp only[go_sem,Qj9,hx7,htw];intro H9 h9;have kn:Kn H H8 [] ([(x7,.st [.int .i64 0,.int .i64 0,.sl true 1 [],.int .i64 0])]++Lg):=kn.perm (by simp);have kn:Kn H H9 [] ([(x7,.st [.int .i64 x.op,.int .i64 x.to,.sl false 1 (Qe x.args),.int .i64 x.n])]++Lg):=kn.stL 0 rfl h9;have hx7:H9 x7=.st [.int .i64 x.op,.int .i64 x.to,.sl false 1 (Qe x.args),.int .i64 x.n]:=kn.l 0 rfl;refine Qa ?_;simp only[go_sem,hx7,htw];refine Qd rfl ?_ ?_
      ·intro hc4;have h14:x.op=14:=(by simpa using hc4);refine Qq ?_;simp only[go_sem,htw];refine kn.growR (new:=Qca [((b:Int),(j:Int))]) hgr (.mk' _ _ _ _) (Qf5 _) (by
        simp only[Qdo,Jg,LIM,Jl,Jh];have:b * 1200≤160 * 1200:=Jau _ (by omega);omega) fun t2 Lg2 H10 hgr2 ht2 kn=>?_
       simp only[go_sem,Qka,ht2];refine hnr _ _ ⟨t2,Lg2,?_,Kn.drop (B:=[(x7,_)]) (kn.perm (by simpa using Ji (l₁:=[(x7,_)]) (l₂:=Lg2))),rfl,rfl,rfl,rfl,rfl,rfl,rfl,rfl⟩;rw[hsucc,if_pos h14,←J4];have:Qca (caTo q b++caI q b j++[((b:Int),(j:Int))])=Qca (caTo q b++caI q b j)++Qca [((b:Int),(j:Int))]:=(by simp[Qca]);rw[this];exact hgr2
      ·intro hc4;have h14:¬x.op=14:=(by simpa using hc4);refine Qi ?_;try simp only[go_sem]
       refine hnr _ _ ⟨t,Lg,?_,Kn.drop (B:=[(x7,_)]) (kn.perm (by simpa using Ji (l₁:=[(x7,_)]) (l₂:=Lg))),rfl,rfl,rfl,rfl,rfl,rfl,rfl,rfl⟩;rw[hsucc,if_neg h14,Jm];exact hgr
     ·rintro e3 H6 ⟨t,Lg,hgr,kn,l3,l4,l9,l10,l11,l17,l18,l19⟩;have htw:=hgr.isOw;refine Qq ?_;simp only[go_sem,l3,l4,l9,l10,l11,l17,l18,l19,htw];refine⟨Qp (by omega) (by omega),?_⟩;show ∃m,_;exact⟨y.ins.length-(j+1),by omega,j+1,t,Lg,rfl,by omega,hgr,kn,rfl,rfl,rfl,rfl,rfl,rfl,rfl,rfl⟩
    ·intro hc3;have hje:j=y.ins.length:=(by have:y.ins.length≤j:=(by simpa using hc3);omega);subst hje;have hlen:=Qaek (q:=q) (b:=b) (j:=y.ins.length);refine Qs ?_;simp only[go_sem,X.next];refine Qq ?_;simp only[go_sem,l3,l9,l10,l11,htw];refine⟨Qp (by omega) (by omega),?_⟩;show ∃m,_;refine⟨q.blocks.length-(b+1),by omega,b+1,t,Lg,rfl,by omega,?_,?_,kn,rfl,rfl,rfl,rfl⟩
     ·rw[Qr2,hya,Jg,Ja7];omega
     ·rw[Qr2,hya];exact hgr
  ·intro hc2;have hbe:b=q.blocks.length:=by have:q.blocks.length≤b:=(by simpa using hc2);omega
   subst hbe;refine Qs ?_;simp only[go_sem,X.next];refine Qa ?_;simp only[go_sem,l3,htw];refine Qk ?_;simp only[go_sem,Q7,Qad,Qst,Ja,forall_eq,RS.op,htw];exact⟨_,.c _ _ (hgr.frz kn (Qf5 _)),hK _ kn.fin⟩
theorem Qbsd {b j:Nat}{p:Plc}(h:p∈caI q b j):∃i:Nat,p=((b:Int),(i:Int))∧i<j∧(((Qbt q b).ins[i]?).map InsD.op).getD 0=14:=by
 simp only[caI,J9,Jah,J2,decide_eq_true_eq]at h;obtain⟨i,⟨h1,h2⟩,rfl⟩:=h;exact⟨i,rfl,h1,h2⟩
theorem Qbnu {n:Nat}{p:Plc}(h:p∈caTo q n):∃b i:Nat,p=((b:Int),(i:Int))∧b<n∧i<(Qbt q b).ins.length∧(((Qbt q b).ins[i]?).map InsD.op).getD 0=14:=by
 simp only[caTo,Jak,J2]at h;obtain⟨b,hb,h⟩:=h;obtain⟨i,h1,h2,h3⟩:=Qbsd h;exact⟨b,i,h1,hb,h2,h3⟩
def plcLt (p r:Plc):Prop:=p.1<r.1∨(p.1=r.1∧p.2<r.2)
end Go.AE.Y
namespace Go.AE.Y
open Go.Proofs.Tryz
attribute [local instance] Classical.propDecidable
def Q1l (q:CodeD)(p:Plc):InsD:=((Qbt q p.1.toNat).ins[p.2.toNat]?).getD ⟨0,0,[],0⟩
def kcN (q:CodeD):List Nat:=(caL q).map fun p=>(Q1l q p).n.toNat
def Qr3 (cs:List CodeD)(k:Nat):CodeD:=(cs[k]?).getD ⟨0,0,[]⟩
theorem Qh5 {cs:List CodeD}{k:Nat}(h:k<cs.length):Qr3 cs k=cs[k]:=by simp[Qr3,h]
inductive Nd (cs:List CodeD):Nat→Prop
 |top:Nd cs (cs.length-1)
 |to {k n:Nat}:Nd cs k→n∈kcN (Qr3 cs k)→Nd cs n
noncomputable def Qdi (cs:List CodeD):List Nat:=ascL cs.length (Nd cs)
theorem Qav2 {q:CodeD}{p:Plc}(h:p∈caL q):∃b i:Nat,p=((b:Int),(i:Int))∧∃(hb:b<q.blocks.length) (hi:i<q.blocks[b].ins.length),q.blocks[b].ins[i].op=14∧Q1l q p=q.blocks[b].ins[i]:=by
 obtain⟨b,i,rfl,hb,hi,ho⟩:=Qbnu h;rw[Qbi hb]at hi ho;rw[Jj hi]at ho;refine⟨b,i,rfl,hb,hi,by simpa using ho,?_⟩;simp only[Q1l,J3,Qbi hb,Jj hi,Jad]
theorem Qael {cs:List CodeD}(h:Qa3 cs=true){k b i:Nat}(hk:k<cs.length)(hb:b<cs[k].blocks.length)(hi:i<cs[k].blocks[b].ins.length)(ho:cs[k].blocks[b].ins[i].op=14) :
  ∃n:Nat,cs[k].blocks[b].ins[i].n=n∧n<k:=by
 obtain⟨_,h2,_⟩:=of_decide_eq_true h;obtain⟨_,g2⟩:=h2 k hk;have g:=g2 b hb;simp only[blkG,J0,Ja0]at g;have gi:=g.1.2 _ (Jd hi);simp only[insG,J0,insL,ho,if_true,decide_eq_true_eq]at gi;have:=gi.2.1;exact⟨(cs[k].blocks[b].ins[i].n).toNat,by omega,by omega⟩
theorem Qbs6 {cs:List CodeD}(h:Qa3 cs=true){k n:Nat}(hk:k<cs.length)(hn:n∈kcN (Qr3 cs k)):n<k:=by
 obtain⟨p,hp,rfl⟩:=J9.1 hn;rw[Qh5 hk]at hp⊢;obtain⟨b,i,rfl,hb,hi,ho,he⟩:=Qav2 hp;obtain⟨n,hn,hlt⟩:=Qael h hk hb hi ho;rw[he,hn];exact hlt
theorem Qasf {cs:List CodeD}(h:Qa3 cs=true){n:Nat}(hn:Nd cs n):n<cs.length:=by
 have h0:=(of_decide_eq_true h).1
 induction hn with
 |top=>omega
 |to _ h1 ih=>have:=Qbs6 h ih h1;omega
theorem Qci {cs:List CodeD}(h:Qa3 cs=true){n:Nat}:n∈Qdi cs↔Nd cs n:=by
 rw[Qdi,Qbnq];exact⟨fun x=>x.2,fun x=>⟨Qasf h x,x⟩⟩
theorem Qlr {cs:List CodeD}:(Qdi cs).Pairwise (· < ·):=Qbnp
theorem Qbws {cs:List CodeD}{S:Nat→Prop}(h0:S (cs.length-1))(h1:∀k,S k→∀n∈kcN (Qr3 cs k),S n){n:Nat}(hn:Nd cs n):S n:=by
 induction hn with
 |top=>exact h0
 |to _ h ih=>exact h1 _ ih _ h
theorem Qbks {cs:List CodeD}(h:Qa3 cs=true){l:List Nat}(ha:l.Pairwise (· < ·))(h0:cs.length-1∈l)(h1:∀k∈l,∀n∈kcN (Qr3 cs k),n∈l)(h2:∀k∈l,Nd cs k):l=Qdi cs:=
 Qap0 ha Qlr fun n=>⟨fun x=>(Qci h).2 (h2 n x),fun x=>Qbws (S:=(·∈l)) h0 h1 ((Qci h).1 x)⟩
theorem Q5q {cs:List CodeD}(h:Qa3 cs=true):0<(Qdi cs).length∧∀(hn:(Qdi cs).length-1<(Qdi cs).length),(Qdi cs)[(Qdi cs).length-1]=cs.length-1:=by
 have hm:cs.length-1∈Qdi cs:=(Qci h).2 .top;obtain⟨i,hi,he⟩:=Jk.1 hm;refine⟨by omega,fun hn=>?_⟩;have hl:=Qasf h ((Qci h).1 (Jd hn));by_cases hii:i=(Qdi cs).length-1
 ·subst hii;exact he
 ·have:=Jt.1 (Qlr (cs:=cs)) i ((Qdi cs).length-1) hi hn (by omega);omega
theorem Qbc0 {cs:List CodeD}:(Qdi cs).length≤cs.length:=Qbr8
end Go.AE.Y
namespace Go.AE.Y
open Go.Proofs.Tryz
def Qiy:List Item:=[oJ 5 4]
def Q2d:SC:=cT 5 (sR [fI 2 (.mv (.k (.c (.sl true 1 []))))] [2] .ret) .skip
def Qiz:List Item:=[mJ 2 7]
def Q2e:SC:=sR (tJ 6 1 1::aJ 7 Qc2 [.t 6]::Qiz) [2] .ret
def Q2f:SC:=.seq (sR (tJ 3 1 1::aJ 4 Qeu [.t 3]::Qiy) [1,5] Q2d) Q2e
def Qabm:SC:=sR [vJ 1 0,fI 2 (.mv (.k (.c (.sl true 1 []))))] [1] Q2f
def Qg0:List RS:=[.tmp 2]
theorem Qabd:mFn prog Qc1 1 8 Qabm Qg0=true:=by kernel_rfl
def Qs3:List Item:=[sJ 1 5 9]
def Qs4:List Item:=eI 5 (.alloc [.mnil])::Qs3
def Qamx:SC:=.reg [lJ 17 6,mJ 18 8,eI 19 (.callv (.t 17) [.t 18])] [5,6,11,12,13]
def Qamy:SC:=.reg [cJ 20 .add 13 1,mJ 13 20] [5,6,11,12,13]
def Qamz:SC:=.seq (.block 1 (sR [iJ 15 1 11 13,lJ 16 15,mJ 8 16] [5,6,8,11,12,13] Qamx)) Qamy
def Qagy:SC:=sR [bJ 14 .lss 13 12] [5,6,11,12,13,14] (cX 14 0 Qamz)
def Qs5:List Item:=[mJ 4 22]
def Qam0:SC:=sR (lJ 21 5::aJ 22 Qbz [.t 21]::Qs5) [4] .ret
def Qam1:SC:=.seq (sR [mJ 11 0,nJ 12 11,zJ 13 0] [5,6,11,12,13] (bL 0 Qagy)) Qam0
def Qam2:SC:=sR [fI 10 (.mkf Qd1 [.t 5,.t 3,.t 6]),sJ 1 6 10] [0,5,6] Qam1
def Qagv:SC:=sR [eI 6 (.alloc [.fnil])] [0,3,5,6] Qam2
def Qagw:SC:=sR (eI 9 (.mkm)::Qs4) [0,3,5] Qagv
def Qaxu:SC:=sR [vJ 3 1,fI 4 (.mv (.k (.c (.sl true 1 []))))] [0,3] Qagw
def Q73:List RS:=[.tmp 4]
theorem Qawp:mFn prog Qns 2 23 Qaxu Q73=true:=by kernel_rfl
def Qkc:List Item:=[nJ 16 15,zJ 17 0]
def Q6c:SC:=.reg [lJ 21 3,mJ 22 6,eI 23 (.callv (.t 21) [.t 22])] [3,15,16,17]
def Q6d:SC:=.reg [cJ 24 .add 17 1,mJ 17 24] [3,15,16,17]
def Q6e:SC:=.seq (.block 1 (sR [iJ 19 1 15 17,lJ 20 19,mJ 6 20] [3,6,15,16,17] Q6c)) Q6d
def Q2q:SC:=sR [bJ 18 .lss 17 16] [3,15,16,17,18] (cX 18 0 Q6e)
def Q6f:SC:=sR (lJ 13 2::mJ 14 0::eI 15 (.callv (.t 13) [.t 14])::Qkc) [3,15,16,17] (bL 0 Q2q)
def Q6g:SC:=cT 10 (sR [lJ 11 1,mJ 12 0,.e none none (.upd 0 (.t 11) (.t 12) (.k (.c (.bool true))))] [0,2,3] Q6f) .skip
def Qagx:SC:=sR [lJ 7 1,mJ 8 0,fI 9 (.lup 0 (.c (.bool false)) (.t 7) (.t 8)),oJ 10 9] [0,1,2,3,10] Q6g
def Qiq:List RS:=[]
theorem Qafl:mFn prog Qd1 4 25 Qagx Qiq=true:=by kernel_rfl
def Qi6:List Item:=[mJ 2 9]
def Q2r:SC:=sR (fJ 3 0 1::lJ 4 3::nJ 5 4::cJ 6 .sub 5 1::fI 7 (.bsl 1 [.t 6])::fI 8 (.mkf Qbn [.t 1])::aJ 9 Qns [.t 7,.t 8]::Qi6) [2] .ret
def Qaca:SC:=sR [vJ 1 0,fI 2 (.mv (.k (.c (.sl true 1 []))))] [1] Q2r
def Qo0:List RS:=[.tmp 2]
theorem Qabf:mFn prog Qc2 1 10 Qaca Qo0=true:=by kernel_rfl
def Qfk:List Item:=[sJ 3 4 9]
def Qfl:List Item:=[mJ 3 13]
def Qfm:List Item:=fI 12 (.mkf Qa9 [.t 4])::aJ 13 Qcs [.t 11,.t 12]::Qfl
def Qs8:SC:=sR (tJ 10 3 4::aJ 11 Qgw [.t 10]::Qfm) [3] .ret
def Qs9:SC:=sR (fJ 5 0 1::lJ 6 5::mJ 7 0::iJ 8 3 6 7::tJ 9 3 8::eI 4 (.alloc [.int .i64 0,.int .i64 0,.sl true 5 []])::Qfk) [4] Qs8
def Qzw:SC:=sR [fI 3 (.mv (.k (.c (.sl true 1 []))))] [0,1] Qs9
def Qis:List RS:=[.tmp 3]
theorem Qzd:mFn prog Qbn 2 14 Qzw Qis=true:=by kernel_rfl
def Qmk:SC:=.seq (.dreg 15 [0,1,2,3,4,5,6,7,8,9,10,11,12,13,14] ( fJ 4 2 1::lJ 5 4::mJ 6 0::fI 7 (.iad 1 (.t 6) (kI 0))::lJ 8 7::iJ 9 5 5 8::fJ 10 1 9::lJ 11 10::mJ 12 0::fI 13 (.iad 1 (.t 12) (kI 1))::lJ 14 13::iJ 15 4 11 14::fJ 16 3 15::lJ 17 16::mJ 3 17::[]) [3]) .ret
def Qqk:SC:=sR [zJ 3 0] [0,1] Qmk
def Qfj:List RS:=[.tmp 3]
theorem Qqh:mFn prog Qa9 2 18 Qqk Qfj=true:=by kernel_rfl
def Qe5:List Item:=[mJ 5 19]
def Qe6:List Item:=fI 18 (.bsl 1 [.t 17])::xJ 19 1 14 18::Qe5
def Qqm:SC:=.reg (mJ 14 5::mJ 15 1::mJ 16 7::eI 17 (.callv (.t 15) [.t 16])::Qe6) [1,5,8,9,10]
def Qqn:SC:=.reg [cJ 20 .add 10 1,mJ 10 20] [1,5,8,9,10]
def Qqo:SC:=.seq (.block 1 (sR [iJ 12 1 8 10,lJ 13 12,mJ 7 13] [1,5,7,8,9,10] Qqm)) Qqn
def Qod:SC:=sR [bJ 11 .lss 10 9] [1,5,8,9,10,11] (cX 11 0 Qqo)
def Qqp:SC:=sR [mJ 21 5,mJ 4 21] [4] .ret
def Qqq:SC:=.seq (sR [mJ 8 0,nJ 9 8,zJ 10 0] [1,5,8,9,10] (bL 0 Qod)) Qqp
def Qqr:SC:=sR [fI 5 (.mv (.k (.c (.sl true 1 []))))] [0,1,5] Qqq
def Qws:SC:=sR [fI 4 (.mv (.k (.c (.sl true 1 []))))] [0,1] Qqr
def Qg4:List RS:=[.tmp 4]
theorem Qwh:mFn prog Qcs 2 22 Qws Qg4=true:=by kernel_rfl
def Qjg:List Item:=[oJ 11 10]
def Q4j:SC:=cT 11 (sR [mJ 12 3,mJ 2 12] [2] .ret) .skip
def Qjh:List Item:=[mJ 4 16]
def Qji:List Item:=[mJ 6 33]
def Q4k:SC:=.reg [mJ 44 7,cJ 45 .add 44 1,mJ 7 45] [1,4,5,6,7]
def Q4l:SC:=.seq (.block 3 (.dreg 27 [0,1,2,3,4,5,6,7,8,9,10,11,12,13,14,15,16,17,18,19,20,21,22,23,24,25,26] ( mJ 46 4::fJ 47 0 1::lJ 48 47::mJ 49 5::iJ 50 3 48 49::fJ 51 2 50::lJ 52 51::mJ 53 6::mJ 54 7::iJ 55 1 53 54::lJ 56 55::fI 57 (.iad 1 (.t 56) (kI 0))::lJ 58 57::iJ 59 5 52 58::fJ 60 1 59::lJ 61 60::mJ 62 6::mJ 63 7::iJ 64 1 62 63::lJ 65 64::fI 66 (.iad 1 (.t 65) (kI 1))::lJ 67 66::iJ 68 4 61 67::fJ 69 3 68::lJ 70 69::iJ 71 1 46 70::.e none none (.sto 1 (.t 71) (.k (.c (.bool true))))::[]) [1,4,5,6,7])) Q4k
def Q01:SC:=.seq (sR [mJ 34 7,mJ 35 6,nJ 36 35,bJ 37 .lss 34 36,mJ 38 37,gTm 39 38 4,gTm 40 38 5,gT 41 38 (.iad 1 (.t 39) (.t 40)),gTl 42 38 41,pF 43 38 42] [1,4,5,6,7,43] (cT 43 .skip (.exit 2))) Q4l
def Q4m:SC:=sR [zJ 7 0] [1,4,5,6,7] (bL 2 Q01)
def Q4n:SC:=.reg [mJ 29 5,cJ 30 .sub 29 1,mJ 5 30] [1,4,5]
def Q4o:SC:=.seq (.block 1 (sR (tJ 31 1 1::mJ 32 5::aJ 33 Qd2 [.t 31,.t 32]::Qji) [1,4,5,6] Q4m)) Q4n
def Qxi:SC:=.seq (sR [mJ 27 5,cJ 28 .geq 27 0] [1,4,5,28] (cT 28 .skip (.exit 0))) Q4o
def Qhi:List Item:=[mJ 2 73]
def Q0v:SC:=sR (mJ 72 4::aJ 73 Q48 [.t 72]::Qhi) [2] .ret
def Q0w:SC:=.seq (sR [fJ 23 0 1,lJ 24 23,nJ 25 24,cJ 26 .sub 25 1,mJ 5 26] [1,4,5] (bL 0 Qxi)) Q0v
def Q0x:SC:=sR [mJ 17 4,fJ 18 0 1,lJ 19 18,nJ 20 19,cJ 21 .sub 20 1,iJ 22 1 17 21,.e none none (.sto 1 (.t 22) (.k (.c (.bool true))))] [1,4] Q0w
def Q0y:SC:=sR (fJ 13 0 1::lJ 14 13::nJ 15 14::eI 16 (.mks 1 [.bool false] (.t 15))::Qjh) [1,4] Q0x
def Q0z:SC:=.seq (sR (tJ 9 1 1::aJ 10 Qba [.t 9]::Qjg) [1,3,11] Q4j) Q0y
def Q00:SC:=sR [fI 8 (.bsl 1 []),mJ 3 8] [1,3] Q0z
def Qadm:SC:=sR [vJ 1 0,fI 2 (.mv (.k (.c (.sl true 1 []))))] [1] Q00
def Qg1:List RS:=[.tmp 2]
theorem Qabi:mFn prog Qf2 1 74 Qadm Qg1=true:=by kernel_rfl
def Ql2:List Item:=[fB 3 false]
def Ql3:List Item:=[oJ 7 6]
def Ql4:List Item:=[fB 3 false]
def Qabn:SC:=cT 7 (sR (fI 8 (.bld [.sl true 3 []] [])::sJ 1 2 8::Ql4) [2,3] .ret) .skip
def Ql5:List Item:=[sJ 1 4 10]
def Ql6:List Item:=eI 4 (.alloc [.sl true 1 []])::Ql5
def Ql7:List Item:=[fB 3 true]
def Ql8:List Item:=fI 14 (.bld [.sl true 3 []] [(0,1,.t 13)])::sJ 1 2 14::Ql7
def Qabo:SC:=sR (lJ 11 4::fI 12 (.mkf Qby [.t 1,.t 4])::aJ 13 Qct [.t 11,.t 12]::Ql8) [2,3] .ret
def Qabp:SC:=sR (tJ 9 1 1::aJ 10 Qc2 [.t 9]::Ql6) [1,2,4] Qabo
def Q5y:SC:=.seq (sR (tJ 5 1 1::aJ 6 Qeu [.t 5]::Ql3) [1,2,7] Qabn) Qabp
def Qamn:SC:=sR (vJ 1 0::eI 2 (.alloc [.sl true 3 []])::Ql2) [1,2] Q5y
def Qkz:List RS:=[.cell 2 1 true,.tmp 3]
theorem Qal5:mFn prog Qet 1 15 Qamn Qkz=true:=by kernel_rfl
def Qg8:List Item:=[sJ 3 5 14]
def Qg9:List Item:=eI 5 (.alloc [.int .i64 0,.int .i64 0,.sl true 5 []])::Qg8
def Qha:List Item:=[sJ 5 7 21]
def Qhb:List Item:=[hJ 36 35,iJ 46 4 36 37,fJ 47 3 46,sJ 1 47 45]
def Qzq:SC:=cT 34 (.dreg 14 [0,1,2,3,4,5,6,7,8,9,10,1,11,12,13] ( fJ 35 1 7::lJ 36 35::mJ 37 8::lJ 38 2::fJ 39 1 7::lJ 40 39::mJ 41 8::iJ 42 4 40 41::fJ 43 3 42::lJ 44 43::aJ 45 Qn4 [.t 38,.t 44]::Qhb) [2,4,5,7,16,17,18,24,25]) .skip
def Qzr:SC:=sR [fJ 28 1 7,lJ 29 28,mJ 30 8,iJ 31 4 29 30,fJ 32 0 31,lJ 33 32,cJ 34 .eql 33 14] [2,4,5,7,8,16,17,18,24,25,34] Qzq
def Qzs:SC:=.reg [cJ 48 .add 25 1,mJ 25 48] [2,4,5,7,16,17,18,24,25]
def Qzt:SC:=.seq (.block 3 (sR [mJ 27 25,mJ 8 27] [2,4,5,7,8,16,17,18,24,25] Qzr)) Qzs
def Qwr:SC:=sR [bJ 26 .lss 25 24] [2,4,5,7,16,17,18,24,25,26] (cX 26 2 Qzt)
def Qzu:SC:=sR [fJ 22 1 7,lJ 23 22,nJ 24 23,zJ 25 0] [2,4,5,7,16,17,18,24,25] (bL 2 Qwr)
def Qwm:SC:=.reg [cJ 49 .add 18 1,mJ 18 49] [2,4,5,16,17,18]
def Qwn:SC:=.seq (.block 1 (sR (iJ 20 5 16 18::tJ 21 5 20::eI 7 (.alloc [.sl true 2 [],.sl true 4 [],.int .i64 0,.int .i64 0,.sl true 1 []])::Qha) [2,4,5,7,16,17,18] Qzu)) Qwm
def Qsz:SC:=sR [bJ 19 .lss 18 17] [2,4,5,16,17,18,19] (cX 19 0 Qwn)
def Qwo:SC:=sR [tJ 50 3 5,sJ 3 4 50] [4] .ret
def Qwp:SC:=.seq (sR [fJ 15 2 5,lJ 16 15,nJ 17 16,zJ 18 0] [2,4,5,16,17,18] (bL 0 Qsz)) Qwo
def Qwq:SC:=sR (fJ 9 0 1::lJ 10 9::mJ 11 0::iJ 12 3 10 11::tJ 13 3 12::aJ 14 Qh9 [.t 13]::Qg9) [2,4,5] Qwp
def Q5z:SC:=sR [eI 4 (.alloc [.int .i64 0,.int .i64 0,.sl true 5 []])] [0,1,2,4] Qwq
def Qlu:List RS:=[.cell 4 3 true]
theorem Q5n:mFn prog Qby 3 51 Q5z Qlu=true:=by kernel_rfl
def Ql9:List Item:=[mJ 4 9]
def Qabq:SC:=sR (fJ 5 0 2::lJ 6 5::fJ 7 0 3::lJ 8 7::eI 9 (.call Qdh [.t 6,.t 8,.k (.c (.fn Qdm []))])::Ql9) [4] .ret
def Qamu:SC:=sR [vJ 2 0,vJ 3 1,fB 4 false] [2,3] Qabq
def Qxo:List RS:=[.tmp 4]
theorem Qal6:mFn prog Qh8 2 10 Qamu Qxo=true:=by kernel_rfl
def Qe7:List Item:=[mJ 5 19]
def Qe8:List Item:=fI 18 (.bsl 3 [.t 17])::xJ 19 3 14 18::Qe7
def Qqt:SC:=.reg (mJ 14 5::mJ 15 1::mJ 16 7::eI 17 (.callv (.t 15) [.t 16])::Qe8) [1,5,8,9,10]
def Qqu:SC:=.reg [cJ 20 .add 10 1,mJ 10 20] [1,5,8,9,10]
def Qqv:SC:=.seq (.block 1 (sR [iJ 12 1 8 10,lJ 13 12,mJ 7 13] [1,5,7,8,9,10] Qqt)) Qqu
def Qoe:SC:=sR [bJ 11 .lss 10 9] [1,5,8,9,10,11] (cX 11 0 Qqv)
def Qqw:SC:=sR [mJ 21 5,mJ 4 21] [4] .ret
def Qqx:SC:=.seq (sR [mJ 8 0,nJ 9 8,zJ 10 0] [1,5,8,9,10] (bL 0 Qoe)) Qqw
def Qqy:SC:=sR [fI 5 (.mv (.k (.c (.sl true 3 []))))] [0,1,5] Qqx
def Qwt:SC:=sR [fI 4 (.mv (.k (.c (.sl true 3 []))))] [0,1] Qqy
def Qg5:List RS:=[.tmp 4]
theorem Qwi:mFn prog Qct 2 22 Qwt Qg5=true:=by kernel_rfl
def Qml:List Item:=[pF 37 31 36,mJ 4 37]
def Qmm:List Item:=pF 30 24 29::mJ 31 30::gTf 32 31 1 2::gTl 33 31 32::gTf 34 31 1 3::gTl 35 31 34::.e (some 36) (some (31,true)) (.call Qd3 [.t 33,.t 35,.k (.c (.fn Qev []))])::Qml
def Qmn:List Item:=pF 23 17 22::mJ 24 23::gTf 25 24 0 2::gTl 26 24 25::gTf 27 24 0 3::gTl 28 24 27::.e (some 29) (some (24,true)) (.call Qd4 [.t 26,.t 28,.k (.c (.fn Qew []))])::Qmm
def Qach:SC:=sR (fJ 5 2 2::lJ 6 5::fJ 7 2 3::lJ 8 7::bJ 9 .eql 6 8::mJ 10 9::gTf 11 10 3 2::gTl 12 10 11::gTf 13 10 3 3::gTl 14 10 13::gT 15 10 (.bin 0 .eql (.t 12) (.t 14))::pF 16 10 15::mJ 17 16::gTf 18 17 4 2::gTl 19 17 18::gTf 20 17 4 3::gTl 21 17 20::.e (some 22) (some (17,true)) (.call Qij [.t 19,.t 21])::Qmn) [4] .ret
def Qanp:SC:=sR [vJ 2 0,vJ 3 1,fB 4 false] [2,3] Qach
def Qxv:List RS:=[.tmp 4]
theorem Qamf:mFn prog Qcu 2 38 Qanp Qxv=true:=by kernel_rfl
def Qo6:List Item:=[pF 23 17 22,mJ 4 23]
def Qag3:SC:=sR (fJ 5 0 2::lJ 6 5::fJ 7 0 3::lJ 8 7::bJ 9 .eql 6 8::mJ 10 9::gTf 11 10 1 2::gTl 12 10 11::gTf 13 10 1 3::gTl 14 10 13::gT 15 10 (.bin 0 .eql (.t 12) (.t 14))::pF 16 10 15::mJ 17 16::gTf 18 17 2 2::gTl 19 17 18::gTf 20 17 2 3::gTl 21 17 20::.e (some 22) (some (17,true)) (.call Qcv [.t 19,.t 21,.k (.c (.fn Qcu []))])::Qo6) [4] .ret
def Qas1:SC:=sR [vJ 2 0,vJ 3 1,fB 4 false] [2,3] Qag3
def Q1y:List RS:=[.tmp 4]
theorem Qar4:mFn prog Qdm 2 24 Qas1 Q1y=true:=by kernel_rfl
def Qtm:List Item:=[pF 30 24 29,mJ 4 30]
def Qanq:SC:=sR (fJ 5 0 2::lJ 6 5::fJ 7 0 3::lJ 8 7::bJ 9 .eql 6 8::mJ 10 9::gTf 11 10 1 2::gTl 12 10 11::gTf 13 10 1 3::gTl 14 10 13::gT 15 10 (.bin 0 .eql (.t 12) (.t 14))::pF 16 10 15::mJ 17 16::gTf 18 17 3 2::gTl 19 17 18::gTf 20 17 3 3::gTl 21 17 20::gT 22 17 (.bin 0 .eql (.t 19) (.t 21))::pF 23 17 22::mJ 24 23::gTf 25 24 2 2::gTl 26 24 25::gTf 27 24 2 3::gTl 28 24 27::.e (some 29) (some (24,true)) (.call Qij [.t 26,.t 28])::Qtm) [4] .ret
def Qaxx:SC:=sR [vJ 2 0,vJ 3 1,fB 4 false] [2,3] Qanq
def Q74:List RS:=[.tmp 4]
theorem Qawr:mFn prog Qev 2 31 Qaxx Q74=true:=by kernel_rfl
def Qtn:List Item:=[pF 16 10 15,mJ 4 16]
def Qanr:SC:=sR (fJ 5 0 2::lJ 6 5::fJ 7 0 3::lJ 8 7::bJ 9 .eql 6 8::mJ 10 9::gTf 11 10 1 2::gTl 12 10 11::gTf 13 10 1 3::gTl 14 10 13::.e (some 15) (some (10,true)) (.call Qij [.t 12,.t 14])::Qtn) [4] .ret
def Qaxy:SC:=sR [vJ 2 0,vJ 3 1,fB 4 false] [2,3] Qanr
def Q75:List RS:=[.tmp 4]
theorem Qaws:mFn prog Qew 2 17 Qaxy Q75=true:=by kernel_rfl
def Qpu:List Item:=[gF 45 39 (.not (.t 44)),pT 46 39 45]
def Qajt:SC:=cT 46 (sR [fB 4 false] [4] .ret) .skip
def Qpv:List Item:=[gF 81 67 (.not (.t 80)),pT 82 67 81]
def Qaju:SC:=cT 82 (sR [fB 4 false] [4] .ret) .skip
def Qajv:SC:=.reg [mJ 52 5,cJ 53 .add 52 1,mJ 5 53] [2,3,5]
def Qajw:SC:=.seq (.block 1 (.seq (.dreg 29 [0,1,2,3,4,5,6,7,8,9,10,11,12,13,14,15,16,17,18,19,20,21,22,23,24,25,26,27,28] ( fJ 54 0 2::lJ 55 54::mJ 56 5::iJ 57 2 55 56::fJ 58 0 57::lJ 59 58::fJ 60 0 3::lJ 61 60::mJ 62 5::iJ 63 2 61 62::fJ 64 0 63::lJ 65 64::bJ 66 .neq 59 65::mJ 67 66::gFf 68 67 0 2::gFl 69 67 68::gFm 70 67 5::gF 71 67 (.iad 2 (.t 69) (.t 70))::gFf 72 67 1 71::gFl 73 67 72::gFf 74 67 0 3::gFl 75 67 74::gFm 76 67 5::gF 77 67 (.iad 2 (.t 75) (.t 76))::gFf 78 67 1 77::gFl 79 67 78::.e (some 80) (some (67,false)) (.call Qsb [.t 73,.t 79])::Qpv) [2,3,5,82]) Qaju)) Qajv
def Qadd:SC:=.seq (sR [mJ 47 5,fJ 48 0 2,lJ 49 48,nJ 50 49,bJ 51 .lss 47 50] [2,3,5,51] (cT 51 .skip (.exit 0))) Qajw
def Qpw:List Item:=[sJ 4 7 94]
def Qpx:List Item:=[sJ 4 8 99]
def Qpy:List Item:=[gF 125 119 (.not (.t 124)),pT 126 119 125]
def Qac4:SC:=cT 126 (sR [fB 4 false] [4] .ret) .skip
def Qac5:SC:=sR (fJ 100 0 7::lJ 101 100::fJ 102 0 8::lJ 103 102::bJ 104 .neq 101 103::mJ 105 104::gFf 106 105 1 7::gFl 107 105 106::gFf 108 105 1 8::gFl 109 105 108::gF 110 105 (.bin 0 .neq (.t 107) (.t 109))::pT 111 105 110::mJ 112 111::gFf 113 112 3 7::gFl 114 112 113::gFf 115 112 3 8::gFl 116 112 115::gF 117 112 (.bin 0 .neq (.t 114) (.t 116))::pT 118 112 117::mJ 119 118::gFf 120 119 2 7::gFl 121 119 120::gFf 122 119 2 8::gFl 123 119 122::.e (some 124) (some (119,false)) (.call Qsb [.t 121,.t 123])::Qpy) [2,3,6,126] Qac4
def Qac6:SC:=sR (fJ 95 1 3::lJ 96 95::mJ 97 6::iJ 98 4 96 97::tJ 99 4 98::eI 8 (.alloc [.int .i64 0,.int .i64 0,.sl true 1 [],.int .i64 0])::Qpx) [2,3,6,7,8] Qac5
def Qac7:SC:=.reg [mJ 88 6,cJ 89 .add 88 1,mJ 6 89] [2,3,6]
def Qac8:SC:=.seq (.block 3 (sR (fJ 90 1 2::lJ 91 90::mJ 92 6::iJ 93 4 91 92::tJ 94 4 93::eI 7 (.alloc [.int .i64 0,.int .i64 0,.sl true 1 [],.int .i64 0])::Qpw) [2,3,6,7] Qac6)) Qac7
def Q6u:SC:=.seq (sR [mJ 83 6,fJ 84 1 2,lJ 85 84,nJ 86 85,bJ 87 .lss 83 86] [2,3,6,87] (cT 87 .skip (.exit 2))) Qac8
def Qac9:SC:=sR [fB 4 true] [4] .ret
def Qada:SC:=.seq (sR [zJ 6 0] [2,3,6] (bL 2 Q6u)) Qac9
def Qadb:SC:=.seq (sR [zJ 5 0] [2,3,5] (bL 0 Qadd)) Qada
def Qadc:SC:=.seq (sR (fJ 9 0 2::lJ 10 9::nJ 11 10::fJ 12 0 3::lJ 13 12::nJ 14 13::bJ 15 .neq 11 14::mJ 16 15::gFf 17 16 1 2::gFl 18 16 17::gF 19 16 (.len (.t 18))::gFf 20 16 1 3::gFl 21 16 20::gF 22 16 (.len (.t 21))::gF 23 16 (.bin 0 .neq (.t 19) (.t 22))::pT 24 16 23::mJ 25 24::gFf 26 25 2 2::gFl 27 25 26::gFf 28 25 2 3::gFl 29 25 28::gF 30 25 (.bin 0 .neq (.t 27) (.t 29))::pT 31 25 30::mJ 32 31::gFf 33 32 3 2::gFl 34 32 33::gFf 35 32 3 3::gFl 36 32 35::gF 37 32 (.bin 0 .neq (.t 34) (.t 36))::pT 38 32 37::mJ 39 38::gFf 40 39 4 2::gFl 41 39 40::gFf 42 39 4 3::gFl 43 39 42::.e (some 44) (some (39,false)) (.call Qsb [.t 41,.t 43])::Qpu) [2,3,46] Qajt) Qadb
def Qau0:SC:=sR [vJ 2 0,vJ 3 1,fB 4 false] [2,3] Qadc
def Q16:List RS:=[.tmp 4]
theorem Qar9:mFn prog Qkt 2 127 Qau0 Q16=true:=by kernel_rfl
def Qaos:SC:=cT 26 (sR [fB 4 false] [4] .ret) .skip
def Quo:List Item:=[oJ 45 44]
def Qaot:SC:=cT 45 (sR [fB 4 false] [4] .ret) .skip
def Qaou:SC:=.reg [mJ 32 5,cJ 33 .add 32 1,mJ 5 33] [2,3,5]
def Qaov:SC:=.seq (.block 1 (.seq (.dreg 12 [0,1,2,3,4,5,6,7,8,9,10,11] ( fJ 34 2 2::lJ 35 34::mJ 36 5::iJ 37 5 35 36::tJ 38 5 37::fJ 39 2 3::lJ 40 39::mJ 41 5::iJ 42 5 40 41::tJ 43 5 42::aJ 44 Qkt [.t 38,.t 43]::Quo) [2,3,5,45]) Qaot)) Qaou
def Qajx:SC:=.seq (sR [mJ 27 5,fJ 28 2 2,lJ 29 28,nJ 30 29,bJ 31 .lss 27 30] [2,3,5,31] (cT 31 .skip (.exit 0))) Qaov
def Qaow:SC:=sR [fB 4 true] [4] .ret
def Qaox:SC:=.seq (sR [zJ 5 0] [2,3,5] (bL 0 Qajx)) Qaow
def Qaoy:SC:=.seq (sR [fJ 6 0 2,lJ 7 6,fJ 8 0 3,lJ 9 8,bJ 10 .neq 7 9,mJ 11 10,gFf 12 11 1 2,gFl 13 11 12,gFf 14 11 1 3,gFl 15 11 14,gF 16 11 (.bin 0 .neq (.t 13) (.t 15)),pT 17 11 16,mJ 18 17,gFf 19 18 2 2,gFl 20 18 19,gF 21 18 (.len (.t 20)),gFf 22 18 2 3,gFl 23 18 22,gF 24 18 (.len (.t 23)),gF 25 18 (.bin 0 .neq (.t 21) (.t 24)),pT 26 18 25] [2,3,26] Qaos) Qaox
def Qa29:SC:=sR [vJ 2 0,vJ 3 1,fB 4 false] [2,3] Qaoy
def Q79:List RS:=[.tmp 4]
theorem Qawz:mFn prog Qn1 2 46 Qa29 Q79=true:=by kernel_rfl
def Qbf6:SC:=cT 10 (sR [fB 4 false] [4] .ret) .skip
def Qbf7:SC:=cT 25 (sR [fB 4 false] [4] .ret) .skip
def Qbf8:SC:=.reg [mJ 15 5,cJ 16 .add 15 1,mJ 5 16] [0,1,5]
def Qbf9:SC:=.seq (.block 1 (.seq (.dreg 9 [0,1,2,3,4,5,6,7,8] ( mJ 17 0::mJ 18 5::iJ 19 1 17 18::lJ 20 19::mJ 21 1::mJ 22 5::iJ 23 1 21 22::lJ 24 23::bJ 25 .neq 20 24::[]) [0,1,5,25]) Qbf7)) Qbf8
def Qa9q:SC:=.seq (sR [mJ 11 5,mJ 12 0,nJ 13 12,bJ 14 .lss 11 13] [0,1,5,14] (cT 14 .skip (.exit 0))) Qbf9
def Qbga:SC:=sR [fB 4 true] [4] .ret
def Qbgb:SC:=.seq (sR [zJ 5 0] [0,1,5] (bL 0 Qa9q)) Qbga
def Qbgc:SC:=.seq (sR [mJ 6 0,nJ 7 6,mJ 8 1,nJ 9 8,bJ 10 .neq 7 9] [0,1,10] Qbf6) Qbgb
def Qbqn:SC:=sR [fB 4 false] [0,1] Qbgc
def Qbc6:List RS:=[.tmp 4]
theorem Qbpf:mFn prog Qsb 2 26 Qbqn Qbc6=true:=by kernel_rfl
def Qok:SC:=cT 12 (sR [fB 2 true] [2] .ret) .skip
def Qeh:List Item:=[sJ 1 3 14]
def Qei:List Item:=eI 3 (.alloc [.sl true 3 []])::Qeh
def Qej:List Item:=[mJ 5 19]
def Qek:List Item:=sJ 1 4 18::Qej
def Qel:List Item:=mJ 15 17::fI 18 (.ext (.t 15) 0)::fI 19 (.ext (.t 15) 1)::eI 4 (.alloc [.sl true 3 []])::Qek
def Qem:List Item:=[mJ 7 24]
def Qen:List Item:=sJ 1 6 23::Qem
def Qeo:List Item:=mJ 20 22::fI 23 (.ext (.t 20) 0)::fI 24 (.ext (.t 20) 1)::eI 6 (.alloc [.sl true 3 []])::Qen
def Qcb:List Item:=[gF 32 28 (.not (.t 31)),pT 33 28 32,mJ 34 33,gFm 35 34 5,gF 36 34 (.not (.t 35)),pT 37 34 36]
def Qdt:List Item:=[pF 45 41 44,mJ 2 45]
def Qmu:SC:=cT 37 (sR (mJ 38 5::mJ 39 7::fI 40 (.bin 1 .eql (.t 38) (.t 39))::mJ 41 40::gT 42 41 (.ld 1 true (.t 4))::gT 43 41 (.ld 1 true (.t 6))::.e (some 44) (some (41,true)) (.call Qez [.t 42,.t 43])::Qdt) [2] .ret) .skip
def Qdu:List Item:=[mJ 9 50]
def Qdv:List Item:=sJ 1 8 49::Qdu
def Qdw:List Item:=mJ 46 48::fI 49 (.ext (.t 46) 0)::fI 50 (.ext (.t 46) 1)::eI 8 (.alloc [.sl true 3 []])::Qdv
def Qdx:List Item:=[.chk 68 (some (66,true)) (.ld 1 false (.t 67)),.chk 69 (some (66,true)) (.len (.t 68)),gT 72 66 (.len (.t 71)),gT 73 66 (.bin 0 .eql (.t 69) (.t 72)),pF 74 66 73,mJ 2 74]
def Qdy:List Item:=.chk 62 (some (57,true)) (.ld 1 false (.t 61))::.chk 63 (some (57,true)) (.len (.t 62))::gT 60 57 (.len (.t 59))::gT 64 57 (.bin 0 .eql (.t 60) (.t 63))::pF 65 57 64::mJ 66 65::gTf 67 66 0 4::gTl 68 66 67::gT 69 66 (.len (.t 68))::gT 70 66 (.ld 1 true (.t 3))::.e (some 71) (some (66,true)) (.call Qc1 [.t 70])::Qdx
def Qdz:List Item:=pF 56 52 55::mJ 57 56::gT 58 57 (.ld 1 true (.t 4))::gTf 61 57 0 4::gTl 62 57 61::gT 63 57 (.len (.t 62))::.e (some 59) (some (57,true)) (.call Qc1 [.t 58])::Qdy
def Qmv:SC:=.seq (.dreg 25 [0,1,2,3,4,5,6,7,10,11,12,8,11,12,9,13,14,15,16,17,18,19,20,17,18,21,22,23,24] ( mJ 51 9::mJ 52 51::gT 53 52 (.ld 1 true (.t 8))::gT 54 52 (.ld 1 true (.t 4))::.e (some 55) (some (52,true)) (.call Qh8 [.t 53,.t 54])::Qdz) [2]) .ret
def Qmw:SC:=sR (tJ 47 1 4::aJ 48 Qet [.t 47]::Qdw) [3,4,8,9] Qmv
def Qmx:SC:=.seq (sR (mJ 25 5::mJ 26 7::fI 27 (.bin 1 .neq (.t 25) (.t 26))::mJ 28 27::gF 29 28 (.ld 1 true (.t 4))::gF 30 28 (.ld 1 true (.t 6))::.e (some 31) (some (28,false)) (.call Qez [.t 29,.t 30])::Qcb) [3,4,5,6,7,37] Qmu) Qmw
def Qmy:SC:=sR (tJ 21 1 3::aJ 22 Qim [.t 21]::Qeo) [3,4,5,6,7] Qmx
def Qmz:SC:=sR (tJ 16 1 3::aJ 17 Qet [.t 16]::Qel) [3,4,5] Qmy
def Qm0:SC:=sR (mJ 13 0::aJ 14 Qd6 [.t 13]::Qei) [3] Qmz
def Qm1:SC:=.seq (sR [mJ 10 0,nJ 11 10,cJ 12 .gtr 11 1048576] [0,12] Qok) Qm0
def Qu3:SC:=sR [fB 2 false] [0] Qm1
def Qcx:List RS:=[.tmp 2]
theorem Qsn:mFn prog Qfh 1 75 Qu3 Qcx=true:=by kernel_rfl
def Qa3t:SC:=cT 10 (sR [fB 4 false] [4] .ret) .skip
def Qa3u:SC:=cT 24 (sR [fB 4 false] [4] .ret) .skip
def Qa3v:SC:=.seq (.dreg 9 [0,1,2,3,4,5,6,7,8] ( mJ 16 0::mJ 17 5::iJ 18 1 16 17::lJ 19 18::mJ 20 1::mJ 21 5::iJ 22 1 20 21::lJ 23 22::bJ 24 .neq 19 23::[]) [0,1,12,13,24]) Qa3u
def Qa3w:SC:=.reg [cJ 25 .add 13 1,mJ 13 25] [0,1,12,13]
def Qa3x:SC:=.seq (.block 1 (sR [mJ 15 13,mJ 5 15] [0,1,5,12,13] Qa3v)) Qa3w
def Qavf:SC:=sR [bJ 14 .lss 13 12] [0,1,12,13,14] (cX 14 0 Qa3x)
def Qa3y:SC:=sR [fB 4 true] [4] .ret
def Qa3z:SC:=.seq (sR [mJ 11 0,nJ 12 11,zJ 13 0] [0,1,12,13] (bL 0 Qavf)) Qa3y
def Qa30:SC:=.seq (sR [mJ 6 0,nJ 7 6,mJ 8 1,nJ 9 8,bJ 10 .neq 7 9] [0,1,10] Qa3t) Qa3z
def Qbhh:SC:=sR [fB 4 false] [0,1] Qa30
def Qaqt:List RS:=[.tmp 4]
theorem Qbew:mFn prog Qij 2 26 Qbhh Qaqt=true:=by kernel_rfl
def Qq5:SC:=cT 14 (sR [fB 6 false] [6] .ret) .skip
def Qfb:List Item:=[mJ 7 19,sJ 5 8 21]
def Qfc:List Item:=[sJ 5 9 25]
def Qfd:List Item:=[oJ 30 29]
def Qq6:SC:=cT 30 (sR [fB 6 false] [6] .ret) .skip
def Qq7:SC:=sR (mJ 26 2::tJ 27 5 8::tJ 28 5 9::eI 29 (.callv (.t 26) [.t 27,.t 28])::Qfd) [1,2,15,16,17,30] Qq6
def Qq8:SC:=sR (mJ 22 1::mJ 23 7::iJ 24 5 22 23::tJ 25 5 24::eI 9 (.alloc [.sl true 2 [],.sl true 4 [],.int .i64 0,.int .i64 0,.sl true 1 []])::Qfc) [1,2,8,9,15,16,17] Qq7
def Qq9:SC:=.reg [cJ 31 .add 17 1,mJ 17 31] [1,2,15,16,17]
def Qra:SC:=.seq (.block 1 (sR (mJ 19 17::iJ 20 5 15 17::tJ 21 5 20::eI 8 (.alloc [.sl true 2 [],.sl true 4 [],.int .i64 0,.int .i64 0,.sl true 1 []])::Qfb) [1,2,7,8,15,16,17] Qq8)) Qq9
def Qop:SC:=sR [bJ 18 .lss 17 16] [1,2,15,16,17,18] (cX 18 0 Qra)
def Qom:SC:=sR [fB 6 true] [6] .ret
def Qon:SC:=.seq (sR [mJ 15 0,nJ 16 15,zJ 17 0] [1,2,15,16,17] (bL 0 Qop)) Qom
def Qoo:SC:=.seq (sR [mJ 10 0,nJ 11 10,mJ 12 1,nJ 13 12,bJ 14 .neq 11 13] [0,1,2,14] Qq5) Qon
def Qwz:SC:=sR [fB 6 false] [0,1,2] Qoo
def Qg7:List RS:=[.tmp 6]
theorem Qwk:mFn prog Qcv 3 32 Qwz Qg7=true:=by kernel_rfl
def Qu5:SC:=cT 14 (sR [fB 6 false] [6] .ret) .skip
def Qft:List Item:=[mJ 7 19,sJ 3 8 21]
def Qfu:List Item:=[sJ 3 9 25]
def Qfv:List Item:=[oJ 30 29]
def Qu6:SC:=cT 30 (sR [fB 6 false] [6] .ret) .skip
def Qu7:SC:=sR (mJ 26 2::tJ 27 3 8::tJ 28 3 9::eI 29 (.callv (.t 26) [.t 27,.t 28])::Qfv) [1,2,15,16,17,30] Qu6
def Qu8:SC:=sR (mJ 22 1::mJ 23 7::iJ 24 3 22 23::tJ 25 3 24::eI 9 (.alloc [.int .i64 0,.int .i64 0,.sl true 5 []])::Qfu) [1,2,8,9,15,16,17] Qu7
def Qu9:SC:=.reg [cJ 31 .add 17 1,mJ 17 31] [1,2,15,16,17]
def Qva:SC:=.seq (.block 1 (sR (mJ 19 17::iJ 20 3 15 17::tJ 21 3 20::eI 8 (.alloc [.int .i64 0,.int .i64 0,.sl true 5 []])::Qft) [1,2,7,8,15,16,17] Qu8)) Qu9
def Qre:SC:=sR [bJ 18 .lss 17 16] [1,2,15,16,17,18] (cX 18 0 Qva)
def Qrb:SC:=sR [fB 6 true] [6] .ret
def Qrc:SC:=.seq (sR [mJ 15 0,nJ 16 15,zJ 17 0] [1,2,15,16,17] (bL 0 Qre)) Qrb
def Qrd:SC:=.seq (sR [mJ 10 0,nJ 11 10,mJ 12 1,nJ 13 12,bJ 14 .neq 11 13] [0,1,2,14] Qu5) Qrc
def Q0s:SC:=sR [fB 6 false] [0,1,2] Qrd
def Qiv:List RS:=[.tmp 6]
theorem Qzg:mFn prog Qdh 3 32 Q0s Qiv=true:=by kernel_rfl
def Qw0:SC:=cT 14 (sR [fB 6 false] [6] .ret) .skip
def Qgn:List Item:=[mJ 7 19,sJ 4 8 21]
def Qgo:List Item:=[sJ 4 9 25]
def Qgp:List Item:=[oJ 30 29]
def Qw1:SC:=cT 30 (sR [fB 6 false] [6] .ret) .skip
def Qw2:SC:=sR (mJ 26 2::tJ 27 4 8::tJ 28 4 9::eI 29 (.callv (.t 26) [.t 27,.t 28])::Qgp) [1,2,15,16,17,30] Qw1
def Qw3:SC:=sR (mJ 22 1::mJ 23 7::iJ 24 4 22 23::tJ 25 4 24::eI 9 (.alloc [.int .i64 0,.int .i64 0,.sl true 1 [],.int .i64 0])::Qgo) [1,2,8,9,15,16,17] Qw2
def Qw4:SC:=.reg [cJ 31 .add 17 1,mJ 17 31] [1,2,15,16,17]
def Qw5:SC:=.seq (.block 1 (sR (mJ 19 17::iJ 20 4 15 17::tJ 21 4 20::eI 8 (.alloc [.int .i64 0,.int .i64 0,.sl true 1 [],.int .i64 0])::Qgn) [1,2,7,8,15,16,17] Qw3)) Qw4
def Qve:SC:=sR [bJ 18 .lss 17 16] [1,2,15,16,17,18] (cX 18 0 Qw5)
def Qvb:SC:=sR [fB 6 true] [6] .ret
def Qvc:SC:=.seq (sR [mJ 15 0,nJ 16 15,zJ 17 0] [1,2,15,16,17] (bL 0 Qve)) Qvb
def Qvd:SC:=.seq (sR [mJ 10 0,nJ 11 10,mJ 12 1,nJ 13 12,bJ 14 .neq 11 13] [0,1,2,14] Qw0) Qvc
def Q4a:SC:=sR [fB 6 false] [0,1,2] Qvd
def Qj4:List RS:=[.tmp 6]
theorem Q1p:mFn prog Qd3 3 32 Q4a Qj4=true:=by kernel_rfl
def Qw6:SC:=cT 14 (sR [fB 6 false] [6] .ret) .skip
def Qgq:List Item:=[mJ 7 19,sJ 2 8 21]
def Qgr:List Item:=[sJ 2 9 25]
def Qgs:List Item:=[oJ 30 29]
def Qw7:SC:=cT 30 (sR [fB 6 false] [6] .ret) .skip
def Qw8:SC:=sR (mJ 26 2::tJ 27 2 8::tJ 28 2 9::eI 29 (.callv (.t 26) [.t 27,.t 28])::Qgs) [1,2,15,16,17,30] Qw7
def Qw9:SC:=sR (mJ 22 1::mJ 23 7::iJ 24 2 22 23::tJ 25 2 24::eI 9 (.alloc [.int .i64 0,.sl true 1 []])::Qgr) [1,2,8,9,15,16,17] Qw8
def Qxa:SC:=.reg [cJ 31 .add 17 1,mJ 17 31] [1,2,15,16,17]
def Qxb:SC:=.seq (.block 1 (sR (mJ 19 17::iJ 20 2 15 17::tJ 21 2 20::eI 8 (.alloc [.int .i64 0,.sl true 1 []])::Qgq) [1,2,7,8,15,16,17] Qw9)) Qxa
def Qvi:SC:=sR [bJ 18 .lss 17 16] [1,2,15,16,17,18] (cX 18 0 Qxb)
def Qvf:SC:=sR [fB 6 true] [6] .ret
def Qvg:SC:=.seq (sR [mJ 15 0,nJ 16 15,zJ 17 0] [1,2,15,16,17] (bL 0 Qvi)) Qvf
def Qvh:SC:=.seq (sR [mJ 10 0,nJ 11 10,mJ 12 1,nJ 13 12,bJ 14 .neq 11 13] [0,1,2,14] Qw6) Qvg
def Q4b:SC:=sR [fB 6 false] [0,1,2] Qvh
def Qj5:List RS:=[.tmp 6]
theorem Q1q:mFn prog Qd4 3 32 Q4b Qj5=true:=by kernel_rfl
def Qgt:List Item:=[sJ 1 2 5]
def Qgu:List Item:=aJ 5 Q5d [.t 4]::Qgt
def Qxj:SC:=sR (mJ 3 0::aJ 4 Q5g [.t 3]::Qgu) [2] .ret
def Q4p:SC:=sR [eI 2 (.alloc [.sl true 3 []])] [0,2] Qxj
def Qj6:List RS:=[.cell 2 1 true]
theorem Q1s:mFn prog Qd6 1 6 Q4p Qj6=true:=by kernel_rfl
def Qm2:List Item:=[fB 3 false]
def Qm3:List Item:=[oJ 13 12]
def Qm4:List Item:=[fB 3 false]
def Qadn:SC:=cT 13 (sR (fI 14 (.bld [.sl true 3 []] [])::sJ 1 2 14::Qm4) [2,3] .ret) .skip
def Qm5:List Item:=[mJ 4 16]
def Qm6:List Item:=[sJ 1 5 17]
def Qm7:List Item:=[hJ 25 24,.chk 28 none (.iad 1 (.t 26) (.t 27)),hJ 29 28,.chk 30 none (.iad 3 (.t 25) (.t 29)),.chk 31 none (.ld 3 true (.t 30)),sJ 3 7 32]
def Qm8:List Item:=eI 7 (.alloc [.int .i64 0,.int .i64 0,.sl true 5 []])::Qm7
def Qm9:List Item:=[kJ 71 64,fJ 72 3 71,sJ 1 72 70]
def Qado:SC:=cT 63 (.reg (mJ 64 10::mJ 65 4::mJ 66 10::kJ 67 66::fJ 68 3 67::lJ 69 68::aJ 70 Qnv [.t 65,.t 69]::Qm9) [1,2,4,5,6,7,8,9]) .skip
def Q63:SC:=sR [mJ 59 10,kJ 60 59,fJ 61 0 60,lJ 62 61,cJ 63 .eql 62 14] [1,2,4,5,6,7,8,9,10,63] Qado
def Q64:SC:=.reg [mJ 49 9,cJ 50 .add 49 1,mJ 9 50] [1,2,4,5,6,7,8,9]
def Q65:SC:=.seq (.block 5 (sR [fJ 51 2 7,lJ 52 51,mJ 53 8,iJ 54 5 52 53,fJ 55 1 54,lJ 56 55,mJ 57 9,iJ 58 4 56 57,mJ 10 58] [1,2,4,5,6,7,8,9,10] Q63)) Q64
def Q4q:SC:=.seq (sR [mJ 40 9,fJ 41 2 7,lJ 42 41,mJ 43 8,iJ 44 5 42 43,fJ 45 1 44,lJ 46 45,nJ 47 46,bJ 48 .lss 40 47] [1,2,4,5,6,7,8,9,48] (cT 48 .skip (.exit 4))) Q65
def Q66:SC:=.reg [mJ 38 8,cJ 39 .add 38 1,mJ 8 39] [1,2,4,5,6,7,8]
def Q67:SC:=.seq (.block 3 (sR [zJ 9 0] [1,2,4,5,6,7,8,9] (bL 4 Q4q))) Q66
def Q4r:SC:=.seq (sR [mJ 33 8,fJ 34 2 7,lJ 35 34,nJ 36 35,bJ 37 .lss 33 36] [1,2,4,5,6,7,8,37] (cT 37 .skip (.exit 2))) Q67
def Qki:List Item:=[fJ 78 0 5,sJ 1 78 77]
def Q68:SC:=.reg (fJ 73 0 5::lJ 74 73::tJ 75 3 7::fI 76 (.bsl 3 [.t 75])::xJ 77 3 74 76::Qki) [1,2,4,5,6]
def Q69:SC:=.seq (sR [zJ 8 0] [1,2,4,5,6,7,8] (bL 2 Q4r)) Q68
def Q7a:SC:=.reg [mJ 22 6,cJ 23 .add 22 1,mJ 6 23] [1,2,4,5,6]
def Q7b:SC:=.seq (.block 1 (.seq (.dreg 9 [0,1,2,3,4,5,6,7,8,9,1,4,5,6,7,10] ( fJ 24 0 1::lJ 25 24::mJ 26 4::mJ 27 6::iJ 28 1 26 27::lJ 29 28::iJ 30 3 25 29::tJ 31 3 30::aJ 32 Qih [.t 31]::Qm8) [1,2,4,5,6,7]) Q69)) Q7a
def Q4s:SC:=.seq (sR [mJ 18 6,mJ 19 4,nJ 20 19,bJ 21 .lss 18 20] [1,2,4,5,6,21] (cT 21 .skip (.exit 0))) Q7b
def Qkj:List Item:=[fB 3 true]
def Q7c:SC:=sR (tJ 79 1 5::sJ 1 2 79::Qkj) [2,3] .ret
def Q7d:SC:=.seq (sR [zJ 6 0] [1,2,4,5,6] (bL 0 Q4s)) Q7c
def Q7e:SC:=sR (fI 17 (.bld [.sl true 3 []] [])::eI 5 (.alloc [.sl true 3 []])::Qm6) [1,2,4,5] Q7d
def Q7f:SC:=sR (tJ 15 1 1::aJ 16 Qf2 [.t 15]::Qm5) [1,2,4] Q7e
def Q7g:SC:=.seq (sR (tJ 11 1 1::aJ 12 Qba [.t 11]::Qm3) [1,2,13] Qadn) Q7f
def Qaps:SC:=sR (vJ 1 0::eI 2 (.alloc [.sl true 3 []])::Qm2) [1,2] Q7g
def Qk3:List RS:=[.cell 2 1 true,.tmp 3]
theorem Qami:mFn prog Qim 1 80 Qaps Qk3=true:=by kernel_rfl
def Qadt:SC:=cT 12 (sR [fB 4 false] [4] .ret) .skip
def Qne:List Item:=[oJ 31 30]
def Qadu:SC:=cT 31 (sR [fB 4 false] [4] .ret) .skip
def Qadv:SC:=.reg [mJ 18 5,cJ 19 .add 18 1,mJ 5 19] [2,3,5]
def Qadw:SC:=.seq (.block 1 (.seq (.dreg 12 [0,1,2,3,4,5,6,7,8,9,10,11] ( fJ 20 0 2::lJ 21 20::mJ 22 5::iJ 23 3 21 22::tJ 24 3 23::fJ 25 0 3::lJ 26 25::mJ 27 5::iJ 28 3 26 27::tJ 29 3 28::aJ 30 Qn1 [.t 24,.t 29]::Qne) [2,3,5,31]) Qadu)) Qadv
def Q7i:SC:=.seq (sR [mJ 13 5,fJ 14 0 2,lJ 15 14,nJ 16 15,bJ 17 .lss 13 16] [2,3,5,17] (cT 17 .skip (.exit 0))) Qadw
def Qadx:SC:=sR [fB 4 true] [4] .ret
def Qady:SC:=.seq (sR [zJ 5 0] [2,3,5] (bL 0 Q7i)) Qadx
def Qadz:SC:=.seq (sR [fJ 6 0 2,lJ 7 6,nJ 8 7,fJ 9 0 3,lJ 10 9,nJ 11 10,bJ 12 .neq 8 11] [2,3,12] Qadt) Qady
def Qapv:SC:=sR [vJ 2 0,vJ 3 1,fB 4 false] [2,3] Qadz
def Qxy:List RS:=[.tmp 4]
theorem Qaml:mFn prog Qez 2 32 Qapv Qxy=true:=by kernel_rfl
end Go.AE.Y
namespace Go.AE.Y
attribute [local go_sem] cond_true cond_false Bool.not_true Bool.not_false
attribute [local instance] Classical.propDecidable
open Go.Proofs.Tryz
variable {H H0:Heap}{K:V→Heap→Prop}{E B Lg:List (Nat×Obj)}{q:CodeD}{cs:List CodeD}
theorem Qbcj (ho:q.ok):∀n,n≤q.blocks.length→(caTo q n).length≤n * 1200
 |0,_=>by simp[caTo]
 |n+1,h=>by
  have h1:=Qbcj ho n (by omega);have h2:=Qaek (q:=q) (b:=n) (j:=(Qbt q n).ins.length);have h3:=ho.il n (by omega);rw[Qbi (by omega)]at h2;rw[Qr2,Qbi (by omega),Jg];omega
theorem Qbrm (ho:q.ok):(caL q).length≤1000000:=by
 have:=Qbcj ho _ (Jq _);have:=ho.b1;rw[caL];omega
theorem Qbs7 (h:Qa3 cs=true){k:Nat}(hk:k<cs.length):Qe ((caL cs[k]).map fun p=>(Q1l cs[k] p).n)=Q1 (kcN (Qr3 cs k)):=by
 rw[Qh5 hk,Q1,kcN,Jaf];congr 1;refine Jy fun p hp=>?_;obtain⟨b,i,rfl,hb,hi,ho,he⟩:=Qav2 hp;obtain⟨n,hn,_⟩:=Qael h hk hb hi ho;show _=Int.ofNat (Q1l cs[k] ((b:Int),(i:Int))).n.toNat;rw[he,hn];rfl
set_option maxHeartbeats 1000000 in
theorem Qbuu {x4:Nat}{p:Plc}(hx4:H x4=.st [.int .i64 q.params,.int .i64 q.regs,.sl false 5 (Qm q.blocks)])(hp:p∈caL q)(hK:K (.c (.int .i64 (Q1l q p).n)) H) :
  Qu prog Qa9 [.c (.sl true 1 [[.int .i64 p.1],[.int .i64 p.2]]),.c (.ptr x4 0)] H K:=by
 obtain⟨b,i,rfl,hb,hi,ho,he⟩:=Qav2 hp;obtain⟨y,hy⟩:∃y,q.blocks[b]=y:=⟨_,rfl⟩;simp only[hy]at hi ho he;obtain⟨x,hx⟩:∃x,y.ins[i]=x:=⟨_,rfl⟩;rw[hx]at he;rw[he]at hK;have tn0:Int.toNat 0=0:=rfl;have tn1:Int.toNat 1=1:=rfl;have h01:((0:Int)≤1)=True:=by simp
 have l01:(0<0+1+1)=True:=by simp
 have l11:(1<0+1+1)=True:=by simp
 refine Qb Qam Qqh ?_;refine Qa ?_;simp only[go_sem];refine Qak ?_;simp only[go_sem,hx4,hb,Qj,Q9 _ _ hb,BlkD.cells,hy,hi,Qaa,Qay _ _ hi,InsD.cells,hx,tn0,tn1,h01,l01,l11,Ja8,Jx,Jw];refine Qk ?_;simp only[go_sem,Q7,Qad,Qfj,Ja,forall_eq,RS.op];exact hK
set_option maxHeartbeats 4000000 in
theorem Qbkk {x4:Nat}{ps:List Plc}{f:Bool}(hx4:H x4=.st [.int .i64 q.params,.int .i64 q.regs,.sl false 5 (Qm q.blocks)])(hps:∀p∈ps,p∈caL q)(hl:ps.length≤1000000)
  (hK:∀(H':Heap),Upd H H' []→K (.c (.sl false 1 (Qe (ps.map fun p=>(Q1l q p).n)))) H') :
  Qu prog Qcs [.c (.sl f 1 (Qca ps)),.c (.fn Qa9 [.ptr x4 0])] H K:=by
 refine Qt ?_;refine Qb Qam Qwh ?_;have kn:=Kn.start1 hx4 (by nofun);refine Qa ?_;simp only[go_sem];refine Qa ?_;simp only[go_sem];refine Q5 ?_;refine Qa ?_;simp only[go_sem,Qdo];try intro _
 refine Qh (Qc (Qv (fun m e1 H1=>∃(i:Nat) (t:C) (Lg:List (Nat×Obj)),m=ps.length-i∧i≤ps.length∧Gr Lg 1 (Qe ((ps.take i).map fun p=>(Q1l q p).n)) t∧Kn H H1 [(x4,.st [.int .i64 q.params,.int .i64 q.regs,.sl false 5 (Qm q.blocks)])] ([]++Lg)∧
  lk 1 e1=.c (.fn Qa9 [.ptr x4 0])∧lk 5 e1=.c t∧lk 8 e1=.c (.sl f 1 (Qca ps))∧lk 9 e1=.c (.int .i64 ps.length)∧lk 10 e1=.c (.int .i64 i)) ps.length ?_ ?_))
 ·exact⟨0,_,[],by omega,by omega,.nil 1,kn,rfl,rfl,rfl,rfl,rfl⟩
 ·clear kn;rintro m e1 H1 ⟨i,t,Lg,hm,hi,hgr,kn,l1,l5,l8,l9,l10⟩;have htw:=hgr.isOw;refine Qa ?_;simp only[go_sem,l1,l5,l8,l9,l10,htw];refine Qh (Qd rfl ?_ ?_)
  ·intro hc;have hlt:i<ps.length:=by simpa using hc
   obtain⟨p,hp⟩:∃p,ps[i]=p:=⟨_,rfl⟩;have hpm:p∈caL q:=hps p (by rw[←hp];exact Jd hlt);refine Qi ?_;try simp only[go_sem]
   refine Qh (Qc ?_);refine Qa ?_;simp only[go_sem,l1,l5,l8,l9,l10,htw,hlt,Qdo,Q5r _ _ hlt,hp,pRow];refine Qq ?_;simp only[go_sem,htw];refine Qbuu (kn.e 0 rfl) hpm ?_;simp only[go_sem,Qe6,htw];refine kn.growR (new:=Qe [(Q1l q p).n]) hgr (.mk' _ _ _ _) (Qw _) (by simp only[Qg,Jc,Ju,LIM,Jl,Jh];omega) fun t2 Lg2 H4 hgr2 ht2 kn=>?_;simp only[go_sem,Qe5,ht2];refine Qq ?_;simp only[go_sem,ht2];refine⟨Qp (by omega) (by omega),?_⟩;show ∃m,_;refine⟨ps.length-(i+1),by omega,i+1,t2,Lg2,rfl,by omega,?_,kn,rfl,rfl,rfl,rfl,rfl⟩;have:Qe ((ps.take (i+1)).map fun p=>(Q1l q p).n)=Qe ((ps.take i).map fun p=>(Q1l q p).n)++Qe [(Q1l q p).n]:=by
    rw[Jb hlt,hp];simp[Qe]
   rw[this];exact hgr2
  ·intro hc;have hge:ps.length≤i:=by simpa using hc
   rw[Je hge]at hgr;refine Qs ?_;simp only[go_sem,X.next];refine Qa ?_;simp only[go_sem,l5,htw];refine Qk ?_;simp only[go_sem,Q7,Qad,Qg4,Ja,forall_eq,RS.op,htw];exact⟨_,.c _ _ (hgr.frz kn (Qw _)),hK _ (kn.fin.drop1 hx4)⟩
set_option maxHeartbeats 2000000 in
theorem Qbwc {f:Bool}{k:Nat}(hg:Qa3 cs=true)(hk:k<cs.length)(hK:∀H',Upd H H' []→K (.c (.sl false 1 (Q1 (kcN (Qr3 cs k))))) H') :
  Qu prog Qbn [.c (.int .i64 k),.c (.pp [.sl f 3 (Ql cs)])] H K:=by
 have ho:=Qvw hg hk;have hkn:=Qbs7 hg hk;obtain⟨q,hq⟩:∃q,cs[k]=q:=⟨_,rfl⟩;rw[hq]at ho hkn;refine Qt ?_;refine Qb Qam Qzd ?_;refine Qa ?_;simp only[go_sem];refine Qa ?_;simp only[go_sem,hk,Qx,Qaf _ _ hk,CodeD.cells,hq];intro x4 hx4 H1 h1;have kn:=(Kn.start0 H).al hx4 h1;have hx4:=kn.l 0 rfl;simp only[go_sem,Qfk,hx4];intro H2 h2;have kn:Kn H H2 [] [(x4,.st [.int .i64 q.params,.int .i64 q.regs,.sl false 5 (Qm q.blocks)])]:=kn.stL 0 rfl h2;have hx4:=kn.l 0 rfl;refine Qa ?_;simp only[go_sem,hx4];refine Qav3 ho fun H3 hu=>?_;have kn:=kn.call0 hu;have hx4:=kn.l 0 rfl;simp only[go_sem,Qfm];refine Qbkk hx4 (fun p h=>h) (Qbrm ho) fun H4 hu=>?_;have kn:=kn.call0 hu;simp only[go_sem,Qfl];refine Qk ?_;simp only[go_sem,Q7,Qad,Qis,Ja,forall_eq,RS.op];have:=hK _ kn.fin;rw[←hkn]at this;exact⟨_,.c _ _ (Qgy (noOw_mem (Qw _))),this⟩
structure Vst (cs:List CodeD)(ks ns ks':List Nat):Prop where
 nd:ks'.Nodup
 sub:∀x∈ks,x∈ks'
 ns:∀x∈ns,x∈ks'
 cl:∀x∈ks',x∈ks∨∀m∈kcN (Qr3 cs x),m∈ks'
 need:∀x∈ks',Nd cs x
theorem Vst.nil {ks:List Nat}(h:ks.Nodup)(hn:∀x∈ks,Nd cs x):Vst cs ks [] ks:=⟨h,fun _ h=>h,by simp,fun _ h=>.inl h,hn⟩
theorem Vst.app {ks ns k1 k2:List Nat}{n:Nat}(h:Vst cs ks ns k1)(k:Vst cs k1 [n] k2):Vst cs ks (ns++[n]) k2:=
 ⟨k.nd,fun x hx=>k.sub x (h.sub x hx),fun x hx=>by
  rcases Jz.1 hx with hx|hx
  ·exact k.sub x (h.ns x hx)
  ·exact k.ns x hx,fun x hx=>by
  rcases k.cl x hx with h1|h1
  ·rcases h.cl x h1 with h2|h2
   ·exact .inl h2
   ·exact .inr fun m hm=>k.sub m (h2 m hm)
  ·exact .inr h1,k.need⟩
theorem Vst.one {ks k1:List Nat}{n:Nat}(h:Vst cs (ks++[n]) (kcN (Qr3 cs n)) k1):Vst cs ks [n] k1:=
 ⟨h.nd,fun x hx=>h.sub x (J1 _ hx),fun x hx=>h.sub x (Jn _ hx),fun x hx=>by
  rcases h.cl x hx with h1|h1
  ·rcases Jz.1 h1 with h1|h1
   ·exact .inl h1
   ·simp only[Ja]at h1;subst h1;exact .inr h.ns
  ·exact .inr h1,h.need⟩
theorem Qbrs {ks:List Nat}(hg:Qa3 cs=true)(h:ks.Nodup)(hn:∀x∈ks,Nd cs x):ks.length≤4:=by
 have:=Q70 h fun x hx=>Qasf hg (hn x hx);have:=(of_decide_eq_true hg).1;omega
def Qbh2 (x5 x6:Nat)(f:Bool)(cs:List CodeD):List C:=[.ptr x5 0,.pp [.fn Qbn [.pp [.sl f 3 (Ql cs)]]],.ptr x6 0]
def clE (M x5 x6:Nat)(f:Bool)(cs:List CodeD)(ver:Nat)(ks:List Nat):List (Nat×Obj):=
 [(M,.map ver (Qjn ks)),(x5,.st [.mp M]),(x6,.st [.fn Qd1 (Qbh2 x5 x6 f cs)])]
set_option maxHeartbeats 2000000 in
theorem Qbxf {F:Heap}{M x5 x6:Nat}{f:Bool}(hg:Qa3 cs=true) :
  ∀(n:Nat) (ks:List Nat) (ver:Nat) (H:Heap) (K:V→Heap→Prop),Nd cs n→ks.Nodup→(∀x∈ks,Nd cs x)→Kn F H (clE M x5 x6 f cs ver ks) []→
   (∀(ks':List Nat) (ver':Nat) (H':Heap),Vst cs ks [n] ks'→Kn F H' (clE M x5 x6 f cs ver' ks') []→K (.tup []) H')→
   Qu prog Qd1 ([.c (.int .i64 n)]++(Qbh2 x5 x6 f cs).map .c) H K:=by
 intro n
 induction n using Nat.strongRecOn with
 |ind n ih=>
 intro ks ver H K hn hnd hns kn hK;have hnl:=Qasf hg hn;have hM:=kn.e 0 rfl;have hx5:=kn.e 1 rfl;have hx6:=kn.e 2 rfl;refine Qb Qam Qafl ?_;refine Qa ?_;simp only[go_sem,Qbh2,hx5,hM,Qaw8,Qbm,Qaft,Qa4s];refine Qd rfl ?_ ?_
 ·intro hc;have hnk:n∉ks:=by simpa using hc
  have hkl:=Qbrs hg hnd hns;refine Qa ?_;simp only[go_sem,hx5,hM,Qaft,Qbkn,Qbhl _ _ hnk];refine⟨by simp only[LIM];omega,fun H1 h1=>?_⟩;have kn:Kn F H1 (clE M x5 x6 f cs (ver+1) (ks++[n])) []:=kn.stE 0 rfl h1;refine Qa ?_;simp only[go_sem];refine Qbwc hg hnl fun H2 hu=>?_;have kn:=kn.call0 hu;obtain⟨L,hL⟩:∃L,kcN (Qr3 cs n)=L:=⟨_,rfl⟩;have hLn:∀x∈L,x<n∧Nd cs x:=fun x hx=>by
   rw[←hL]at hx;exact⟨Qbs6 hg hnl hx,.to hn hx⟩
  rw[hL];simp only[go_sem,Qkc,Qz];try intro hlim
  simp only[LIM]at hlim;have hnd2:(ks++[n]).Nodup:=List.nodup_append.2 ⟨hnd,by simp,fun a ha c hc=>by
   simp only[Ja]at hc;subst hc;exact fun e=>hnk (e▸ha)⟩
  have hns2:∀x∈ks++[n],Nd cs x:=fun x hx=>by
   rcases Jz.1 hx with hx|hx
   ·exact hns x hx
   ·simp only[Ja]at hx;subst hx;exact hn
  refine Qc (Qv (fun m e1 H1=>∃(i:Nat) (k1:List Nat) (ver1:Nat),m=L.length-i∧i≤L.length∧Vst cs (ks++[n]) (L.take i) k1∧Kn F H1 (clE M x5 x6 f cs ver1 k1) []∧
   e1=[(3,.c (.ptr x6 0)),(15,.c (.sl false 1 (Q1 L))),(16,.c (.int .i64 L.length)),(17,.c (.int .i64 i))]) L.length ?_ ?_)
  ·exact⟨0,_,_,by omega,by omega,.nil hnd2 hns2,kn,rfl⟩
  ·clear kn hx6;rintro m e1 H3 ⟨i,k1,ver1,hm,hi,hv,kn,rfl⟩;have hx6:=kn.e 2 rfl;refine Qa ?_;simp only[go_sem];refine Qh (Qd rfl ?_ ?_)
   ·intro hc2;have hlt:i<L.length:=(by simpa using hc2);have hgd:L.getD i 0=L[i]:=(by simp[Jf,hlt]);obtain⟨h1,h2⟩:=hLn _ (Jd hlt);rw[←hgd]at h1 h2;refine Qi ?_;try simp only[go_sem]
    refine Qh (Qc ?_);refine Qa ?_;simp only[go_sem,hlt,Qz,Qai _ _ hlt];refine Qq ?_;simp only[go_sem,hx6];refine ih _ h1 k1 ver1 H3 _ h2 hv.nd hv.need kn fun k2 ver2 H4 hv2 kn=>?_;refine Qq ?_;simp only[go_sem,X.next];refine⟨Qp (by omega) (by omega),L.length-(i+1),by omega,i+1,k2,ver2,rfl,by omega,?_,kn,rfl⟩;rw[Jb hlt,←hgd];exact hv.app hv2
   ·intro hc2;have hge:L.length≤i:=(by simpa using hc2);rw[Je hge]at hv;refine Qs ?_;simp only[go_sem,X.next,Q7,Qad,Qiq,Jv];refine⟨fun _=>trivial,hK k1 ver1 H3 (.one ?_) kn⟩;rw[hL];exact hv
 ·intro hc;have hnk:n∈ks:=by simpa using hc
  refine Qi ?_;simp only[go_sem,Q7,Qad,Qiq,Jv];exact⟨fun _=>trivial,hK ks ver H ⟨hnd,fun _ h=>h,by simpa using hnk,fun _ h=>.inl h,hns⟩ kn⟩
set_option maxHeartbeats 2000000 in
theorem Qbh3 {ns:List Nat}{f:Bool}(hg:Qa3 cs=true)(hns:ns=[cs.length-1])(hK:∀H',Upd H H' []→K (.c (.sl false 1 (Q1 (Qdi cs)))) H') :
  Qu prog Qns [.c (.sl true 1 (Q1 ns)),.c (.fn Qbn [.pp [.sl f 3 (Ql cs)]])] H K:=by
 refine Qt ?_;refine Qb Qam Qawp ?_;refine Qa ?_;simp only[go_sem];refine Qa ?_;simp only[go_sem];intro M hM0 H1 h1;have kn:Kn H H1 [] [(M,.map 0 (Qjn []))]:=(Kn.start0 H).al hM0 h1;simp only[go_sem,Qs4];intro x5 hx5 H3 h3;have kn:=kn.al hx5 h3;have hx5:=kn.l 1 rfl;simp only[go_sem,Qs3,hx5];intro H4 h4;have kn:=kn.stL 1 rfl h4;refine Qa ?_;simp only[go_sem];intro x6 hx6 H5 h5;have kn:=kn.al hx6 h5;have hx6:=kn.l 2 rfl;refine Qa ?_;simp only[go_sem,hx6];intro H6 h6;have kn:Kn H H6 [] (clE M x5 x6 f cs 0 []++[]):=kn.stL 2 rfl h6;have kF:=kn.mid;have hnl:ns.length=1:=by rw[hns];rfl
 refine Q5 ?_;refine Qa ?_;simp only[go_sem,Qz];try intro hlim
 refine Qh (Qc (Qv (fun m e1 H1=>∃(i:Nat) (k1:List Nat) (ver1:Nat),m=ns.length-i∧i≤ns.length∧Vst cs [] (ns.take i) k1∧Kn H6 H1 (clE M x5 x6 f cs ver1 k1) []∧
  e1=[(5,.c (.ptr x5 0)),(6,.c (.ptr x6 0)),(11,.c (.sl true 1 (Q1 ns))),(12,.c (.int .i64 ns.length)),(13,.c (.int .i64 i))]) ns.length ?_ ?_))
 ·exact⟨0,_,_,by omega,by omega,.nil List.nodup_nil (by simp),kF,rfl⟩
 ·clear kF hx5 hx6;rintro m e1 H8 ⟨i,k1,ver1,hm,hi,hv,kF,rfl⟩;have hx6:=kF.e 2 rfl;have hx5:=kF.e 1 rfl;have hM:=kF.e 0 rfl;refine Qa ?_;simp only[go_sem];refine Qh (Qd rfl ?_ ?_)
  ·intro hc2;have hlt:i<ns.length:=by simpa using hc2
   have hgd:ns.getD i 0=ns[i]:=by simp[Jf,hlt]
   have hnd:Nd cs (ns.getD i 0):=by
    have:ns[i]∈ns:=Jd hlt;rw[←hgd]at this;rw[hns]at this⊢;simp only[Ja]at this;rw[this];exact .top
   refine Qi ?_;try simp only[go_sem]
   refine Qh (Qc ?_);refine Qa ?_;simp only[go_sem,hlt,Qz,Qai _ _ hlt];refine Qq ?_;simp only[go_sem,hx6];refine Qbxf hg _ k1 ver1 H8 _ hnd hv.nd hv.need kF fun k2 ver2 H9 hv2 kF=>?_;refine Qq ?_;simp only[go_sem,X.next];refine⟨Qp (by omega) (by omega),ns.length-(i+1),by omega,i+1,k2,ver2,rfl,by omega,?_,kF,rfl⟩;rw[Jb hlt,←hgd];exact hv.app hv2
  ·intro hc2;have hge:ns.length≤i:=by simpa using hc2
   rw[Je hge]at hv;have hkl:=Qbrs hg hv.nd hv.need;refine Qs ?_;simp only[go_sem,X.next];refine Qa ?_;simp only[go_sem,hx5];refine Q7q hM hv.nd (by simp only[LIM];omega) fun fl2 l H9 hu hasc hmem=>?_;have kn:=kn.comp (kF.call0 hu) rfl;simp only[go_sem,Qs5];refine Qk ?_;simp only[go_sem,Q7,Qad,Q73,Ja,forall_eq,RS.op];have hl:l=Qdi cs:=by
    refine Qbks hg hasc ?_ ?_ ?_
    ·rw[hmem];exact hv.ns _ (by rw[hns];simp)
    ·intro k hk n hn;rw[hmem]at hk⊢;exact (hv.cl k hk).resolve_left (by simp) n hn
    ·intro k hk;rw[hmem]at hk;exact hv.need k hk
   rw[hl];exact⟨_,.c _ _ (Qgy (noOw_mem (Qat _))),hK _ kn.fin⟩
theorem Q08 {f:Bool}(hg:Qa3 cs=true)(hK:∀H',Upd H H' []→K (.c (.sl false 1 (Q1 (Qdi cs)))) H') :
  Qu prog Qc2 [.ag [.sl f 3 (Ql cs)]] H K:=by
 have h1:=(of_decide_eq_true hg).1;have e1:(cs.length:Int)-1=((cs.length-1:Nat):Int):=by omega
 refine Qt ?_;refine Qb Qam Qabf ?_;refine Qa ?_;simp only[go_sem];refine Qa ?_;simp only[go_sem,Qx,e1];try intro _
 refine⟨Qp (by omega) (by omega),?_⟩;refine Qbh3 (ns:=[cs.length-1]) (f:=f) hg rfl fun H1 hu=>?_;have kn:=(Kn.start0 H).call0 hu;simp only[go_sem,Qi6];refine Qk ?_;simp only[go_sem,Q7,Qad,Qo0,Ja,forall_eq,RS.op];exact⟨_,.c _ _ (Qgy (noOw_mem (Qat _))),hK _ kn.fin⟩
noncomputable def Qabj (cs:List CodeD):List Nat:=if Qa3 cs=true then Qdi cs else []
theorem Qsk {fl:Bool}(hfit:∀c∈cs,c.fits)(hK:∀H',Upd H H' []→K (.c (.sl false 1 (Q1 (Qabj cs)))) H') :
  Qu prog Qc1 [.ag [.sl fl 3 (Ql cs)]] H K:=by
 refine Qt ?_;refine Qb Qam Qabd ?_;refine Qa ?_;simp only[go_sem];refine Q5 ?_;refine Qa ?_;simp only[go_sem];refine Q1k hfit fun H1 hu=>?_;have kn:=(Kn.start0 H).call0 hu;simp only[go_sem,Qiy];refine Qh (Qd rfl ?_ ?_)
 ·intro hc;have hg:Qa3 cs=false:=Qsp hc;refine Qa ?_;simp only[go_sem];refine Qk ?_;simp only[go_sem,X.next,Q7,Qad,Qg0,Ja,forall_eq,RS.op];have:=hK _ kn.fin;rw[Qabj,hg]at this;exact⟨_,.c _ _ FrzR.nil.sl,this⟩
 ·intro hc;have hg:Qa3 cs=true:=Qfg hc;rw[Qabj,if_pos hg]at hK;refine Qi ?_;try simp only[go_sem]
  refine Qa ?_;simp only[go_sem];refine Q08 hg fun H2 hu=>?_;have kn:=kn.call0 hu;simp only[go_sem,Qiz];refine Qk ?_;simp only[go_sem,Q7,Qad,Qg0,Ja,forall_eq,RS.op];exact⟨_,.c _ _ (Qgy (noOw_mem (Qat _))),hK _ kn.fin⟩
end Go.AE.Y
namespace Go.AE.Y
open Go.Proofs.Tryz
attribute [local instance] Classical.propDecidable
theorem IsIx.eq {ns:List Int}{v r s:Int}(h:IsIx ns v r)(k:IsIx ns v s):r=s:=by
 by_cases hm:v∈ns
 ·rw[h.idx hm,k.idx hm]
 ·rcases h with ⟨rfl,_⟩|⟨i,_,h1,h2,_⟩
  ·rcases k with ⟨rfl,_⟩|⟨i,_,h1,h2,_⟩
   ·rfl
   ·rw[Jf,Jj h1]at h2;exact absurd (h2▸Jd h1) hm
  ·rw[Jf,Jj h1]at h2;exact absurd (h2▸Jd h1) hm
noncomputable def ixI (L:List Nat)(v:Int):Int:=if h:∃r,IsIx (L.map Int.ofNat) v r then Classical.choose h else 0
theorem Qbiz {L:List Nat}{v r:Int}(h:IsIx (L.map Int.ofNat) v r):ixI L v=r:=by
 have he:∃r,IsIx (L.map Int.ofNat) v r:=⟨r,h⟩;rw[ixI,dif_pos he];exact (Classical.choose_spec he).eq h
theorem Qbrq {L:List Nat}(ha:L.Pairwise (· < ·)){i:Nat}(hi:i<L.length):ixI L (L[i]:Int)=i:=by
 refine Qbiz (.inr ⟨i,rfl,by simpa using hi,by simp[Jf,hi],fun hm=>?_⟩);obtain⟨j,hj,he⟩:=Jk.1 hm;have hj2:j<i:=by simp only[Ju,Jc]at hj;omega
 have hjl:j<L.length:=by omega
 simp only[List.getElem_take,Jac]at he;have he:(L[j]:Int)=(L[i]:Int):=he;have:=Jt.1 ha j i hjl hi hj2;omega
noncomputable def rnI (L:List Nat)(x:InsD):InsD:=if x.op=14 then { x with n:=ixI L x.n } else x
noncomputable def rnB (L:List Nat)(y:BlkD):BlkD:={ y with ins:=y.ins.map (rnI L) }
noncomputable def rnC (L:List Nat)(q:CodeD):CodeD:={ q with blocks:=q.blocks.map (rnB L) }
noncomputable def Qc0 (cs:List CodeD)(L:List Nat):List CodeD:=L.map fun k=>rnC L (Qr3 cs k)
theorem Qbdg (L:List Nat)(x:InsD):(rnI L x).op=x.op:=by rw[rnI];split <;> rfl
theorem Qbvr (L:List Nat)(x:InsD):(rnI L x).to=x.to:=by rw[rnI];split <;> rfl
theorem Qbdf (L:List Nat)(x:InsD):(rnI L x).args=x.args:=by rw[rnI];split <;> rfl
theorem Qbx (cs:List CodeD)(L:List Nat):(Qc0 cs L).length=L.length:=by simp[Qc0]
theorem Qvz {cs:List CodeD}{L:List Nat}{i:Nat}(h:i<(Qc0 cs L).length):(Qc0 cs L)[i]=rnC L (Qr3 cs (L[i]'(by rwa [Qbx]at h))):=by simp[Qc0]
theorem Qbsf (L:List Nat)(y:BlkD):Qvy (rnB L y)=Qvy y:=by simp[Qvy,rnB]
theorem Qbse (L:List Nat)(q:CodeD):Qvx (rnC L q)=Qvx q:=by
 simp only[Qvx,Qhy,rnC,Jaf];congr 1;exact Jy fun y _=>Qbsf L y
theorem Qbub {a b:List Nat}(h:a.Sublist b):a.sum≤b.sum:=by
 induction h with
 |slnil=>exact Jq _
 |cons x _ ih=>simp only[Ja4];omega
 |cons_cons x _ ih=>simp only[Ja4];omega
theorem Qbuc {f:Nat→Nat}{n:Nat}{L:List Nat}(ha:L.Pairwise (· < ·))(hl:∀x∈L,x<n):(L.map f).sum≤((List.range n).map f).sum:=by
 have hs:L.Sublist (List.range n):=by
  have e:L=(List.range n).filter fun x=>decide (x∈L):=Qap0 ha (Jat _ J6) fun x=>by
   simp only[Jah,J2,decide_eq_true_eq];exact⟨fun h=>⟨hl x h,h⟩,fun h=>h.2⟩
  rw[e];exact List.filter_sublist
 exact Qbub (hs.map f)
section
variable {cs:List CodeD}{L:List Nat}(hg:Qa3 cs=true)(hL:L=Qdi cs)
include hg hL
theorem Qa5t {i:Nat}(hi:i<L.length):L[i]<cs.length:=by
 subst hL;exact Qasf hg ((Qci hg).1 (Jd hi))
theorem Qbk9 {i:Nat}(hi:i<L.length){x:InsD}{y:BlkD}(hy:y∈(Qr3 cs L[i]).blocks)(hx:x∈y.ins)(ho:x.op=14):∃m,∃hm:m<L.length,x.n=(L[m]:Int)∧m<i∧(rnI L x).n=m:=by
 have hk:=Qa5t hg hL hi;obtain⟨b,hb,rfl⟩:=Jk.1 hy;obtain⟨j,hj,rfl⟩:=Jk.1 hx;have e:=Qh5 hk;obtain⟨n,hn,hlt⟩:∃n:Nat,(Qr3 cs L[i]).blocks[b].ins[j].n=n∧n<L[i]:=by
  simp only[e]at ho hb hj⊢;exact Qael hg hk hb hj ho
 have hN:n∈L:=by
  have hnd:Nd cs L[i]:=(Qci hg).1 (by rw[←hL];exact Jd hi);have h1:Nd cs n:=.to hnd (by
   refine J9.2 ⟨((b:Int),(j:Int)),?_,?_⟩
   ·refine Jak.2 ⟨b,J2.2 hb,?_⟩;refine J9.2 ⟨j,Jah.2 ⟨J2.2 (by rw[Qbi hb];exact hj),?_⟩,rfl⟩;simp only[Qbi hb,Jj hj,Jas,Jad,ho,decide_true]
   ·simp only[Q1l,J3,Qbi hb,Jj hj,Jad,hn])
  rw[hL];exact (Qci hg).2 h1
 obtain⟨m,hm,rfl⟩:=Jk.1 hN;have ha:L.Pairwise (· < ·):=by rw[hL];exact Qlr
 refine⟨m,hm,hn,?_,?_⟩
 ·by_cases hmi:m<i
  ·exact hmi
  ·by_cases he:m=i
   ·subst he;omega
   ·have:=Jt.1 ha i m hi hm (by omega);omega
 ·rw[rnI,if_pos ho,hn];exact Qbrq ha hm
theorem Qawb:Qa3 (Qc0 cs L)=true:=by
 obtain⟨h1,h2,h3⟩:=of_decide_eq_true hg;have ha:L.Pairwise (· < ·):=by rw[hL];exact Qlr
 have hl1:=Qbc0 (cs:=cs);have hl2:=(Q5q hg).1;rw[←hL]at hl1 hl2;refine decide_eq_true ⟨by rw[Qbx];omega,fun i hi=>?_,?_⟩
 ·rw[Qbx]at hi;have hk:=Qa5t hg hL hi;obtain⟨g1,g2⟩:=h2 _ hk;have hi':i<(Qc0 cs L).length:=by rw[Qbx];exact hi
  have e:(Qc0 cs L)[i]=rnC L cs[L[i]]:=by rw[Qvz hi',Qh5 hk]
  refine⟨?_,fun b hb=>?_⟩
  ·rw[e];simp only[Qsj,J0,decide_eq_true_eq]at g1⊢;simpa only[rnC,Jc]using g1
  ·have hb':b<cs[L[i]].blocks.length:=by rw[e]at hb;simpa[rnC]using hb
   have g:=g2 b hb';have eb:(Qc0 cs L)[i].blocks[b]=rnB L cs[L[i]].blocks[b]:=by simp only[e,rnC,Jac]
   have en:(fun j=>((rnC L cs[L[i]]).blocks.map BlkD.next).getD j [])=fun j=>(cs[L[i]].blocks.map BlkD.next).getD j []:=by
    have:(rnC L cs[L[i]]).blocks.map BlkD.next=cs[L[i]].blocks.map BlkD.next:=by
     simp only[rnC,Jaf];exact Jy fun y _=>rfl
    funext j;rw[this]
   have el:(Qm (rnC L cs[L[i]]).blocks).length=(Qm cs[L[i]].blocks).length:=by simp[rnC,Qj]
   have er:rgOf (Qc0 cs L) i=rgOf cs L[i]:=by rw[Qzn hi',Qzn hk,e];rfl
   rw[eb,e];simp only[blkG,J0,Ja0]at g⊢;obtain⟨⟨⟨gj,gn⟩,gi⟩,gp⟩:=g;refine⟨⟨⟨gj,fun x hx=>?_⟩,fun x hx=>?_⟩,fun x hx=>?_⟩
   ·rw[el];exact gn x hx
   ·obtain⟨z,hz,rfl⟩:=J9.1 hx;have gz:=gi z hz;simp only[insG,J0]at gz⊢;obtain⟨⟨a1,a2⟩,a3⟩:=gz;refine⟨⟨?_,?_⟩,?_⟩
    ·rw[er];simpa only[insH,Qbdg,Qbdf]using a1
    ·rw[er];simpa only[insT,Qbdg,Qbvr]using a2
    ·by_cases ho:z.op=14
     ·obtain⟨m,hm,hzn,hmi,hrn⟩:=Qbk9 hg hL hi (x:=z) (y:=cs[L[i]].blocks[b]) (by rw[Qh5 hk];exact Jd hb') hz ho;have hmk:=Qa5t hg hL hm;have hm':m<(Qc0 cs L).length:=(by rw[Qbx];exact hm);simp only[insL,Qbdg,Qbdf,ho,if_true,J0,decide_eq_true_eq,hrn,J3]at a3⊢;refine⟨by omega,?_⟩;rw[Qzi hm',Qvz hm',Qh5 hmk,a3.2,hzn,J3,Qzi hmk];rfl
     ·have:rnI L z=z:=(by rw[rnI,if_neg ho]);rw[this];simpa only[insL,ho,if_false]using a3
   ·rw[en,el];exact gp x hx
 ·have e:Qhy Qvx (Qc0 cs L)=(L.map fun k=>Qvx (Qr3 cs k)).sum:=by
   simp only[Qhy,Qc0,Jaf];congr 1;exact Jy fun k _=>Qbse L _
  have e2:Qhy Qvx cs=((List.range cs.length).map fun k=>Qvx (Qr3 cs k)).sum:=by
   rw[Qhy];congr 1;refine Jam (by simp) fun i h1 h2=>?_;have:i<cs.length:=by simpa using h1
   simp[Qr3,this]
  have:=Qbuc (f:=fun k=>Qvx (Qr3 cs k)) ha (fun x hx=>Qasf hg ((Qci hg).1 (by rw[←hL];exact hx)));omega
theorem Qbh9:Qdi (Qc0 cs L)=List.range L.length:=by
 have hu:=Qawb hg hL;have ha:L.Pairwise (· < ·):=by rw[hL];exact Qlr
 have key:∀k,Nd cs k→∀i (hi:i<L.length),L[i]=k→Nd (Qc0 cs L) i:=by
  intro k hk
  induction hk with
  |top=>
   intro i hi he;have hl2:=(Q5q hg).1;have hl3:=(Q5q hg).2 (by omega);have:i=L.length-1:=by
    subst hL;by_cases hii:i=(Qdi cs).length-1
    ·exact hii
    ·have:=Jt.1 ha i ((Qdi cs).length-1) hi (by omega) (by omega);omega
   rw[this,←Qbx cs L];exact .top
  |@to k n hk hn ih=>
   intro i hi he;have hkL:k∈L:=by rw[hL];exact (Qci hg).2 hk
   obtain⟨j,hj,hje⟩:=Jk.1 hkL;have hjd:=ih j hj hje;refine .to hjd ?_;have hj':j<(Qc0 cs L).length:=by rw[Qbx];exact hj
   rw[Qh5 hj',Qvz hj',hje];obtain⟨p,hp,hpn⟩:=J9.1 hn;obtain⟨b,t,rfl,hb,ht,ho,hI⟩:=Qav2 hp;obtain⟨m,hm,hzn,hmi,hrn⟩:=Qbk9 hg hL hj (x:=(Qr3 cs k).blocks[b].ins[t]) (y:=(Qr3 cs k).blocks[b]) (by rw[hje];exact Jd hb) (Jd ht) ho;have hmi2:m=i:=by
    rw[hI,hzn,J3]at hpn;have:L[m]=L[i]:=(by rw[hpn,he]);by_cases h1:m<i
    ·have:=Jt.1 ha m i hm hi h1;omega
    ·by_cases h2:m=i
     ·exact h2
     ·have:=Jt.1 ha i m hi hm (by omega);omega
   have hb2:b<(rnC L (Qr3 cs k)).blocks.length:=by simpa[rnC]using hb
   have eb:(rnC L (Qr3 cs k)).blocks[b]=rnB L (Qr3 cs k).blocks[b]:=by simp only[rnC,Jac]
   have ht2:t<(rnB L (Qr3 cs k).blocks[b]).ins.length:=by simpa[rnB]using ht
   have ei:(rnB L (Qr3 cs k).blocks[b]).ins[t]=rnI L (Qr3 cs k).blocks[b].ins[t]:=by simp only[rnB,Jac]
   refine J9.2 ⟨((b:Int),(t:Int)),?_,?_⟩
   ·refine Jak.2 ⟨b,J2.2 hb2,?_⟩;refine J9.2 ⟨t,Jah.2 ⟨J2.2 (by rw[Qbi hb2,eb];exact ht2),?_⟩,rfl⟩;simp only[Qbi hb2,eb,Jj ht2,ei,Jas,Jad,Qbdg,ho,decide_true]
   ·simp only[Q1l,J3,Qbi hb2,eb,Jj ht2,ei,Jad,hrn,hmi2]
 refine (Qap0 J6 Qlr fun i=>?_).symm;rw[Qci hu,J2];refine⟨fun hi=>?_,fun h=>by have:=Qasf hu h;rwa [Qbx]at this⟩;exact key L[i] ((Qci hg).1 (by rw[←hL];exact Jd hi)) i hi rfl
end
theorem Qbnx {cs:List CodeD}(hg:Qa3 cs=true):Qc0 cs (List.range cs.length)=cs:=by
 refine Jam (by simp[Qc0]) fun k h1 hk=>?_;rw[Qvz h1];simp only[Jav];rw[Qh5 hk];have hb:∀y∈cs[k].blocks,rnB (List.range cs.length) y=y:=fun y hy=>by
  have hi:∀x∈y.ins,rnI (List.range cs.length) x=x:=fun x hx=>by
   rw[rnI];split
   ·rename_i ho
    obtain⟨b,hb,rfl⟩:=Jk.1 hy;obtain⟨j,hj,rfl⟩:=Jk.1 hx;obtain⟨n,hn,hlt⟩:=Qael hg hk hb hj ho;have hnl:n<(List.range cs.length).length:=(by rw[Jaz];omega);have h:=Qbrq (L:=List.range cs.length) J6 hnl;rw[Jav]at h;have e:ixI (List.range cs.length) cs[k].blocks[b].ins[j].n=cs[k].blocks[b].ins[j].n:=(by rw[hn];exact h);rw[e]
   ·rfl
  rw[rnB,Jy hi,List.map_id']
 rw[rnC,Jy hb,List.map_id']
end Go.AE.Y
namespace Go.AE.Y
attribute [local go_sem] cond_true cond_false Bool.not_true Bool.not_false
open Go.Proofs.Tryz
variable {H H0 F:Heap}{K:V→Heap→Prop}{E L B:List (Nat×Obj)}{fl:Bool}
attribute [local instance] Classical.propDecidable
def Drc (c d:CodeD):Prop:=Idl c d
def DropOk (cs ds:List CodeD):Prop:=(Qa3 cs=true∧ds.length=cs.length∧∀i (h1:i<cs.length) (h2:i<ds.length),Drc cs[i] ds[i])∨(Qa3 cs=false∧ds=[])
theorem DropOk.unit {cs ds:List CodeD}(h:DropOk cs ds)(hg:Qa3 cs=true):Qa3 ds=true∧ds.length=cs.length∧∀i (h1:i<cs.length) (h2:i<ds.length),Idl cs[i] ds[i]:=by
 rcases h with ⟨_,hl,h⟩|⟨h,_⟩
 ·exact⟨Qbq2 hg hl fun k h1 h2=>(h k h1 h2).shr,hl,h⟩
 ·rw[hg]at h;simp at h
theorem DropOk.fits {cs ds:List CodeD}(h:DropOk cs ds):∀c∈ds,c.fits:=by
 rcases h with ⟨hg,hl,h⟩|⟨_,rfl⟩
 ·intro c hc;obtain⟨i,hi,rfl⟩:=Jk.1 hc;exact ((h i (by omega) hi).shr.ok (Qvw hg (by omega))).fts
 ·simp
theorem DropOk.uniq {cs ds es:List CodeD}(h:DropOk cs ds)(k:DropOk cs es):ds=es:=by
 rcases h with ⟨hg,hl,h⟩|⟨hg,rfl⟩
 ·rcases k with ⟨_,kl,k⟩|⟨hf,_⟩
  ·exact Jam (by omega) fun i h1 h2=>(h i (by omega) h1).uniq (k i (by omega) h2)
  ·rw[hg]at hf;simp at hf
 ·rcases k with ⟨hf,_⟩|⟨_,rfl⟩
  ·rw[hg]at hf;simp at hf
  ·rfl
theorem DropOk.again {cs ds:List CodeD}(h:DropOk cs ds)(hg:Qa3 cs=true):DropOk ds ds:=by
 obtain⟨h1,h2,h3⟩:=h.unit hg;exact .inl ⟨h1,rfl,fun i a b=>(h3 i (by omega) a).again⟩
end Go.AE.Y
namespace Go.AE.Y
open Go.Proofs.Tryz
variable {H H0:Heap}{K:V→Heap→Prop}{S:Nat→Bool}
theorem OBlk.frzF {o:OBlk}(hok:o.ok)(h:Held H S o.lg):FrzL H S o.row o.d.cells:=
 .cons (Gr.frzM hok.p h.r.r.l (Qafw hok.a h.r.l)) (.cons (Gr.frzM hok.i h.r.r.r.r (Qars h.r.r.r.l)) (.cons (Qf rfl) (.cons (Qf rfl) (.cons (o.nx.frz h.l) .nil))))
theorem Qbhx {bs:List OBlk}(ho:∀o∈bs,o.ok)(h:Held H S (bs.flatMap OBlk.lg)):FrzR H S (bs.map OBlk.row) (Qm (bs.map OBlk.d)):=by
 rw[Qm,Jaf];exact Qhq bs fun x hx=>OBlk.frzF (ho x hx) (h.m hx)
end Go.AE.Y
namespace Go.AE.Y
attribute [local go_sem] cond_true cond_false Bool.not_true Bool.not_false
attribute [local instance] Classical.propDecidable
open Go.Proofs.Tryz
variable {H H0 F:Heap}{K:V→Heap→Prop}{E L B Lg:List (Nat×Obj)}{q:CodeD}{cs:List CodeD}
theorem Qbko {l:List PhiD}{fl:Bool}(hl:l.length≤2 ^ 38)(ha:∀x∈l,x.args.length≤LIM)(hK:∀H',Upd H H' []→K (.c (.sl false 2 (Qab l))) H') :
  Qu prog Qb4 [.c (.sl fl 2 (Qab l)),.c (.fn Qcj [])] H K:=
 Qt (Qbpp hl ha (Kn.start0 H) fun t Lg H' hgr kn=>⟨_,.c _ _ (hgr.frz kn (Qf4 _)),hK _ kn.fin⟩)
theorem Qbkm {l:List InsD}{fl:Bool}(hl:l.length≤2 ^ 38)(ha:∀x∈l,x.args.length≤LIM)(kn:Kn H0 H E L)(hK:∀t Lg H',Gr Lg 4 (Qap l) t→Kn H0 H' E (L++Lg)→K (.c t) H') :
  Qu prog Qdg [.c (.sl fl 4 (Qap l)),.c (.fn Qdk [])] H K:=by
 refine Qb Qam Qze ?_;refine Qa ?_;simp only[go_sem];refine Qa ?_;simp only[go_sem];refine Q5 ?_;refine Qa ?_;simp only[go_sem,Qaa];intro _;refine Qh (Qc (Qv (fun m e1 H1=>∃(i:Nat) (t:C) (Lg:List (Nat×Obj)),m=l.length-i∧i≤l.length∧Gr Lg 4 (Qap (l.take i)) t∧Kn H0 H1 E (L++Lg)∧
  e1=[(1,.c (.fn Qdk [])),(5,.c t),(8,.c (.sl fl 4 (Qap l))),(9,.c (.int .i64 l.length)),(10,.c (.int .i64 i))]) l.length ?_ ?_))
 ·exact⟨0,_,[],by omega,by omega,.nil 4,by simpa using kn,rfl⟩
 ·clear kn;rintro m e1 H1 ⟨i,t,Lg,hm,hi,hgr,kn,rfl⟩;have htw:=hgr.isOw;refine Qa ?_;simp only[go_sem,htw];refine Qh (Qd rfl ?_ ?_)
  ·intro hc;have hlt:i<l.length:=by simpa using hc
   obtain⟨p,hp⟩:∃p,l[i]=p:=⟨_,rfl⟩;have hpm:p∈l:=by rw[←hp];exact Jd hlt
   have htk:l.take (i+1)=l.take i++[p]:=by rw[Jb hlt,hp]
   refine Qi ?_;try simp only[go_sem]
   refine Qh (Qc ?_);refine Qa ?_;simp only[go_sem,htw,hlt,Qaa,Qay _ _ hlt,InsD.cells,hp];intro x7 hx7 H2 h2;have kn:=kn.al hx7 h2;have hx7:H2 x7=.st [.int .i64 0,.int .i64 0,.sl true 1 [],.int .i64 0]:=(kn.get (x7,.st [.int .i64 0,.int .i64 0,.sl true 1 [],.int .i64 0]) (by simp)).1;simp only[go_sem,Qfn,hx7,htw];intro H3 h3;have kn:Kn H0 H3 E ((L++[(x7,.st [.int .i64 p.op,.int .i64 p.to,.sl false 1 (Qe p.args),.int .i64 p.n])])++Lg):=by
    have:=kn.stL (L++Lg).length (x:=x7) (o:=.st [.int .i64 0,.int .i64 0,.sl true 1 [],.int .i64 0]) (by simp) h3;refine Kn.perm (by simpa using this) (Qn fun f hf h0 hc hp=>by simp only[hf];omega)
   have hx7:H3 x7=.st [.int .i64 p.op,.int .i64 p.to,.sl false 1 (Qe p.args),.int .i64 p.n]:=(kn.get (x7,.st [.int .i64 p.op,.int .i64 p.to,.sl false 1 (Qe p.args),.int .i64 p.n]) (by simp)).1;refine Qq ?_;simp only[go_sem,htw,hx7,Jm,Jaj];refine Qbdv (x:=p) (ha p hpm) fun H4 hu=>?_;have kn:=kn.call0 hu;simp only[go_sem,Qfp,htw,InsD.cells];have hsm:(l.take i).length≤l.length:=by rw[Ju];omega
   refine kn.growR (new:=Qap [p]) hgr (.mk' _ _ _ _) (Qh2 _) (by simp only[Qaa,LIM,Jl,Jh];omega) fun t2 Lg2 H5 hgr2 ht2 kn=>?_;simp only[go_sem,Qfo,ht2];refine Qq ?_;simp only[go_sem,X.next,ht2];refine⟨Qp (by omega) (by omega),l.length-(i+1),by omega,i+1,t2,Lg2,rfl,by omega,?_,?_,rfl⟩
   ·rw[htk];have:Qap (l.take i++[p])=Qap (l.take i)++Qap [p]:=(by simp[Qap]);rw[this];exact hgr2
   ·exact Kn.drop (B:=[(x7,.st [.int .i64 p.op,.int .i64 p.to,.sl false 1 (Qe p.args),.int .i64 p.n])]) (kn.perm (Qn fun f hf h0 hc hp=>by simp only[hf];omega))
  ·intro hc;have hge:l.length≤i:=by simpa using hc
   rw[Je hge]at hgr;refine Qs ?_;simp only[go_sem,X.next];refine Qa ?_;simp only[go_sem,htw];refine Qk ?_;simp only[go_sem,Q7,Qad,Qit,Ja,forall_eq,RS.op,htw];exact hK t Lg H1 hgr kn
def iRow (y:BlkD)(ic:C):List C:=[.sl false 2 (Qab y.phis),ic,.int .i64 y.jump,.int .i64 y.on,.sl false 1 (Qe y.next)]
theorem Qarf {y:BlkD}(hy:y.cl)(hK:∀pc N H',Gr N 4 (Qap y.ins) pc→Kn H H' [] N→K (.ag (iRow y pc)) H'):Qu prog Qch [.ag y.cells] H K:=by
 refine Qdj ?_;refine Qb Qam Qabe ?_;refine Qa ?_;simp only[go_sem,BlkD.cells];intro x1 hx1 H0 h0;have kn:=(Kn.start0 H).al hx1 h0;intro x2 hx2 H1 h1;have kn:=kn.al hx2 h1;have hx1:=kn.l 0 rfl;refine Qa ?_;simp only[go_sem,hx1];refine Qbko hy.p hy.pa fun H2 hu=>?_;have kn:=kn.call0 hu;have hx1:=kn.l 0 rfl;simp only[go_sem,Qi0,hx1];intro H3 h3;have kn:=kn.stL 0 rfl h3;have hx1:=kn.l 0 rfl;refine Qa ?_;simp only[go_sem,hx1];refine Qbkm hy.i hy.ia kn fun pc N H4 hgp kn=>?_;have hpw:=hgp.isOw;have hx1:=kn.l 0 rfl;simp only[go_sem,Qi1,hpw,hx1];intro H5 h5;have kn:=kn.stL 0 rfl h5;have hx1:=kn.l 0 rfl;refine Qa ?_;simp only[go_sem,hx1,hpw];refine Qa4h kn hy.n fun t Lg H6 hgr how kn=>?_;have hx1:=kn.l 0 rfl;simp only[go_sem,Qi2,hpw,how,hx1];intro H7 h7;have kn:=kn.stL 0 rfl h7;have hx1:=kn.l 0 rfl;have hx2:=kn.l 1 rfl;refine Qa ?_;simp only[go_sem,hx1,hx2,hpw,how];intro H8 h8;have kn:Kn H H8 [] (([(x1,.st [.sl false 2 (Qab y.phis),pc,.int .i64 y.jump,.int .i64 y.on,t]),(x2,.st [.sl false 2 (Qab y.phis),pc,.int .i64 y.jump,.int .i64 y.on,t])]++Lg)++N):=
  (kn.stL 1 rfl h8).perm (Qn fun f hf h0 hc hp=>by
   have e1:=hc (x1,.st [.sl false 2 (Qab y.phis),pc,.int .i64 y.jump,.int .i64 y.on,t]) ([(x2,.st [.sl false 2 (Qab y.phis),pc,.int .i64 y.jump,.int .i64 y.on,t])]++N++Lg);have e2:=hc (x1,.st [.sl false 2 (Qab y.phis),pc,.int .i64 y.jump,.int .i64 y.on,t]) [(x2,.st [.sl false 2 (Qab y.phis),pc,.int .i64 y.jump,.int .i64 y.on,t])];show f ((x1,_)::([(x2,_)]++N++Lg))=_;rw[e1];simp only[hf,e2];omega)
 have hx2:=kn.l 1 rfl;have hfr:∀p∈Lg,H8 p.1=p.2∧unx H N p.1=true:=fun p hp=>
  ⟨(kn.get p (Jn _ (J1 _ (Jn _ hp)))).1,kn.unx (Jn _ hp)⟩
 refine Qk ?_;simp only[go_sem,Q7,Qad,Qoz,Ja,forall_eq,RS.op,hpw,how,hx2];exact⟨unx H N,.ag (iRow y pc),H8.frz (unx H N),FrzL.ag (.cons (Qgy (noOw_mem (Qf4 _))) (.cons (.same _ hpw) (.cons (Qf rfl) (.cons (Qf rfl) (.cons (Gr.frzM hgr hfr (FrzR.same (Qw _))) .nil))))),Qe0 _ _,hK pc N _ hgp kn.finK⟩
structure IBlk where
 y:BlkD
 pc:C
 pl:List (Nat×Obj)
def IBlk.row (b:IBlk):List C:=iRow b.y b.pc
def IBlk.ok (b:IBlk):Prop:=Gr b.pl 4 (Qap b.y.ins) b.pc
theorem IBlk.noOw {b:IBlk}(h:b.ok):Go.AE.noOw b.row=true:=by
 have:=h.isOw;simp only[Go.AE.noOw,IBlk.row,iRow,List.all_cons,List.all_nil,this];rfl
theorem IBlk.frzR {S:Nat→Bool}:∀{ds:List IBlk},(∀d∈ds,d.ok)→(∀d∈ds,∀p∈d.pl,H p.1=p.2∧S p.1=true)→FrzR H S (ds.map IBlk.row) (Qm (ds.map IBlk.y))
 |[],_,_=>.nil
 |d::ds,h,hm=>.cons (.cons (Qgy (noOw_mem (Qf4 _))) (.cons (Gr.frzM (h d Jag) (hm d Jag) (FrzR.same (Qh2 _)))
   (.cons (Qf rfl) (.cons (Qf rfl) (.cons (Qgy (noOw_mem (Qw _))) .nil)))))
   (IBlk.frzR (fun d hd=>h d (Jab _ hd)) fun d hd=>hm d (Jab _ hd))
theorem Qbkj {l:List BlkD}{fl:Bool}(hl:l.length≤2 ^ 38)(ha:∀y∈l,y.cl)(kn:Kn H0 H E L)
  (hK:∀(ks:List IBlk) t Lg H',ks.map IBlk.y=l→(∀b∈ks,b.ok)→Gr Lg 5 (ks.map IBlk.row) t→Kn H0 H' E ((L++ks.flatMap IBlk.pl)++Lg)→K (.c t) H') :
  Qu prog Qb9 [.c (.sl fl 5 (Qm l)),.c (.fn Qch [])] H K:=by
 refine Qb Qam Qn5 ?_;refine Qa ?_;simp only[go_sem];refine Qa ?_;simp only[go_sem];refine Q5 ?_;refine Qa ?_;simp only[go_sem,Qj];intro _;refine Qh (Qc (Qv (fun m e1 H1=>∃(ks:List IBlk) (t:C) (Lg:List (Nat×Obj)),m=l.length-ks.length∧ks.length≤l.length∧ks.map IBlk.y=l.take ks.length∧(∀b∈ks,b.ok)∧Gr Lg 5 (ks.map IBlk.row) t∧Kn H0 H1 E ((L++ks.flatMap IBlk.pl)++Lg)∧
  e1=[(1,.c (.fn Qch [])),(5,.c t),(8,.c (.sl fl 5 (Qm l))),(9,.c (.int .i64 l.length)),(10,.c (.int .i64 ks.length))]) l.length ?_ ?_))
 ·exact⟨[],_,[],by simp,by simp,by simp,by simp,.nil 5,by simpa using kn,rfl⟩
 ·clear kn;rintro m e1 H1 ⟨ks,t,Lg,hm,hi,hky,hko,hgr,kn,rfl⟩;have htw:=hgr.isOw;refine Qa ?_;simp only[go_sem,htw];refine Qh (Qd rfl ?_ ?_)
  ·intro hc;have hlt:ks.length<l.length:=by simpa using hc
   obtain⟨y,hy⟩:∃y,l[ks.length]=y:=⟨_,rfl⟩;have hym:y∈l:=by rw[←hy];exact Jd hlt
   have htk:l.take (ks.length+1)=l.take ks.length++[y]:=by rw[Jb hlt,hy]
   refine Qi ?_;try simp only[go_sem]
   refine Qh (Qc ?_);refine Qa ?_;simp only[go_sem,htw,hlt,Qj,Q9 _ _ hlt,BlkD.cells,hy];intro x7 hx7 H2 h2;have kn:=kn.al hx7 h2;have hx7:H2 x7=.st [.sl true 2 [],.sl true 4 [],.int .i64 0,.int .i64 0,.sl true 1 []]:=(kn.get (x7,.st [.sl true 2 [],.sl true 4 [],.int .i64 0,.int .i64 0,.sl true 1 []]) (by simp)).1;simp only[go_sem,Qdd,hx7,htw];intro H3 h3;have kn:Kn H0 H3 E (((L++ks.flatMap IBlk.pl)++Lg)++[(x7,blkC y)]):=by
    have:=kn.stL ((L++ks.flatMap IBlk.pl)++Lg).length (x:=x7) (o:=.st [.sl true 2 [],.sl true 4 [],.int .i64 0,.int .i64 0,.sl true 1 []]) (by simp) h3;simpa[blkC]using this
   have hx7:H3 x7=.st [.sl false 2 (Qab y.phis),.sl false 4 (Qap y.ins),.int .i64 y.jump,.int .i64 y.on,.sl false 1 (Qe y.next)]:=(kn.get (x7,blkC y) (by simp)).1;have kn:=kn.drop;refine Qq ?_;simp only[go_sem,htw,hx7,Jm,Jaj];refine Qarf (y:=y) (ha y hym) fun pc N H4 hgp k2=>?_;have kn:Kn H0 H4 E ((L++(ks++[(⟨y,pc,N⟩:IBlk)]).flatMap IBlk.pl)++Lg):=(kn.comp0 k2).perm (Qn fun f hf h0 hc hp=>by
    simp only[hf,Jae,Jaa,J5,Jm];omega)
   have hpw:=hgp.isOw;simp only[go_sem,Qdf,htw,iRow,hpw];refine kn.growR (new:=[IBlk.row ⟨y,pc,N⟩]) hgr (.mk' _ _ _ _) (by intro r hr;simp only[Ja]at hr;subst hr;exact IBlk.noOw hgp) (by simp only[Jc,LIM,Jl,Jh];omega) fun t2 Lg2 H5 hgr2 ht2 kn=>?_;simp only[go_sem,Qde,ht2];refine Qq ?_;simp only[go_sem,X.next,ht2];refine⟨Qp (by omega) (by omega),l.length-(ks.length+1),by omega,ks++[⟨y,pc,N⟩],t2,Lg2,by simp,by simp;omega,?_,fun b hb=>?_,?_,kn,?_⟩
   ·rw[Jg,J8,htk,Jo,hky];rfl
   ·rcases Jz.1 hb with hb|hb
    ·exact hko b hb
    ·simp only[Ja]at hb;subst hb;exact hgp
   ·rw[Jo];exact hgr2
   ·simp
  ·intro hc;have hge:ks.length=l.length:=by have:l.length≤ks.length:=(by simpa using hc);omega
   rw[hge,Jan]at hky;refine Qs ?_;simp only[go_sem,X.next];refine Qa ?_;simp only[go_sem,htw];refine Qk ?_;simp only[go_sem,Q7,Qad,Qe2,Ja,forall_eq,RS.op,htw];exact hK ks t Lg H1 hky hko hgr kn
theorem Qav6 {q:CodeD}{fl:Bool}(hb:q.blocks.length≤2 ^ 38)(ha:∀y∈q.blocks,y.cl)
  (hK:∀(ks:List IBlk) bc bl H',ks.map IBlk.y=q.blocks→(∀b∈ks,b.ok)→Gr bl 5 (ks.map IBlk.row) bc→Kn H H' [] (ks.flatMap IBlk.pl++bl)→K (.ag [.int .i64 q.params,.int .i64 q.regs,bc]) H') :
  Qu prog Qh9 [.ag [.int .i64 q.params,.int .i64 q.regs,.sl fl 5 (Qm q.blocks)]] H K:=by
 refine Qdj ?_;refine Qb Qam Qafk ?_;refine Qa ?_;simp only[go_sem];intro x1 hx1 H0 h0;have kn:=(Kn.start0 H).al hx1 h0;intro x2 hx2 H1 h1;have kn:=kn.al hx2 h1;have hx1:=kn.l 0 rfl;refine Qa ?_;simp only[go_sem,hx1];refine Qbkj hb ha kn fun ks bc bl H2 hky hko hgr kn=>?_;have hbw:=hgr.isOw;have hx1:=kn.l 0 rfl;simp only[go_sem,Qkb,hbw,hx1];intro H3 h3;have kn:=kn.stL 0 rfl h3;have hx1:=kn.l 0 rfl;have hx2:=kn.l 1 rfl;refine Qa ?_;simp only[go_sem,hx1,hx2,hbw];intro H4 h4;have kn:Kn H H4 [] ([(x1,.st [.int .i64 q.params,.int .i64 q.regs,bc]),(x2,.st [.int .i64 q.params,.int .i64 q.regs,bc])]++(ks.flatMap IBlk.pl++bl)):=by
  have:=kn.stL 1 rfl h4;refine this.perm ?_;simp only[List.set,List.cons_append,List.nil_append,J4];exact .refl _
 have hx2:=kn.l 1 rfl;refine Qk ?_;simp only[go_sem,Q7,Qad,Qsu,Ja,forall_eq,RS.op,hbw,hx2];exact⟨unx H (ks.flatMap IBlk.pl++bl),.ag [.int .i64 q.params,.int .i64 q.regs,bc],H4.frz (unx H (ks.flatMap IBlk.pl++bl)),FrzL.ag (.cons (Qf rfl) (.cons (Qf rfl) (.cons (.same _ hbw) .nil))),Qe0 _ _,hK ks bc bl _ hky hko hgr kn.finK⟩
noncomputable def mxI (L:List Nat)(is:List InsD)(i:Nat):List InsD:=(is.take i).map (rnI L)++is.drop i
theorem Qbkq (L:List Nat)(is:List InsD)(i:Nat):(mxI L is i).length=is.length:=by
 simp only[mxI,Jg,Jc,Ju,Ja1];omega
theorem Qbvi {L:List Nat}{is:List InsD}{i:Nat}(h:i<is.length)(h2:i<(mxI L is i).length):(mxI L is i)[i]=is[i]:=by
 have hl:((is.take i).map (rnI L)).length=i:=by rw[Jc,Ju];omega
 simp only[mxI];rw[List.getElem_append_right (by omega)];simp only[hl,Jar,Jay,Jaq]
theorem Qbtq {L:List Nat}{is:List InsD}{i:Nat}(h:i<is.length):(mxI L is i).set i (rnI L is[i])=mxI L is (i+1):=by
 have hl:((is.take i).map (rnI L)).length=i:=by rw[Jc,Ju];omega
 rw[mxI,mxI,Jap _ _ (by omega),hl,Jar,Js h,Jaw,Jb h,Jo,J4];rfl
theorem Qbpr {L:List Nat}{is:List InsD}{i:Nat}(h:i<is.length)(h2:rnI L is[i]=is[i]):mxI L is (i+1)=mxI L is i:=by
 rw[mxI,mxI,Jb h,Js h,Jo,J4,List.map_singleton,h2];rfl
theorem Qbps (L:List Nat)(is:List InsD):mxI L is 0=is:=by simp[mxI]
theorem Qbtp (L:List Nat)(is:List InsD){i:Nat}(h:is.length≤i):mxI L is i=is.map (rnI L):=by
 rw[mxI,Je h,Jao h,Jm]
theorem Qbis (l:List InsD)(i:Nat)(x:InsD):(Qap l).set i x.cells=Qap (l.set i x):=by simp[Qap,Ja5]
def dcE (x4 x5 zb:Nat)(q:CodeD)(rows:List (List C)):List (Nat×Obj):=
 [(x4,.st [.int .i64 0,.int .i64 0,.sl true 5 []]),(x5,.st [.int .i64 q.params,.int .i64 q.regs,.vsl zb 5 0 q.blocks.length]),(zb,.vec 5 rows)]
set_option maxHeartbeats 8000000 in
theorem Qbh8 {f:Bool}{k xl:Nat}{L:List Nat}(hg:Qa3 cs=true)(hk:k<cs.length)(hLl:L.length≤1000)(hxl:H xl=.st [.sl false 1 (Q1 L)])(hK:∀H',Upd H H' []→K (.ag (rnC L (Qr3 cs k)).cells) H') :
  Qu prog Qby [.c (.int .i64 k),.c (.pp [.sl f 3 (Ql cs)]),.c (.ptr xl 0)] H K:=by
 have ho:=Qvw hg hk;rw[Qh5 hk]at hK;obtain⟨q,hq⟩:∃q,cs[k]=q:=⟨_,rfl⟩;rw[hq]at ho hK;have hb0:=ho.b0;have hb1:=ho.b1;refine Qt ?_;refine Qb Qam Q5n ?_;refine Qa ?_;simp only[go_sem];intro x4 hx4 H1 h1;have kn:=(Kn.start1 hxl (by nofun)).al hx4 h1;refine Qa ?_;simp only[go_sem,hk,Qx,Qaf _ _ hk,CodeD.cells,hq];refine Qav6 (q:=q) (by omega) ho.cl fun ks bc bl H3 hky hko hgr k2=>?_;have kn:=kn.comp0 k2;have hkl:ks.length=q.blocks.length:=by rw[←hky,Jc]
 obtain⟨zb,rfl,rfl⟩:∃z,bc=.vsl z 5 0 q.blocks.length∧bl=[(z,.vec 5 (ks.map IBlk.row))]:=by
  rcases hgr with ⟨_,h,_⟩|⟨y,h1,h2⟩
  ·have:=congrArg List.length h;simp only[Jc,Jh]at this;omega
  ·exact⟨y,by rw[h1,Jc,hkl],h2⟩
 simp only[go_sem,Qg9];intro x5 hx5 H4 h4;have kn:=kn.al hx5 h4;have hx5:H4 x5=.st [.int .i64 0,.int .i64 0,.sl true 5 []]:=(kn.get (x5,.st [.int .i64 0,.int .i64 0,.sl true 5 []]) (by simp)).1;simp only[go_sem,Qg8,hx5];intro H5 h5;obtain⟨R,hR⟩:∃R,ks.map IBlk.row=R:=⟨_,rfl⟩;have hRl:R.length=q.blocks.length:=by rw[←hR,Jc,hkl]
 rw[hR]at kn;have kn:Kn H H5 [(xl,.st [.sl false 1 (Q1 L)])] (dcE x4 x5 zb q R++(([]:List IBlk).flatMap IBlk.pl++ks.flatMap IBlk.pl)):=by
  have k3:=(kn.perm (Ji)).stL 0 rfl h5;exact k3.perm (Qn fun f hf h0 hc hp=>by
   have e:∀(a b c:Nat×Obj),f [a,b,c]=f [a]+f [b]+f [c]:=fun a b c=>by rw[hc a [b,c],hc b [c]];omega
   show f ([(x5,_)]++_)=_;simp only[hf,dcE,e,J5,h0];omega)
 clear hx5 h5 hgr;have hx5:=kn.l 1 rfl;have hzb:=kn.l 2 rfl;refine Q5 ?_;refine Qa ?_;simp only[go_sem,hx5,hzb,hRl,Jr,Jq];try intro _
 refine Qh (Qc (Qv (fun m e1 H1=>∃(ds ks:List IBlk),m=ks.length∧ds.length+ks.length=q.blocks.length∧ks.map IBlk.y=q.blocks.drop ds.length∧ds.map IBlk.y=(q.blocks.take ds.length).map (rnB L)∧(∀d∈ds,d.ok)∧(∀b∈ks,b.ok)∧(ds++ks).map IBlk.row=R∧
  Kn H H1 [(xl,.st [.sl false 1 (Q1 L)])] (dcE x4 x5 zb q R++(ds.flatMap IBlk.pl++ks.flatMap IBlk.pl))∧
  lk 2 e1=.c (.ptr xl 0)∧lk 4 e1=.c (.ptr x4 0)∧lk 5 e1=.c (.ptr x5 0)∧lk 16 e1=.c (.vsl zb 5 0 q.blocks.length)∧lk 17 e1=.c (.int .i64 q.blocks.length)∧lk 18 e1=.c (.int .i64 ds.length)) q.blocks.length ?_ ?_))
 ·exact⟨[],ks,by omega,by simpa using hkl,by simpa using hky,by simp,by simp,hko,hR,kn,rfl,rfl,rfl,rfl,rfl,rfl⟩
 ·clear hx5 hzb hko hky hkl hR;rintro m2 e2 H6 ⟨ds,ks,hm2,hlen,hky,hdy,hdo,hko,hR,kn,l2,l4,l5,l16,l17,l18⟩;refine Qa ?_;simp only[go_sem,l2,l4,l5,l16,l17,l18];refine Qh (Qd rfl ?_ ?_)
  ·intro hc;have hlt:ds.length<q.blocks.length:=by simpa using hc
   obtain⟨b,ks',rfl⟩:∃k ks',ks=k::ks':=by
    cases ks with
    |nil=>simp at hlen;omega
    |cons k ks'=>exact⟨k,ks',rfl⟩
   simp only[Jl]at hlen hm2;rw[Js hlt,Jal]at hky;obtain⟨hy,hky'⟩:=List.cons.inj hky;have hbo:=hko b Jag;have hil:=ho.il ds.length hlt;obtain⟨y,hy2⟩:∃y,b.y=y:=⟨_,rfl⟩;have hbo:Gr b.pl 4 (Qap y.ins) b.pc:=by rw[←hy2];exact hbo
   rw[←hy,hy2]at hil;have hrow:R.getD ds.length []=iRow y b.pc:=by
    rw[←hR,Jo,Jal];rw[Qbrv (by rw[Jc])];rw[IBlk.row,hy2]
   have htk:R.take q.blocks.length=R:=Je (by omega);obtain⟨pc,hpc⟩:∃pc,b.pc=pc:=⟨_,rfl⟩;obtain⟨pl,hpl⟩:∃pl,b.pl=pl:=⟨_,rfl⟩;rw[hpc]at hbo hrow;rw[hpl]at hbo;have hpw:=hbo.isOw;refine Qi ?_;try simp only[go_sem]
   refine Qcq (fun e1 H1=>∃(t:List (Nat×Obj)),Gr t 4 (Qap (y.ins.map (rnI L))) pc∧Kn H H1 [(xl,.st [.sl false 1 (Q1 L)])] (dcE x4 x5 zb q R++(ds.flatMap IBlk.pl++(t++ks'.flatMap IBlk.pl)))∧
    lk 2 e1=.c (.ptr xl 0)∧lk 4 e1=.c (.ptr x4 0)∧lk 5 e1=.c (.ptr x5 0)∧lk 16 e1=.c (.vsl zb 5 0 q.blocks.length)∧lk 17 e1=.c (.int .i64 q.blocks.length)∧lk 18 e1=.c (.int .i64 ds.length)) ?_ ?_
   ·intro Q hnr _ _;refine Qc ?_;have hzb:=kn.l 2 rfl;refine Qa ?_;simp only[go_sem,l2,l4,l5,l16,l17,l18,hzb,htk,hRl,hrow,iRow,hlt,hpw,Jr,Jq];intro x7 hx7 H7 h7;have kn:=kn.al hx7 h7;have hx7:H7 x7=.st [.sl true 2 [],.sl true 4 [],.int .i64 0,.int .i64 0,.sl true 1 []]:=(kn.get (x7,.st [.sl true 2 [],.sl true 4 [],.int .i64 0,.int .i64 0,.sl true 1 []]) (by simp)).1;simp only[go_sem,Qha,hx7,hpw];intro H8 h8;obtain⟨A,hA⟩:∃A,ds.flatMap IBlk.pl++ks'.flatMap IBlk.pl=A:=⟨_,rfl⟩;have kn:Kn H H8 [(xl,.st [.sl false 1 (Q1 L)])] (([(x7,.st (iRow y pc))]++(dcE x4 x5 zb q R++A))++pl):=by
     have k3:=(kn.perm (Ji)).stL 0 rfl h8;refine k3.perm (Qn fun f hf h0 hc hp=>?_);show f ([(x7,Obj.st (iRow y pc))]++_)=_;rw[←hA,Jaa,hpl];simp only[hf];omega
    have hlenp:=hbo.lenC;rw[Qaa]at hlenp;have hokp:=eq_true (hbo.slc kn).ok;have hx7:H8 x7=.st [.sl false 2 (Qab y.phis),pc,.int .i64 y.jump,.int .i64 y.on,.sl false 1 (Qe y.next)]:=kn.l 0 rfl;refine Qa ?_;simp only[go_sem,hx7,hpw,hlenp,hokp];try intro _
    refine Qc (Qv (fun m3 e1 H1=>∃(i:Nat) (t:List (Nat×Obj)),m3=y.ins.length-i∧i≤y.ins.length∧Gr t 4 (Qap (mxI L y.ins i)) pc∧Kn H H1 [(xl,.st [.sl false 1 (Q1 L)])] (([(x7,.st (iRow y pc))]++(dcE x4 x5 zb q R++A))++t)∧
     lk 2 e1=.c (.ptr xl 0)∧lk 4 e1=.c (.ptr x4 0)∧lk 5 e1=.c (.ptr x5 0)∧lk 7 e1=.c (.ptr x7 0)∧lk 16 e1=.c (.vsl zb 5 0 q.blocks.length)∧lk 17 e1=.c (.int .i64 q.blocks.length)∧lk 18 e1=.c (.int .i64 ds.length)∧lk 24 e1=.c (.int .i64 y.ins.length)∧lk 25 e1=.c (.int .i64 i)) y.ins.length ?_ ?_)
    ·exact⟨0,pl,by omega,by omega,by rw[Qbps];exact hbo,kn,rfl,rfl,rfl,rfl,rfl,rfl,rfl,rfl,rfl⟩
    ·clear kn hx7 hzb hokp hlenp l2 l4 l5 l16 l17 l18;rintro m3 e3 H9 ⟨i,t,hm3,hi,hgi,kn,l2,l4,l5,l7,l16,l17,l18,l24,l25⟩;refine Qa ?_;simp only[go_sem,l2,l4,l5,l7,l16,l17,l18,l24,l25];refine Qh (Qd rfl ?_ ?_)
     ·intro hc3;have hlt3:i<y.ins.length:=(by simpa using hc3);obtain⟨x,hx⟩:∃x,y.ins[i]=x:=⟨_,rfl⟩;have hml:=Qbkq L y.ins i;have hmi:i<(mxI L y.ins i).length:=(by rw[hml];exact hlt3);have hmx:=Qbvi (L:=L) hlt3 hmi;have hset:=Qbtq (L:=L) hlt3;have hsame:=Qbpr (L:=L) hlt3;rw[hx]at hmx hset hsame;obtain⟨zi,hpz,rfl⟩:∃z,pc=.vsl z 4 0 y.ins.length∧t=[(z,.vec 4 (Qap (mxI L y.ins i)))]:=by
       rcases hgi with ⟨_,h,_⟩|⟨z,h1,h2⟩
       ·have:=congrArg List.length h;rw[Qaa]at this;simp only[Jh]at this;omega
       ·exact⟨z,by rw[h1,Qaa,hml],h2⟩
      have hzi:H9 zi=.vec 4 (Qap (mxI L y.ins i)):=(kn.get (zi,.vec 4 (Qap (mxI L y.ins i))) (by simp)).1;have hx7:H9 x7=.st [.sl false 2 (Qab y.phis),pc,.int .i64 y.jump,.int .i64 y.on,.sl false 1 (Qe y.next)]:=kn.l 0 rfl;rw[hpz]at hx7;have hxl:=kn.e 0 rfl;have htk2:(Qap (mxI L y.ins i)).take y.ins.length=Qap (mxI L y.ins i):=Je (by rw[Qaa];omega);refine Qi ?_;try simp only[go_sem]
      refine Qcq (fun e1 H1=>∃(t:List (Nat×Obj)),Gr t 4 (Qap (mxI L y.ins (i+1))) pc∧Kn H H1 [(xl,.st [.sl false 1 (Q1 L)])] (([(x7,.st (iRow y pc))]++(dcE x4 x5 zb q R++A))++t)∧
       lk 2 e1=.c (.ptr xl 0)∧lk 4 e1=.c (.ptr x4 0)∧lk 5 e1=.c (.ptr x5 0)∧lk 7 e1=.c (.ptr x7 0)∧lk 16 e1=.c (.vsl zb 5 0 q.blocks.length)∧lk 17 e1=.c (.int .i64 q.blocks.length)∧lk 18 e1=.c (.int .i64 ds.length)∧lk 24 e1=.c (.int .i64 y.ins.length)∧lk 25 e1=.c (.int .i64 i)) ?_ ?_
      ·intro Q2 hnr2 _ _;refine Qc ?_;refine Qa ?_;simp only[go_sem,l2,l4,l5,l7,l16,l17,l18,l24,l25];refine Qa ?_;simp only[go_sem,hx7,hzi,htk2,hlt3,hml,Qaa,Qay _ _ hmi,hmx,InsD.cells,Jr,Jq];refine Qd rfl ?_ ?_
       ·intro hc4;have h14:x.op=14:=(by simpa using hc4);refine Qbh ?_;simp only[go_sem,hx7,hzi,hxl,htk2,hlt3,hml,Qaa,Qay _ _ hmi,hmx,InsD.cells,Jr,Jq];refine Qbhn (ns:=L.map Int.ofNat) (.mk' _ _ _ _) rfl fun r hr=>?_;simp only[go_sem,Qhb,hx7,hzi,htk2,hlt3,hml,Qaa,Qay _ _ hmi,hmx,InsD.cells,Jr,Jq];intro H10 h10;have hrn:rnI L x=⟨x.op,x.to,x.args,r⟩:=(by rw[rnI,if_pos h14,Qbiz hr]);have hrow2:(Qap (mxI L y.ins i)).set i [.int .i64 x.op,.int .i64 x.to,.sl false 1 (Qe x.args),.int .i64 r]=Qap (mxI L y.ins (i+1)):=by
         rw[←hset,hrn,←Qbis];rfl
        rw[hrow2]at h10;have kn:Kn H H10 [(xl,.st [.sl false 1 (Q1 L)])] ([(zi,.vec 4 (Qap (mxI L y.ins (i+1))))]++([(x7,.st (iRow y pc))]++(dcE x4 x5 zb q R++A))):=(kn.perm (Ji)).stL 0 rfl h10;refine hnr2 _ _ ⟨[(zi,.vec 4 (Qap (mxI L y.ins (i+1))))],?_,kn.perm Ji,rfl,rfl,rfl,rfl,rfl,rfl,rfl,rfl,rfl⟩;rw[hpz];exact .mk _ _ _ (by rw[Qaa,Qbkq])
       ·intro hc4;have h14:¬x.op=14:=(by simpa using hc4);refine Qi ?_;try simp only[go_sem]
        refine hnr2 _ _ ⟨_,?_,kn,rfl,rfl,rfl,rfl,rfl,rfl,rfl,rfl,rfl⟩;rw[hsame (by rw[rnI,if_neg h14])];exact hgi
      ·rintro e4 H10 ⟨t,hgi,kn,l2,l4,l5,l7,l16,l17,l18,l24,l25⟩;refine Qq ?_;simp only[go_sem,l2,l4,l5,l7,l16,l17,l18,l24,l25];refine⟨Qp (by omega) (by omega),?_⟩;show ∃m,_;exact⟨y.ins.length-(i+1),by omega,i+1,t,rfl,by omega,hgi,kn,rfl,rfl,rfl,rfl,rfl,rfl,rfl,rfl,rfl⟩
     ·intro hc3;have hge:y.ins.length≤i:=(by simpa using hc3);rw[Qbtp _ _ hge]at hgi;refine Qs ?_;simp only[go_sem,X.next];refine hnr _ _ ⟨t,hgi,Kn.drop (B:=[(x7,.st (iRow y pc))]) (kn.perm (Qn fun f hf h0 hc hp=>?_)),rfl,rfl,rfl,rfl,rfl,rfl⟩;rw[←hA];simp only[hf];omega
   ·rintro e4 H7 ⟨t,hgi,kn,l2,l4,l5,l16,l17,l18⟩;refine Qq ?_;simp only[go_sem,l2,l4,l5,l16,l17,l18];refine⟨Qp (by omega) (by omega),?_⟩;show ∃m,_;obtain⟨d,hd⟩:∃d:IBlk,d=⟨rnB L y,pc,t⟩:=⟨_,rfl⟩;have hdo2:d.ok:=(by rw[hd];exact hgi);have hdr:d.row=b.row:=(by rw[hd,IBlk.row,IBlk.row,hpc,hy2];rfl);refine⟨ks'.length,by omega,ds++[d],ks',rfl,by simp only[Jg,Jl,Jh];omega,by simpa using hky',?_,fun w hw=>?_,fun b hb=>hko b (Jab _ hb),?_,?_,rfl,rfl,rfl,rfl,rfl,by simp[lk]⟩
    ·rw[Jo,hdy,Jg,J8,Jb hlt,Jo,←hy,hy2,hd];rfl
    ·rcases Jz.1 hw with hw|hw
     ·exact hdo w hw
     ·simp only[Ja]at hw;rw[hw];exact hdo2
    ·rw[←hR];simp[hdr]
    ·refine kn.perm (Qn fun f hf h0 hc hp=>?_);have e:d.pl=t:=(by rw[hd]);simp only[hf,Jae,Jaa,J5,Jm,e];omega
  ·intro hc;have hks:ks=[]:=by
    have:q.blocks.length≤ds.length:=(by simpa using hc);exact List.eq_nil_of_length_eq_zero (by omega)
   subst hks;simp only[Jh,Jaq]at hlen;rw[hlen,Jan]at hdy;rw[Jm]at hR;refine Qs ?_;simp only[go_sem,X.next];have hx5:=kn.l 1 rfl;have hx4:=kn.l 0 rfl;refine Qa ?_;simp only[go_sem,l4,l5,hx5,hx4];intro H7 h7;have kn:Kn H H7 [(xl,.st [.sl false 1 (Q1 L)])] ([(x4,.st [.int .i64 q.params,.int .i64 q.regs,.vsl zb 5 0 q.blocks.length]),(x5,.st [.int .i64 q.params,.int .i64 q.regs,.vsl zb 5 0 q.blocks.length]),(zb,.vec 5 R)]++(ds.flatMap IBlk.pl++([]:List IBlk).flatMap IBlk.pl)):=kn.stL 0 rfl h7;have hx4:=kn.l 0 rfl;have hz:H7 zb=.vec 5 R:=kn.l 2 rfl;have hzu:un H zb=true:=kn.un 2 rfl;have hmem:∀p∈ds.flatMap IBlk.pl,H7 p.1=p.2∧un H p.1=true:=fun p hp=>
    ⟨(kn.get p (Jn _ (Jn _ (J1 _ hp)))).1,Qeb (kn.loc p (Jn _ (J1 _ hp)))⟩
   have hrows:FrzR H7 (un H) R (Qm (rnC L q).blocks):=by
    rw[←hR,rnC,←hdy];exact IBlk.frzR hdo fun w hw p hp=>hmem p (Jak.2 ⟨w,hw,hp⟩)
   refine Qk ?_;simp only[go_sem,Q7,Qad,Qlu,Ja,forall_eq,RS.op,hx4];exact⟨_,FrzL.ag (.cons (Qf rfl) (.cons (Qf rfl) (.cons (FrzR.vsl hzu hz hRl.symm hrows) .nil))),hK _ (kn.fin.drop1 hxl)⟩
end Go.AE.Y
namespace Go.AE.Y
attribute [local go_sem] cond_true cond_false Bool.not_true Bool.not_false
attribute [local instance] Classical.propDecidable
open Go.Proofs.Tryz
variable {H H0:Heap}{K:V→Heap→Prop}{E B Lg:List (Nat×Obj)}{q:CodeD}{cs:List CodeD}
structure Fnd (cs:List CodeD)(bs:List Bool)(n:Nat):Prop where
 len:bs.length=cs.length
 top:bs.getD (cs.length-1) false=true
 nd:∀x,bs.getD x false=true→Nd cs x
 cl:∀x,n≤x→bs.getD x false=true→∀m∈kcN (Qr3 cs x),bs.getD m false=true
theorem Qavm {bs:List Bool}{m x:Nat}(h:bs.getD x false=true):(bs.set m true).getD x false=true:=by
 rw[Qc5];split
 ·rfl
 ·exact h
theorem Fnd.set {bs:List Bool}{n m k:Nat}(h:Fnd cs bs n)(hg:Qa3 cs=true)(hk:bs.getD k false=true)(hm:m∈kcN (Qr3 cs k))(hkn:k<n):Fnd cs (bs.set m true) n:=by
 have hnk:=h.nd k hk;have hlt:=Qbs6 hg (Qasf hg hnk) hm;refine⟨by rw[List.length_set];exact h.len,Qavm h.top,fun x hx=>?_,fun x hx hb m' hm'=>?_⟩
 ·rw[Qc5]at hx;split at hx
  ·rename_i hh
   rw[hh.1];exact .to hnk hm
  ·exact h.nd x hx
 ·rw[Qc5,if_neg (by omega)]at hb;exact Qavm (h.cl x hx hb m' hm')
theorem Qbik (hg:Qa3 cs=true):Fnd cs ((List.replicate cs.length false).set (cs.length-1) true) cs.length:=by
 have h1:=(of_decide_eq_true hg).1;refine⟨by simp,?_,fun x hx=>?_,fun x hx hb=>?_⟩
 ·rw[Qc5,if_pos ⟨rfl,by rw[Jai];omega⟩]
 ·rw[Qc5]at hx;split at hx
  ·rename_i hh
   rw[hh.1];exact .top
  ·rw[Qax]at hx;simp at hx
 ·rw[Qc5,if_neg (by omega),Qax]at hb;simp at hb
theorem Qbn9 {bs:List Bool}(hg:Qa3 cs=true)(h:Fnd cs bs 0):Qafu bs bs.length=Qdi cs:=by
 have hm:∀x,x∈Qafu bs bs.length↔bs.getD x false=true:=fun x=>by
  simp only[Qafu,Jah,J2];refine⟨fun h=>h.2,fun hx=>⟨?_,hx⟩⟩;by_cases hl:x<bs.length
  ·exact hl
  ·rw[Jf,J7 (by omega)]at hx;simp at hx
 refine Qbks hg (Jat _ J6) ((hm _).2 h.top) (fun k hk n hn=>?_) fun k hk=>h.nd k ((hm k).1 hk);exact (hm n).2 (h.cl k (Nat.zero_le _) ((hm k).1 hk) n hn)
set_option maxHeartbeats 4000000 in
theorem Qalt {fl:Bool}(hfit:∀c∈cs,c.fits)(hK:∀H',Upd H H' []→K (.c (.sl false 1 (Q1 (Qabj cs)))) H') :
  Qu prog Qf2 [.ag [.sl fl 3 (Ql cs)]] H K:=by
 refine Qt ?_;refine Qb Qam Qabi ?_;refine Qa ?_;simp only[go_sem];refine Qa ?_;simp only[go_sem];refine Q5 ?_;refine Qa ?_;simp only[go_sem];refine Qec hfit fun H1 hu=>?_;have kn:=(Kn.start0 H).call0 hu;simp only[go_sem,Qjg];refine Qh (Qd rfl ?_ ?_)
 ·intro hc;have hg:Qa3 cs=false:=Qsp hc;refine Qa ?_;simp only[go_sem];refine Qk ?_;simp only[go_sem,X.next,Q7,Qad,Qg1,Ja,forall_eq,RS.op];have:=hK _ kn.fin;rw[Qabj,hg]at this;exact⟨_,.c _ _ FrzR.nil.sl,this⟩
 ·intro hc;have hg:Qa3 cs=true:=Qfg hc;rw[Qabj,if_pos hg]at hK;have h14:=(of_decide_eq_true hg).1;have e1:(cs.length:Int)-1=((cs.length-1:Nat):Int):=by omega
  have hl1:cs.length-1<cs.length:=by omega
  have hlr:cs.length-1<(List.replicate cs.length false).length:=by rw[Jai];exact hl1
  refine Qi ?_;try simp only[go_sem]
  refine Qa ?_;simp only[go_sem,Qx,Qbf];try intro _
  refine⟨by simp only[LIM];omega,fun y hy H2 h2=>?_⟩;have kn:=kn.al hy h2;have hy:=kn.l 0 rfl;simp only[go_sem,Qjh];refine Qa ?_;simp only[go_sem,hy,Qx,e1,hl1,Qy,Jai,Q4 _ _ hlr,Qbg,Jr,Jq];try intro _
  refine⟨Qp (by omega) (by omega),fun H3 h3=>?_⟩;have kn:Kn H H3 [] [(y,.vec 1 (Qo ((List.replicate cs.length false).set (cs.length-1) true)))]:=kn.stL 0 rfl h3;refine Q5 ?_;refine Qa ?_;simp only[go_sem,Qx];try intro _
  refine⟨Qp (by omega) (by omega),?_⟩;refine Qh (Qc (Qv (fun m e1 H1=>∃(bs:List Bool),Fnd cs bs m∧m≤cs.length∧Kn H H1 [] [(y,.vec 1 (Qo bs))]∧
   lk 1 e1=.c (.pp [.sl fl 3 (Ql cs)])∧lk 4 e1=.c (.vsl y 1 0 cs.length)∧lk 5 e1=.c (.int .i64 ((m:Int)-1))) cs.length ?_ ?_))
  ·exact⟨_,Qbik hg,by omega,kn,rfl,rfl,rfl⟩
  ·clear kn hy;rintro m e1 H4 ⟨bs,hf,hm,kn,l1,l4,l5⟩;refine Q5 ?_;refine Qa ?_;simp only[go_sem,l1,l4,l5];refine Qh (Qd rfl ?_ ?_)
   ·intro hc2;obtain⟨k,rfl⟩:∃k,m=k+1:=⟨m-1,by simp at hc2;omega⟩;have e5:((k+1:Nat):Int)-1=(k:Int):=(by omega);rw[e5]at l5;have hkl:k<cs.length:=(by omega);have ho:=Qvw hg hkl;have hgk:hasG cs (k:Int)=true:=by
     simp only[hasG,hg,Bool.true_and,decide_eq_true_eq];omega
    obtain⟨q,hq⟩:∃q,cs[k]=q:=⟨_,rfl⟩;have hcl:Qaem cs (k:Int)=caL q:=by
     rw[Qaem,if_pos hgk];simp[hkl,hq]
    have hcd:Qr3 cs k=q:=(by rw[Qh5 hkl,hq]);rw[hq]at ho;have hcle:=Qbrm ho;refine Qi ?_;try simp only[go_sem]
    refine Qh (Qc ?_);refine Qa ?_;simp only[go_sem,l1,l4,l5,e5];refine Qy4 hfit fun H5 hu=>?_;have kn:=kn.call0 hu;rw[hcl];simp only[go_sem,Qji];refine Qa ?_;simp only[go_sem,l1,l4,l5,e5];refine Qc (Qv (fun m2 e1 H1=>∃(i:Nat) (bs:List Bool),m2=(caL q).length-i∧i≤(caL q).length∧Fnd cs bs (k+1)∧(∀x∈(kcN q).take i,bs.getD x false=true)∧Kn H H1 [] [(y,.vec 1 (Qo bs))]∧
     lk 1 e1=.c (.pp [.sl fl 3 (Ql cs)])∧lk 4 e1=.c (.vsl y 1 0 cs.length)∧lk 5 e1=.c (.int .i64 (k:Int))∧lk 6 e1=.c (.sl false 1 (Qca (caL q)))∧lk 7 e1=.c (.int .i64 i)) (caL q).length ?_ ?_)
    ·exact⟨0,bs,by omega,by omega,hf,by simp,kn,rfl,rfl,rfl,rfl,rfl⟩
    ·clear kn hf l1 l4 l5;rintro m2 e2 H6 ⟨i,bs,hm2,hi,hf,hin,kn,l1,l4,l5,l6,l7⟩;have hy:=kn.l 0 rfl;have hkb:k<bs.length:=(by rw[hf.len];exact hkl);have hbl:=hf.len;have htk:List.take cs.length (Qo bs)=Qo bs:=Je (by rw[Qy];omega);have done:(∀x∈kcN q,bs.getD x false=true)∨bs.getD k false=false→Fnd cs bs k:=fun h=>⟨hf.len,hf.top,hf.nd,fun x hx hb m' hm'=>by
      by_cases hxk:x=k
      ·subst hxk;rw[hcd]at hm';rcases h with h|h
       ·exact h m' hm'
       ·rw[h]at hb;simp at hb
      ·exact hf.cl x (by omega) hb m' hm'⟩
     refine Q5 ?_;refine Qa ?_;simp only[go_sem,l1,l4,l5,l6,l7,Qdo];try intro _
     by_cases hlt:i<(caL q).length
     ·have hlt':decide ((i:Int)<((caL q).length:Int))=true:=decide_eq_true (by omega);simp only[go_sem,hlt',l1,l4,l5,l6,l7,hy,hkl,hkb,hbl,htk,Qy,Q4 _ _ hkb,Ja3,Jr,Jq];refine Qh (Qd rfl ?_ ?_)
      ·intro hc3;have hbk:bs.getD k false=true:=hc3;obtain⟨p,hp⟩:∃p,(caL q)[i]=p:=⟨_,rfl⟩;obtain⟨b,j,rfl,hb,hj,ho14,he⟩:=Qav2 (p:=p) (by rw[←hp];exact Jd hlt);obtain⟨w,hw,hwk⟩:∃n:Nat,q.blocks[b].ins[j].n=n∧n<k:=by
        have:=Qael (b:=b) (i:=j) hg hkl;simp only[hq]at this;exact this hb hj ho14
       have hkc:(kcN q).take (i+1)=(kcN q).take i++[w]:=by
        rw[Jb (by rw[kcN,Jc];exact hlt)];congr 2;simp only[kcN,Jac,hp,he,hw,J3]
       have hwm:w∈kcN (Qr3 cs k):=by
        rw[hcd];have:w∈(kcN q).take (i+1):=(by rw[hkc];simp);exact List.mem_of_mem_take this
       have hf2:=hf.set hg hbk hwm (by omega);obtain⟨z,hz⟩:∃z,q.blocks[b]=z:=⟨_,rfl⟩;simp only[hz]at hj hw;obtain⟨x,hx⟩:∃x,z.ins[j]=x:=⟨_,rfl⟩;rw[hx]at hw;have hwl:w<cs.length:=(by omega);have hwb:w<bs.length:=(by omega);have tn0:Int.toNat 0=0:=rfl;have tn1:Int.toNat 1=1:=rfl;have h01:((0:Int)≤1)=True:=(by simp);have l01:(0<0+1+1)=True:=(by simp);have l11:(1<0+1+1)=True:=(by simp);refine Qi ?_;try simp only[go_sem]
       refine Qh (Qc ?_);refine Qbh ?_;simp only[go_sem,l1,l4,l5,l6,l7,hlt,hkl,Qdo,Q5r _ _ hlt,hp,pRow,Qx,Qaf _ _ hkl,CodeD.cells,hq,hb,Qj,Q9 _ _ hb,BlkD.cells,hz,hj,Qaa,Qay _ _ hj,InsD.cells,hx,hw,hy,hwl,hwb,hbl,Qy,Q4 _ _ hwb,Qbg,tn0,tn1,h01,l01,l11,Ja8,Jx,Jw,Jr,Jq];intro H7 h7;have kn:Kn H H7 [] [(y,.vec 1 (Qo (bs.set w true)))]:=kn.stL 0 rfl h7;refine Qq ?_;simp only[go_sem,l1,l4,l5,l6,l7];refine⟨Qp (by omega) (by omega),?_⟩;show ∃m,_;refine⟨(caL q).length-(i+1),by omega,i+1,_,rfl,by omega,hf2,fun x hx=>?_,kn,rfl,rfl,rfl,rfl,rfl⟩;rw[hkc]at hx;rcases Jz.1 hx with hx|hx
       ·exact Qavm (hin x hx)
       ·simp only[Ja]at hx;subst hx;rw[Qc5,if_pos ⟨rfl,hwb⟩]
      ·intro hc3;have hbk:bs.getD k false=false:=hc3;refine Qs ?_;simp only[go_sem,X.next];refine Qq ?_;simp only[go_sem,l1,l4,l5];refine⟨Qp (by omega) (by omega),?_⟩;show ∃m,_;exact⟨k,by omega,bs,done (.inr hbk),by omega,kn,rfl,rfl,rfl⟩
     ·have hlt':decide ((i:Int)<((caL q).length:Int))=false:=decide_eq_false (by omega);simp only[go_sem,hlt',l1,l4,l5,l6,l7,hy,hkl,hkb,hbl,htk,Qy,Q4 _ _ hkb,Ja3,Jr,Jq];refine Qh (Qd rfl ?_ ?_)
      ·intro h;simp at h
      intro _;rw[Je (by rw[kcN,Jc];omega)]at hin;refine Qs ?_;simp only[go_sem,X.next];refine Qq ?_;simp only[go_sem,l1,l4,l5];refine⟨Qp (by omega) (by omega),?_⟩;show ∃m,_;exact⟨k,by omega,bs,done (.inl hin),by omega,kn,rfl,rfl,rfl⟩
   ·intro hc2;obtain rfl:m=0:=(by simp at hc2;omega);refine Qs ?_;simp only[go_sem,X.next];refine Qa ?_;simp only[go_sem,l4];refine Qbi7 (vslc (kn.l 0 rfl) (by rw[Qy,hf.len])) rfl (by rw[hf.len];omega) fun H5 hu=>?_;have kn:=kn.call0 hu;simp only[go_sem,Qhi];refine Qk ?_;simp only[go_sem,Q7,Qad,Qg1,Ja,forall_eq,RS.op];have:=hK _ kn.fin;rw[←Qbn9 hg hf]at this;exact⟨_,.c _ _ (Qgy (noOw_mem (Qat _))),this⟩
end Go.AE.Y
namespace Go.AE.Y
attribute [local go_sem] cond_true cond_false Bool.not_true Bool.not_false
attribute [local instance] Classical.propDecidable
open Go.Proofs.Tryz
variable {H H0 F:Heap}{K:V→Heap→Prop}{E B Lg:List (Nat×Obj)}{q:CodeD}{cs:List CodeD}
noncomputable def Qnp (cs:List CodeD):List CodeD:=if Qa3 cs=true then Qc0 cs (Qdi cs)else []
theorem Qbc1 (hg:Qa3 cs=true):(Qdi cs).length≤1000:=by
 have:=Qbc0 (cs:=cs);have:=(of_decide_eq_true hg).1;omega
theorem Qbkt (hg:Qa3 cs=true):∀x∈Qdi cs,x<cs.length:=fun x hx=>Qasf hg ((Qci hg).1 hx)
set_option maxHeartbeats 4000000 in
theorem Qbkl {f g:Bool}{L:List Nat}{xl:Nat}(hg:Qa3 cs=true)(hLl:L.length≤1000)(hL:∀x∈L,x<cs.length)(hxl:H xl=.st [.sl false 1 (Q1 L)])
  (hK:∀H',Upd H H' []→K (.c (.sl false 3 (Ql (Qc0 cs L)))) H') :
  Qu prog Qct [.c (.sl g 1 (Q1 L)),.c (.fn Qby [.pp [.sl f 3 (Ql cs)],.ptr xl 0])] H K:=by
 refine Qt ?_;refine Qb Qam Qwi ?_;have kn:=Kn.start1 hxl (by nofun);refine Qa ?_;simp only[go_sem];refine Qa ?_;simp only[go_sem];refine Q5 ?_;refine Qa ?_;simp only[go_sem,Qz];try intro _
 refine Qh (Qc (Qv (fun m e1 H1=>∃(i:Nat) (t:C) (Lg:List (Nat×Obj)),m=L.length-i∧i≤L.length∧Gr Lg 3 (Ql ((Qc0 cs L).take i)) t∧Kn H H1 [(xl,.st [.sl false 1 (Q1 L)])] ([]++Lg)∧
  lk 1 e1=.c (.fn Qby [.pp [.sl f 3 (Ql cs)],.ptr xl 0])∧lk 5 e1=.c t∧lk 8 e1=.c (.sl g 1 (Q1 L))∧lk 9 e1=.c (.int .i64 L.length)∧lk 10 e1=.c (.int .i64 i)) L.length ?_ ?_))
 ·exact⟨0,_,[],by omega,by omega,.nil 3,kn,rfl,rfl,rfl,rfl,rfl⟩
 ·clear kn;rintro m e1 H1 ⟨i,t,Lg,hm,hi,hgr,kn,l1,l5,l8,l9,l10⟩;have htw:=hgr.isOw;refine Qa ?_;simp only[go_sem,l1,l5,l8,l9,l10,htw];refine Qh (Qd rfl ?_ ?_)
  ·intro hc;have hlt:i<L.length:=by simpa using hc
   obtain⟨k,hk⟩:∃k,L[i]=k:=⟨_,rfl⟩;have hgd:L.getD i 0=k:=by simp[Jf,hlt,hk]
   have hkl:k<cs.length:=hL k (by rw[←hk];exact Jd hlt);have hid:i<(Qc0 cs L).length:=by rw[Qbx];exact hlt
   have htk:(Qc0 cs L).take (i+1)=(Qc0 cs L).take i++[rnC L (Qr3 cs k)]:=by
    rw[Jb hid,Qvz hid];simp only[hk]
   refine Qi ?_;try simp only[go_sem]
   refine Qh (Qc ?_);refine Qa ?_;simp only[go_sem,l1,l5,l8,l9,l10,htw,hlt,Qz,Qai _ _ hlt,hgd];refine Qq ?_;simp only[go_sem,htw];refine Qbh8 hg hkl hLl (kn.e 0 rfl) fun H4 hu=>?_;have kn:=kn.call0 hu;simp only[go_sem,Qe8,htw,CodeD.cells];refine kn.growR (new:=Ql [rnC L (Qr3 cs k)]) hgr (.mk' _ _ _ _) (Qbr _) (by simp only[Qx,Ju,LIM,Jl,Jh];omega) fun t2 Lg2 H5 hgr2 ht2 kn=>?_;simp only[go_sem,Qe7,ht2];refine Qq ?_;simp only[go_sem,ht2];refine⟨Qp (by omega) (by omega),?_⟩;show ∃m,_;refine⟨L.length-(i+1),by omega,i+1,t2,Lg2,rfl,by omega,?_,kn,rfl,rfl,rfl,rfl,rfl⟩;have:Ql ((Qc0 cs L).take (i+1))=Ql ((Qc0 cs L).take i)++Ql [rnC L (Qr3 cs k)]:=by rw[htk];simp[Ql]
   rw[this];exact hgr2
  ·intro hc;have hge:L.length≤i:=by simpa using hc
   rw[Je (by rw[Qbx];exact hge)]at hgr;refine Qs ?_;simp only[go_sem,X.next];refine Qa ?_;simp only[go_sem,l5,htw];refine Qk ?_;simp only[go_sem,Q7,Qad,Qg5,Ja,forall_eq,RS.op,htw];exact⟨_,.c _ _ (hgr.frz kn (Qbr _)),hK _ (kn.fin.drop1 hxl)⟩
theorem Q1j {fl:Bool}(hfit:∀c∈cs,c.fits)(hK:∀H',Upd H H' []→K (.tup [.ag [.sl false 3 (Ql (Qnp cs))],.c (.bool (Qa3 cs))]) H') :
  Qu prog Qet [.ag [.sl fl 3 (Ql cs)]] H K:=by
 refine Qt ?_;refine Qb Qam Qal5 ?_;refine Qa ?_;simp only[go_sem];intro x2 hx2 H1 h1;have kn:=(Kn.start0 H).al hx2 h1;simp only[go_sem,Ql2];refine Q5 ?_;refine Qa ?_;simp only[go_sem];refine Q1k hfit fun H2 hu=>?_;have kn:=kn.call0 hu;have hx2:=kn.l 0 rfl;simp only[go_sem,Ql3];refine Qh (Qd rfl ?_ ?_)
 ·intro hc;have hc:Qa3 cs=false:=Qsp hc;refine Qa ?_;simp only[go_sem,hx2];intro H3 h3;have kn:=kn.stL 0 rfl h3;have hx2:=kn.l 0 rfl;simp only[go_sem,Ql4];refine Qk ?_;simp only[go_sem,X.next,Q7,Qad,Qkz,Jp,Jv,RS.op,hx2];have hK:=hK _ kn.fin;rw[Qnp,hc]at hK;exact⟨fun _=>trivial,_,Qsi (FrzL.ag (.cons FrzR.nil.sl .nil)) (.c _ _ (Qf rfl)),hK⟩
 ·intro hc;have hg:Qa3 cs=true:=Qfg hc;rw[Qnp,if_pos hg,hg]at hK;refine Qi ?_;try simp only[go_sem]
  refine Qa ?_;simp only[go_sem];refine Q08 hg fun H3 hu=>?_;have kn:=kn.call0 hu;simp only[go_sem,Ql6];intro x4 hx4 H4 h4;have kn:=kn.al hx4 h4;have hx4:=kn.l 1 rfl;simp only[go_sem,Ql5,hx4];intro H5 h5;have kn:Kn H H5 [] [(x2,.st [.sl true 3 []]),(x4,.st [.sl false 1 (Q1 (Qdi cs))])]:=kn.stL 1 rfl h5;have hx4:=kn.l 1 rfl;refine Qa ?_;simp only[go_sem,hx4];refine Qbkl hg (Qbc1 hg) (Qbkt hg) hx4 fun H6 hu=>?_;have kn:=kn.call0 hu;have hx2:=kn.l 0 rfl;simp only[go_sem,Ql8,hx2];intro H7 h7;have kn:=kn.stL 0 rfl h7;have hx2:=kn.l 0 rfl;simp only[go_sem,Ql7];refine Qk ?_;simp only[go_sem,X.next,Q7,Qad,Qkz,Jp,Jv,RS.op,hx2];exact⟨fun _=>trivial,_,Qsi (Qfe _) (.c _ _ (Qf rfl)),hK _ kn.fin⟩
noncomputable def rnO (L:List Nat)(x:OIns):OIns:=if x.op=14 then { x with n:=ixI L x.n } else x
theorem Qbwv (L:List Nat)(x:OIns):(rnO L x).d=rnI L x.d:=by
 by_cases h:x.op=14
 ·have h2:x.d.op=14:=h;rw[rnO,if_pos h,rnI,if_pos h2];rfl
 ·have h2:¬x.d.op=14:=h;rw[rnO,if_neg h,rnI,if_neg h2]
theorem Qbvt (L:List Nat)(x:OIns):(rnO L x).lg=x.lg:=by
 rw[rnO];split <;> rfl
noncomputable def mxO (L:List Nat)(is:List OIns)(i:Nat):List OIns:=(is.take i).map (rnO L)++is.drop i
theorem Qbkr (L:List Nat)(is:List OIns)(i:Nat):(mxO L is i).length=is.length:=by
 simp only[mxO,Jg,Jc,Ju,Ja1];omega
theorem Qbvj {L:List Nat}{is:List OIns}{i:Nat}(h:i<is.length)(h2:i<(mxO L is i).length):(mxO L is i)[i]=is[i]:=by
 have hl:((is.take i).map (rnO L)).length=i:=by rw[Jc,Ju];omega
 simp only[mxO];rw[List.getElem_append_right (by omega)];simp only[hl,Jar,Jay,Jaq]
theorem Qbts {L:List Nat}{is:List OIns}{i:Nat}(h:i<is.length):(mxO L is i).set i (rnO L is[i])=mxO L is (i+1):=by
 have hl:((is.take i).map (rnO L)).length=i:=by rw[Jc,Ju];omega
 rw[mxO,mxO,Jap _ _ (by omega),hl,Jar,Js h,Jaw,Jb h,Jo,J4];rfl
theorem Qbpt {L:List Nat}{is:List OIns}{i:Nat}(h:i<is.length)(h2:rnO L is[i]=is[i]):mxO L is (i+1)=mxO L is i:=by
 rw[mxO,mxO,Jb h,Js h,Jo,J4,List.map_singleton,h2];rfl
theorem Qbtr (L:List Nat)(is:List OIns){i:Nat}(h:is.length≤i):mxO L is i=is.map (rnO L):=by
 rw[mxO,Je h,Jao h,Jm]
def Ql1 (is:List OIns):List (List C):=is.map OIns.row
theorem Qe4 (is:List OIns):(Ql1 is).length=is.length:=by simp[Ql1]
theorem Q5x (is:List OIns)(i:Nat)(h:i<is.length):(Ql1 is).getD i []=is[i].row:=by simp[Ql1,Jf,h]
theorem Qblb (is:List OIns)(i:Nat)(x:OIns):(Ql1 is).set i x.row=Ql1 (is.set i x):=by simp[Ql1,Ja5]
noncomputable def rnOB (L:List Nat)(b:OBlk)(t:List (Nat×Obj)):OBlk:={ b with ins:=b.ins.map (rnO L),il:=t }
theorem Qbvs (L:List Nat)(b:OBlk)(t:List (Nat×Obj)):(rnOB L b t).d=rnB L b.d:=by
 simp only[rnOB,OBlk.d,rnB,Jaf];congr 1;exact Jy fun x _=>Qbwv L x
theorem Qbp8 (L:List Nat)(is:List OIns):(is.map (rnO L)).flatMap OIns.lg=is.flatMap OIns.lg:=by
 rw[List.flatMap_map];congr 1
 funext x;exact Qbvt L x
theorem Qbdy {S:Nat→Bool}{os:List OCode}(ho:∀o∈os,o.ok)(h:Held H S (os.flatMap OCode.lg)):FrzR H S (os.map OCode.row) (Ql (os.map OCode.d)):=by
 rw[Ql,Jaf];exact Qhq os fun x hx=>.cons (Qf rfl) (.cons (Qf rfl) (.cons (Gr.frzM (ho x hx).b (h.m hx).r (Qbhx (ho x hx).bs (h.m hx).l)) .nil))
def dsE (x2 x5 x7 z:Nat)(t:C)(q:CodeD)(rows:List (List C)):List (Nat×Obj):=
 [(x2,.st [.sl true 3 []]),(x5,.st [t]),(x7,.st [.int .i64 q.params,.int .i64 q.regs,.vsl z 5 0 q.blocks.length]),(z,.vec 5 rows)]
set_option maxHeartbeats 8000000 in
theorem Qavp {fl:Bool}(hfit:∀c∈cs,c.fits)(hK:∀H',Upd H H' []→K (.tup [.ag [.sl false 3 (Ql (Qnp cs))],.c (.bool (Qa3 cs))]) H') :
  Qu prog Qim [.ag [.sl fl 3 (Ql cs)]] H K:=by
 refine Qt ?_;refine Qb Qam Qami ?_;refine Qa ?_;simp only[go_sem];intro x2 hx2 H1 h1;have kn:=(Kn.start0 H).al hx2 h1;simp only[go_sem,Qm2];refine Q5 ?_;refine Qa ?_;simp only[go_sem];refine Qec hfit fun H2 hu=>?_;have kn:=kn.call0 hu;have hx2:=kn.l 0 rfl;simp only[go_sem,Qm3];refine Qh (Qd rfl ?_ ?_)
 ·intro hc;have hc:Qa3 cs=false:=Qsp hc;refine Qa ?_;simp only[go_sem,hx2];intro H3 h3;have kn:=kn.stL 0 rfl h3;have hx2:=kn.l 0 rfl;simp only[go_sem,Qm4];refine Qk ?_;simp only[go_sem,X.next,Q7,Qad,Qk3,Jp,Jv,RS.op,hx2];have hK:=hK _ kn.fin;rw[Qnp,hc]at hK;exact⟨fun _=>trivial,_,Qsi (FrzL.ag (.cons FrzR.nil.sl .nil)) (.c _ _ (Qf rfl)),hK⟩
 ·intro hc;have hg:Qa3 cs=true:=Qfg hc;have hL1:=Qbc1 hg;have hL2:=Qbkt hg;have hni:Qabj cs=Qdi cs:=by rw[Qabj,if_pos hg]
  rw[Qnp,if_pos hg,hg]at hK;refine Qi ?_;try simp only[go_sem]
  refine Qa ?_;simp only[go_sem];refine Qalt hfit fun H3 hu=>?_;have kn:=kn.call0 hu;rw[hni];obtain⟨L,hL⟩:∃L,Qdi cs=L:=⟨_,rfl⟩;rw[hL]at hL1 hL2 hK⊢;simp only[go_sem,Qm5];refine Qa ?_;simp only[go_sem];intro x5 hx5 H4 h4;have kn:=kn.al hx5 h4;have hx5:=kn.l 1 rfl;simp only[go_sem,Qm6,hx5];intro H5 h5;have kn:Kn H H5 [] [(x2,.st [.sl true 3 []]),(x5,.st [.sl true 3 []])]:=kn.stL 1 rfl h5;refine Q5 ?_;refine Qa ?_;simp only[go_sem];refine Qh (Qc (Qv (fun m e1 H1=>∃(os:List OCode) (t:C) (Lg:List (Nat×Obj)),m=L.length-os.length∧os.length≤L.length∧os.map OCode.d=(Qc0 cs L).take os.length∧(∀o∈os,o.ok)∧Gr Lg 3 (os.map OCode.row) t∧
   Kn H H1 [] (([(x2,.st [.sl true 3 []]),(x5,.st [t])]++os.flatMap OCode.lg)++Lg)∧
   lk 1 e1=.c (.pp [.sl fl 3 (Ql cs)])∧lk 2 e1=.c (.ptr x2 0)∧lk 4 e1=.c (.sl false 1 (Q1 L))∧lk 5 e1=.c (.ptr x5 0)∧lk 6 e1=.c (.int .i64 os.length)) L.length ?_ ?_))
  ·exact⟨[],_,[],by simp,by simp,by simp,by simp,.nil 3,by simpa using kn,rfl,rfl,rfl,rfl,rfl⟩
  ·clear kn hx5 hx2;rintro m e1 H6 ⟨os,t,Lg,hm,hol,hod,hoo,hgr,kn,l1,l2,l4,l5,l6⟩;have htw:=hgr.isOw;refine Q5 ?_;refine Qa ?_;simp only[go_sem,l1,l2,l4,l5,l6,Qz];try intro _
   refine Qh (Qd rfl ?_ ?_)
   ·intro hc1;have hlt:os.length<L.length:=(by simpa using hc1);obtain⟨k,hk⟩:∃k,L[os.length]=k:=⟨_,rfl⟩;have hgd:L.getD os.length 0=k:=(by simp[Jf,hlt,hk]);have hkl:k<cs.length:=hL2 k (by rw[←hk];exact Jd hlt);have hid:os.length<(Qc0 cs L).length:=(by rw[Qbx];exact hlt);have htk:(Qc0 cs L).take (os.length+1)=(Qc0 cs L).take os.length++[rnC L cs[k]]:=by
     rw[Jb hid,Qvz hid];simp only[hk,Qh5 hkl]
    have ho:=Qvw hg hkl;obtain⟨q,hq⟩:∃q,cs[k]=q:=⟨_,rfl⟩;rw[hq]at ho htk;have hb0:=ho.b0;have hb1:=ho.b1;refine Qi ?_;try simp only[go_sem]
    refine Qcq (fun e2 H2=>∃(o:OCode) (t:C) (Lg:List (Nat×Obj)),o.ok∧o.d=rnC L q∧Gr Lg 3 ((os++[o]).map OCode.row) t∧
     Kn H H2 [] (([(x2,.st [.sl true 3 []]),(x5,.st [t])]++(os++[o]).flatMap OCode.lg)++Lg)∧
     lk 1 e2=.c (.pp [.sl fl 3 (Ql cs)])∧lk 2 e2=.c (.ptr x2 0)∧lk 4 e2=.c (.sl false 1 (Q1 L))∧lk 5 e2=.c (.ptr x5 0)∧lk 6 e2=.c (.int .i64 os.length)) ?_ ?_
    ·intro Q hnr _ _;refine Qc ?_;refine Qak ?_;simp only[go_sem,l1,l2,l4,l5,l6,hlt,Qz,Qai _ _ hlt,hgd,hkl,Qx,Qaf _ _ hkl,CodeD.cells,hq];refine Qad7 (q:=q) ho.sg fun o H7 k2 hok hd _=>?_;have kn:=kn.comp0 k2;have hol2:o.blocks.length=q.blocks.length:=(by rw[←hd];simp[OCode.d]);have hpr:o.params=q.params:=(by rw[←hd];rfl);have hrg:o.regs=q.regs:=(by rw[←hd];rfl);have hbd:o.blocks.map OBlk.d=q.blocks:=(by rw[←hd];rfl);obtain⟨z,hz1,hz2⟩:∃z,o.bc=.vsl z 5 0 q.blocks.length∧o.bl=[(z,.vec 5 (o.blocks.map OBlk.row))]:=by
      rcases hok.b with ⟨_,h,_⟩|⟨y,h1,h2⟩
      ·have:=congrArg List.length h;simp only[Jc,Jh]at this;omega
      ·exact⟨y,by rw[h1,Jc,hol2],h2⟩
     simp only[go_sem,Qm8,OCode.row,hpr,hrg,hz1];intro x7 hx7 H8 h8;have kn:=kn.al hx7 h8;have hx7:H8 x7=.st [.int .i64 0,.int .i64 0,.sl true 5 []]:=(kn.get (x7,.st [.int .i64 0,.int .i64 0,.sl true 5 []]) (by simp)).1;simp only[go_sem,Qm7,hx7,hlt,Qz,Qai _ _ hlt,hgd,hkl,Qx,Qaf _ _ hkl,CodeD.cells,hq];intro H9 h9;obtain⟨A,hA⟩:∃A,os.flatMap OCode.lg++Lg=A:=⟨_,rfl⟩;obtain⟨R,hR⟩:∃R,o.blocks.map OBlk.row=R:=⟨_,rfl⟩;have hRl:R.length=q.blocks.length:=(by rw[←hR,Jc,hol2]);have kn:Kn H H9 [] (dsE x2 x5 x7 z t q R++(A++(([]:List OBlk).flatMap OBlk.lg++o.blocks.flatMap OBlk.lg))):=by
      have k3:=(kn.perm (Ji)).stL 0 rfl h9;refine k3.perm (Qn fun f hf h0 hc hp=>?_);have e:∀(a b c d:Nat×Obj),f [a,b,c,d]=f [a]+f [b]+f [c]+f [d]:=fun a b c d=>(by rw[hc a [b,c,d],hc b [c,d],hc c [d]];omega);have e2:∀(a b:Nat×Obj),f [a,b]=f [a]+f [b]:=fun a b=>hc a [b];show f ([(x7,_)]++_)=_;rw[←hA,OCode.lg,hz2,hR];simp only[hf,dsE,e,e2,J5,h0];omega
     refine Q5 ?_;refine Qa ?_;simp only[go_sem];refine Qh (Qc (Qv (fun m e1 H1=>∃(ds ks:List OBlk),m=ks.length∧ds.length+ks.length=q.blocks.length∧ks.map OBlk.d=q.blocks.drop ds.length∧ds.map OBlk.d=(q.blocks.take ds.length).map (rnB L)∧(∀d∈ds,d.ok)∧(∀b∈ks,b.ok)∧(ds++ks).map OBlk.row=R∧
      Kn H H1 [] (dsE x2 x5 x7 z t q R++(A++(ds.flatMap OBlk.lg++ks.flatMap OBlk.lg)))∧
      lk 1 e1=.c (.pp [.sl fl 3 (Ql cs)])∧lk 2 e1=.c (.ptr x2 0)∧lk 4 e1=.c (.sl false 1 (Q1 L))∧lk 5 e1=.c (.ptr x5 0)∧lk 6 e1=.c (.int .i64 os.length)∧lk 7 e1=.c (.ptr x7 0)∧lk 8 e1=.c (.int .i64 ds.length)) q.blocks.length ?_ ?_))
     ·exact⟨[],o.blocks,by omega,by simpa using hol2,by simpa using hbd,by simp,by simp,hok.bs,hR,kn,rfl,rfl,rfl,rfl,rfl,rfl,rfl⟩
     ·clear kn hx7 hR l1 l2 l4 l5 l6 k2;rintro m2 e2 H10 ⟨ds,ks,hm2,hlen,hky,hdy,hdo,hko,hR,kn,l1,l2,l4,l5,l6,l7,l8⟩;have hx7:=kn.l 2 rfl;have hz:=kn.l 3 rfl;have htk2:R.take q.blocks.length=R:=Je (by omega);refine Q5 ?_;refine Qa ?_;simp only[go_sem,l1,l2,l4,l5,l6,l7,l8,hx7,hz,hRl,Jr,Jq];try intro _
      refine Qh (Qd rfl ?_ ?_)
      ·intro hc2;have hlt2:ds.length<q.blocks.length:=(by simpa using hc2);obtain⟨b,ks',rfl⟩:∃k ks',ks=k::ks':=by
        cases ks with
        |nil=>simp at hlen;omega
        |cons k ks'=>exact⟨k,ks',rfl⟩
       simp only[Jl]at hlen hm2;rw[Js hlt2,Jal]at hky;obtain⟨hy,hky'⟩:=List.cons.inj hky;have hbo:=hko b Jag;have hil:=ho.il ds.length hlt2;rw[←hy]at hil;have hil2:b.ins.length≤1200:=by
        have:b.d.ins.length=b.ins.length:=(by simp[OBlk.d]);omega
       have hrow:R.getD ds.length []=b.row:=by
        rw[←hR,Jo,Jal];exact Qbrv (by rw[Jc])
       have hbi:Gr b.il 4 (Ql1 b.ins) b.ic:=hbo.i;have hpw:=hbo.p.isOw;have hiw:=hbi.isOw;have hiz:=hbi.elemSz;refine Qi ?_;try simp only[go_sem]
       refine Qcq (fun e1 H1=>∃(t2:List (Nat×Obj)),Gr t2 4 (Ql1 (b.ins.map (rnO L))) b.ic∧Kn H H1 [] (dsE x2 x5 x7 z t q R++(A++(ds.flatMap OBlk.lg++((rnOB L b t2).lg++ks'.flatMap OBlk.lg))))∧
        lk 1 e1=.c (.pp [.sl fl 3 (Ql cs)])∧lk 2 e1=.c (.ptr x2 0)∧lk 4 e1=.c (.sl false 1 (Q1 L))∧lk 5 e1=.c (.ptr x5 0)∧lk 6 e1=.c (.int .i64 os.length)∧lk 7 e1=.c (.ptr x7 0)∧lk 8 e1=.c (.int .i64 ds.length)) ?_ ?_
       ·intro Q2 hnr2 _ _;refine Qc ?_;refine Qa ?_;simp only[go_sem,l1,l2,l4,l5,l6,l7,l8];obtain⟨A2,hA2⟩:∃A2,A++(ds.flatMap OBlk.lg++((b.nx.lg++(b.phis.flatMap OPhi.lg++(b.pl++b.ins.flatMap OIns.lg)))++ks'.flatMap OBlk.lg))=A2:=⟨_,rfl⟩;have kn:Kn H H10 [] ((dsE x2 x5 x7 z t q R++A2)++b.il):=kn.perm (Qn fun f hf h0 hc hp=>by
         rw[←hA2,Jaa,OBlk.lg];simp only[hf];omega)
        refine Qc (Qv (fun m3 e1 H1=>∃(i:Nat) (t2:List (Nat×Obj)),m3=b.ins.length-i∧i≤b.ins.length∧Gr t2 4 (Ql1 (mxO L b.ins i)) b.ic∧Kn H H1 [] ((dsE x2 x5 x7 z t q R++A2)++t2)∧
         lk 1 e1=.c (.pp [.sl fl 3 (Ql cs)])∧lk 2 e1=.c (.ptr x2 0)∧lk 4 e1=.c (.sl false 1 (Q1 L))∧lk 5 e1=.c (.ptr x5 0)∧lk 6 e1=.c (.int .i64 os.length)∧lk 7 e1=.c (.ptr x7 0)∧lk 8 e1=.c (.int .i64 ds.length)∧lk 9 e1=.c (.int .i64 i)) b.ins.length ?_ ?_)
        ·exact⟨0,b.il,by omega,by omega,by simpa[mxO]using hbi,kn,rfl,rfl,rfl,rfl,rfl,rfl,rfl,rfl⟩
        ·clear kn hx7 hz l1 l2 l4 l5 l6 l7 l8;rintro m3 e3 H11 ⟨i,t2,hm3,hi,hgi,kn,l1,l2,l4,l5,l6,l7,l8,l9⟩;have hx7:=kn.l 2 rfl;have hz:=kn.l 3 rfl;have hlenp:=hgi.lenC;have hml:=Qbkr L b.ins i;rw[Qe4,hml]at hlenp;have hokp:=eq_true (hgi.slc kn).ok;refine Q5 ?_;refine Qa ?_;simp only[go_sem,l1,l2,l4,l5,l6,l7,l8,l9,hx7,hz,htk2,hRl,hrow,OBlk.row,OInts.c,hlt2,hpw,hiw,hlenp,hokp,Jr,Jq];try intro _
         refine Qh (Qd rfl ?_ ?_)
         ·intro hc3;have hlt3:i<b.ins.length:=(by simpa using hc3);obtain⟨x,hx⟩:∃x,b.ins[i]=x:=⟨_,rfl⟩;have hmi:i<(mxO L b.ins i).length:=(by rw[hml];exact hlt3);have hmx:=Qbvj (L:=L) hlt3 hmi;have hset:=Qbts (L:=L) hlt3;have hsame:=Qbpt (L:=L) hlt3;rw[hx]at hmx hset hsame;obtain⟨zi,hpz,rfl⟩:∃z,b.ic=.vsl z 4 0 b.ins.length∧t2=[(z,.vec 4 (Ql1 (mxO L b.ins i)))]:=by
           rcases hgi with ⟨_,h,_⟩|⟨z,h1,h2⟩
           ·have:=congrArg List.length h;rw[Qe4]at this;simp only[Jh]at this;omega
           ·exact⟨z,by rw[h1,Qe4,hml],h2⟩
          have hzi:H11 zi=.vec 4 (Ql1 (mxO L b.ins i)):=(kn.get (zi,.vec 4 (Ql1 (mxO L b.ins i))) (by simp)).1;have htk3:(Ql1 (mxO L b.ins i)).take b.ins.length=Ql1 (mxO L b.ins i):=Je (by rw[Qe4];omega);refine Qi ?_;try simp only[go_sem]
          refine Qcq (fun e1 H1=>∃(t2:List (Nat×Obj)),Gr t2 4 (Ql1 (mxO L b.ins (i+1))) b.ic∧Kn H H1 [] ((dsE x2 x5 x7 z t q R++A2)++t2)∧
           lk 1 e1=.c (.pp [.sl fl 3 (Ql cs)])∧lk 2 e1=.c (.ptr x2 0)∧lk 4 e1=.c (.sl false 1 (Q1 L))∧lk 5 e1=.c (.ptr x5 0)∧lk 6 e1=.c (.int .i64 os.length)∧lk 7 e1=.c (.ptr x7 0)∧lk 8 e1=.c (.int .i64 ds.length)∧lk 9 e1=.c (.int .i64 i)) ?_ ?_
          ·intro Q3 hnr3 _ _;refine Qc ?_;refine Qa ?_;simp only[go_sem,l1,l2,l4,l5,l6,l7,l8,l9,hx7,hz,htk2,hRl,hrow,OBlk.row,OInts.c,hlt2,hpw,hiw,hpz,hzi,htk3,Qe4,hml,hlt3,Jr,Jq];refine Qa ?_;simp only[go_sem,hzi,htk3,Qe4,hml,hlt3,Q5x _ _ hmi,hmx,OIns.row,OInts.c,Jr,Jq];refine Qd rfl ?_ ?_
           ·intro hc4;have h14:x.op=14:=(by simpa using hc4);refine Qq ?_;simp only[go_sem,hzi,htk3,Qe4,hml,hlt3,Q5x _ _ hmi,hmx,OIns.row,OInts.c,Jr,Jq];refine Qafc (ns:=L.map Int.ofNat) (.mk' _ _ _ _) rfl fun r hr=>?_;simp only[go_sem,Qm9,hzi,htk3,Qe4,hml,hlt3,Q5x _ _ hmi,hmx,OIns.row,OInts.c,Jr,Jq];intro H12 h12;have hrn:rnO L x=⟨x.op,x.to,x.a,r⟩:=(by rw[rnO,if_pos h14,Qbiz hr]);have hrow2:(Ql1 (mxO L b.ins i)).set i [.int .i64 x.op,.int .i64 x.to,.vsl x.a.y 1 0 x.a.ns.length,.int .i64 r]=Ql1 (mxO L b.ins (i+1)):=by
             rw[←hset,hrn,←Qblb];rfl
            rw[hrow2]at h12;have kn:Kn H H12 [] ([(zi,.vec 4 (Ql1 (mxO L b.ins (i+1))))]++(dsE x2 x5 x7 z t q R++A2)):=(kn.perm (Ji)).stL 0 rfl h12;refine hnr3 _ _ ⟨[(zi,.vec 4 (Ql1 (mxO L b.ins (i+1))))],?_,kn.perm Ji,rfl,rfl,rfl,rfl,rfl,rfl,rfl,rfl⟩;rw[hpz];exact .mk _ _ _ (by rw[Qe4,Qbkr])
           ·intro hc4;have h14:¬x.op=14:=(by simpa using hc4);refine Qi ?_;try simp only[go_sem]
            refine hnr3 _ _ ⟨_,?_,kn,rfl,rfl,rfl,rfl,rfl,rfl,rfl,rfl⟩;rw[hsame (by rw[rnO,if_neg h14])];exact hgi
          ·rintro e4 H12 ⟨t2,hgi,kn,l1,l2,l4,l5,l6,l7,l8,l9⟩;refine Qq ?_;simp only[go_sem,l1,l2,l4,l5,l6,l7,l8,l9];refine⟨Qp (by omega) (by omega),?_⟩;show ∃m,_;exact⟨b.ins.length-(i+1),by omega,i+1,t2,rfl,by omega,hgi,kn,rfl,rfl,rfl,rfl,rfl,rfl,rfl,rfl⟩
         ·intro hc3;have hge:b.ins.length≤i:=(by simpa using hc3);rw[Qbtr _ _ hge]at hgi;refine Qs ?_;simp only[go_sem,X.next];refine hnr2 _ _ ⟨t2,hgi,kn.perm (Qn fun f hf h0 hc hp=>?_),rfl,rfl,rfl,rfl,rfl,rfl,rfl⟩;rw[←hA2,rnOB,OBlk.lg,Qbp8];simp only[hf];omega
       ·rintro e4 H11 ⟨t2,hgi,kn,l1,l2,l4,l5,l6,l7,l8⟩;refine Qq ?_;simp only[go_sem,l1,l2,l4,l5,l6,l7,l8];refine⟨Qp (by omega) (by omega),?_⟩;show ∃m,_;obtain⟨d,hd2⟩:∃d:OBlk,rnOB L b t2=d:=⟨_,rfl⟩;have hdo2:d.ok:=(by rw[←hd2];exact⟨hbo.p,hgi,hbo.a⟩);have hdr:d.row=b.row:=(by rw[←hd2];rfl);have hdd:d.d=rnB L b.d:=(by rw[←hd2];exact Qbvs L b t2);rw[hd2]at kn;refine⟨ks'.length,by omega,ds++[d],ks',rfl,by simp only[Jg,Jl,Jh];omega,by simpa using hky',?_,fun w hw=>?_,fun b hb=>hko b (Jab _ hb),?_,?_,rfl,rfl,rfl,rfl,rfl,rfl,by simp[lk]⟩
        ·rw[Jo,hdy,Jg,J8,Jb hlt2,Jo,←hy,List.map_singleton,hdd];rfl
        ·rcases Jz.1 hw with hw|hw
         ·exact hdo w hw
         ·simp only[Ja]at hw;rw[hw];exact hdo2
        ·rw[←hR];simp[hdr]
        ·refine kn.perm (Qn fun f hf h0 hc hp=>?_);simp only[hf,Jae,Jaa,J5,Jm];omega
      ·intro hc2;have hks:ks=[]:=by
        have:q.blocks.length≤ds.length:=(by simpa using hc2);exact List.eq_nil_of_length_eq_zero (by omega)
       subst hks;simp only[Jh,Jaq]at hlen;rw[hlen,Jan]at hdy;rw[Jm]at hR;refine Qs ?_;simp only[go_sem,X.next];obtain⟨o2,ho2⟩:∃o2:OCode,o2=⟨q.params,q.regs,ds,.vsl z 5 0 q.blocks.length,[(z,.vec 5 R)]⟩:=⟨_,rfl⟩;have hok2:o2.ok:=by
        rw[ho2];refine⟨.inr ⟨z,?_,?_⟩,hdo⟩
        ·rw[hR,hRl]
        ·rw[hR]
       have hod2:o2.d=rnC L q:=(by rw[ho2,OCode.d,rnC,hdy]);have hor2:o2.row=[.int .i64 q.params,.int .i64 q.regs,.vsl z 5 0 q.blocks.length]:=(by rw[ho2];rfl);have hlg2:o2.lg=ds.flatMap OBlk.lg++[(z,.vec 5 R)]:=(by rw[ho2];rfl);have hx5:=kn.l 1 rfl;refine Qq ?_;simp only[go_sem,l1,l2,l4,l5,l6,l7,l8,hx7,hx5,htw];have kn:Kn H H10 [] (([(x2,.st [.sl true 3 []]),(x5,.st [t])]++(os.flatMap OCode.lg++o2.lg))++Lg):=Kn.drop (B:=[(x7,.st [.int .i64 q.params,.int .i64 q.regs,.vsl z 5 0 q.blocks.length])]) (kn.perm (Qn fun f hf h0 hc hp=>by
        have e:∀(a b c d:Nat×Obj),f [a,b,c,d]=f [a]+f [b]+f [c]+f [d]:=fun a b c d=>(by rw[hc a [b,c,d],hc b [c,d],hc c [d]];omega);have e2:∀(a b:Nat×Obj),f [a,b]=f [a]+f [b]:=fun a b=>hc a [b];rw[←hA,hlg2];simp only[hf,dsE,e,e2,J5,h0];omega))
       refine kn.growR (new:=[o2.row]) hgr (by rw[hor2];exact .mk' _ _ _ _) (fun r hr=>by simp only[Ja]at hr;rw[hr];exact o2.noOw hok2) (by simp only[Jc,LIM,Jl,Jh];omega) fun t3 Lg3 H11 hgr3 ht3 kn=>?_;have hx5:=kn.l 1 rfl;simp only[go_sem,Qki,hx5,ht3];intro H12 h12;have kn:Kn H H12 [] (([(x2,.st [.sl true 3 []]),(x5,.st [t3])]++(os.flatMap OCode.lg++o2.lg))++Lg3):=kn.stL 1 rfl h12;refine hnr _ _ ⟨o2,t3,Lg3,hok2,hod2,by simpa using hgr3,?_,rfl,rfl,rfl,rfl,rfl⟩;have e:(os++[o2]).flatMap OCode.lg=os.flatMap OCode.lg++o2.lg:=(by simp[Jae]);rw[e];exact kn
    ·rintro e4 H7 ⟨o,t2,Lg2,hok,hd,hgr2,kn,l1,l2,l4,l5,l6⟩;refine Qq ?_;simp only[go_sem,l1,l2,l4,l5,l6];refine⟨Qp (by omega) (by omega),?_⟩;show ∃m,_;refine⟨L.length-(os.length+1),by omega,os++[o],t2,Lg2,by simp,by simp only[Jg,Jl,Jh];omega,?_,fun w hw=>?_,hgr2,kn,rfl,rfl,rfl,rfl,by simp[lk]⟩
     ·rw[Jo,hod,Jg,J8,htk,List.map_singleton,hd]
     ·rcases Jz.1 hw with hw|hw
      ·exact hoo w hw
      ·simp only[Ja]at hw;rw[hw];exact hok
   ·intro hc1;have hge:L.length≤os.length:=(by simpa using hc1);rw[Je (by rw[Qbx];exact hge)]at hod;refine Qs ?_;simp only[go_sem,X.next];have hx5:=kn.l 1 rfl;have hx2:=kn.l 0 rfl;refine Qa ?_;simp only[go_sem,l2,l5,hx5,hx2,htw];intro H7 h7;have kn:Kn H H7 [] (([(x2,.st [t]),(x5,.st [t])]++os.flatMap OCode.lg)++Lg):=kn.stL 0 rfl h7;have hx2:=kn.l 0 rfl;simp only[go_sem,Qkj];have hmem:∀p∈os.flatMap OCode.lg,H7 p.1=p.2∧un H p.1=true:=fun p hp=>
     ⟨(kn.get p (Jn _ (J1 _ (Jn _ hp)))).1,Qeb (kn.loc p (J1 _ (Jn _ hp)))⟩
    have hfr:=hgr.frzR kn (Qbdy (S:=un H) hoo hmem);rw[hod]at hfr;refine Qk ?_;simp only[go_sem,Q7,Qad,Qk3,Jp,Jv,RS.op,hx2,htw];exact⟨fun _=>trivial,_,Qsi (FrzL.ag (.cons hfr .nil)) (.c _ _ (Qf rfl)),hK _ kn.fin⟩
end Go.AE.Y
namespace Go.AE.Y
attribute [local go_sem] cond_true cond_false Bool.not_true Bool.not_false
open Go.Proofs.Tryz
variable {H H0:Heap}{K:V→Heap→Prop}
theorem Qals {f g:Bool}{ns:List Int}(hK:K (.c (.bool true)) H):Qu prog Qij [.c (.sl f 1 (Qe ns)),.c (.sl g 1 (Qe ns))] H K:=by
 refine Qb Qam Qbew ?_;refine Qa ?_;simp only[go_sem];refine Q5 ?_;refine Qa ?_;simp only[go_sem,Qg,decide_true];intro hl;try intro _
 simp only[LIM]at hl;refine Qh (Qd rfl ?_ ?_)
 ·intro h;simp at h
 intro _;refine Qi ?_;try simp only[go_sem]
 refine Q5 ?_;refine Qa ?_;simp only[go_sem,Qg];try intro _
 refine Qh (Qc (Qv (fun m e1 H1=>∃(i:Nat),m=ns.length-i∧i≤ns.length∧H1=H∧lk 0 e1=.c (.sl f 1 (Qe ns))∧lk 1 e1=.c (.sl g 1 (Qe ns))∧lk 12 e1=.c (.int .i64 ns.length)∧lk 13 e1=.c (.int .i64 i)) ns.length ?_ ?_))
 ·exact⟨0,by omega,by omega,rfl,rfl,rfl,rfl,rfl⟩
 ·rintro m e1 H1 ⟨i,hm,hi,rfl,l0,l1,l12,l13⟩;refine Qa ?_;simp only[go_sem,l0,l1,l12,l13];refine Qh (Qd rfl ?_ ?_)
  ·intro hc;have hlt:i<ns.length:=by simpa using hc
   refine Qi ?_;try simp only[go_sem]
   refine Qh (Qc ?_);refine Qa ?_;simp only[go_sem,l0,l1,l12,l13];refine Qak ?_;simp only[go_sem,l0,l1,l12,l13,hlt,Qg,Q0 _ _ hlt,decide_true];refine Qd rfl ?_ ?_
   ·intro h;simp at h
   intro _;refine Qi ?_;try simp only[go_sem]
   refine Qq ?_;simp only[go_sem,l0,l1,l12,l13];refine⟨Qp (by omega) (by omega),?_⟩;show ∃m,_;exact⟨ns.length-(i+1),by omega,i+1,rfl,by omega,rfl,rfl,rfl,rfl,rfl⟩
  ·intro hc;refine Qs ?_;simp only[go_sem,X.next];refine Qa ?_;simp only[go_sem];refine Qk ?_;simp only[go_sem,Q7,Qad,Qaqt,Ja,forall_eq,RS.op];exact hK
theorem Qarw {f g:Bool}{ns:List Int}(hK:K (.c (.bool true)) H):Qu prog Qsb [.c (.sl f 1 (Qe ns)),.c (.sl g 1 (Qe ns))] H K:=by
 refine Qb Qam Qbpf ?_;refine Qa ?_;simp only[go_sem];refine Q5 ?_;refine Qa ?_;simp only[go_sem,Qg,decide_true];intro hl;try intro _
 simp only[LIM]at hl;refine Qh (Qd rfl ?_ ?_)
 ·intro h;simp at h
 intro _;refine Qi ?_;try simp only[go_sem]
 refine Q5 ?_;refine Qa ?_;simp only[go_sem,Qg];try intro _
 refine Qh (Qc (Qv (fun m e1 H1=>∃(i:Nat),m=ns.length-i∧i≤ns.length∧H1=H∧lk 0 e1=.c (.sl f 1 (Qe ns))∧lk 1 e1=.c (.sl g 1 (Qe ns))∧lk 5 e1=.c (.int .i64 i)) ns.length ?_ ?_))
 ·exact⟨0,by omega,by omega,rfl,rfl,rfl,rfl⟩
 ·rintro m e1 H1 ⟨i,hm,hi,rfl,l0,l1,l5⟩;refine Q5 ?_;refine Qa ?_;simp only[go_sem,l0,l1,l5,Qg];try intro _
  refine Qh (Qd rfl ?_ ?_)
  ·intro hc;have hlt:i<ns.length:=by simpa using hc
   refine Qi ?_;try simp only[go_sem]
   refine Qh (Qc ?_);refine Qak ?_;simp only[go_sem,l0,l1,l5,hlt,Qg,Q0 _ _ hlt,decide_true];refine Qd rfl ?_ ?_
   ·intro h;simp at h
   intro _;refine Qi ?_;try simp only[go_sem]
   refine Qq ?_;simp only[go_sem,l0,l1,l5];refine⟨Qp (by omega) (by omega),?_⟩;show ∃m,_;exact⟨ns.length-(i+1),by omega,i+1,rfl,by omega,rfl,rfl,rfl,rfl⟩
  ·intro hc;refine Qs ?_;simp only[go_sem,X.next];refine Qa ?_;simp only[go_sem];refine Qk ?_;simp only[go_sem,Q7,Qad,Qbc6,Ja,forall_eq,RS.op];exact hK
set_option maxHeartbeats 1000000 in
theorem Qbm5 {p:PhiD}(hK:∀H',Upd H H' []→K (.c (.bool true)) H'):Qu prog Qew [.ag p.cells,.ag p.cells] H K:=by
 refine Qt ?_;refine Qb Qam Qaws ?_;have kn:=Kn.start0 H;refine Qa ?_;simp only[go_sem,PhiD.cells];refine Qa ?_;simp only[go_sem,decide_true];refine Qals ?_;simp only[go_sem,Qtn,decide_true];refine Qk ?_;simp only[go_sem,Q7,Qad,Q75,Ja,forall_eq,RS.op];exact⟨_,.c _ _ (Qf rfl),hK _ kn.fin⟩
set_option maxHeartbeats 2000000 in
theorem Qbn5 {f g:Bool}{l:List PhiD}(hK:∀H',Upd H H' []→K (.c (.bool true)) H'):Qu prog Qd4 [.c (.sl f 2 (Qab l)),.c (.sl g 2 (Qab l)),.c (.fn Qew [])] H K:=by
 refine Qt ?_;refine Qb Qam Q1q ?_;refine Qa ?_;simp only[go_sem];refine Q5 ?_;refine Qa ?_;simp only[go_sem,Q6,decide_true];intro hl;try intro _
 simp only[LIM]at hl;refine Qh (Qd rfl ?_ ?_)
 ·intro h;simp at h
 intro _;refine Qi ?_;try simp only[go_sem]
 refine Q5 ?_;refine Qa ?_;simp only[go_sem,Q6];try intro _
 refine Qh (Qc (Qv (fun m e1 H1=>∃(i:Nat),m=l.length-i∧i≤l.length∧Kn H H1 [] []∧lk 1 e1=.c (.sl g 2 (Qab l))∧lk 2 e1=.c (.fn Qew [])∧lk 15 e1=.c (.sl f 2 (Qab l))∧lk 16 e1=.c (.int .i64 l.length)∧lk 17 e1=.c (.int .i64 i)) l.length ?_ ?_))
 ·exact⟨0,by omega,by omega,.start0 H,rfl,rfl,rfl,rfl,rfl⟩
 ·rintro m e1 H1 ⟨i,hm,hi,kn,l1,l2,l15,l16,l17⟩;refine Qa ?_;simp only[go_sem,l1,l2,l15,l16,l17];refine Qh (Qd rfl ?_ ?_)
  ·intro hc;have hlt:i<l.length:=by simpa using hc
   obtain⟨p,hp⟩:∃p,l[i]=p:=⟨_,rfl⟩;refine Qi ?_;try simp only[go_sem]
   refine Qh (Qc ?_);refine Qa ?_;simp only[go_sem,l1,l2,l15,l16,l17,hlt,Q6,Qa0 _ _ hlt,hp,PhiD.cells];intro x8 hx8 H2 h2;have kn:=kn.al hx8 h2;have hx8:=kn.l 0 rfl;simp only[go_sem,Qgq,hx8];intro H3 h3;have kn:Kn H H3 [] [(x8,.st p.cells)]:=kn.stL 0 rfl h3;refine Qa ?_;simp only[go_sem,l1,l2,l15,l16,l17,hlt,Q6,Qa0 _ _ hlt,hp,PhiD.cells];intro x9 hx9 H4 h4;have kn:=kn.al hx9 h4;have hx9:=kn.l 1 rfl;simp only[go_sem,Qgr,hx9];intro H5 h5;have kn:Kn H H5 [] [(x8,.st p.cells),(x9,.st p.cells)]:=kn.stL 1 rfl h5;have hx8:H5 x8=.st p.cells:=kn.l 0 rfl;have hx9:H5 x9=.st p.cells:=kn.l 1 rfl;refine Qa ?_;simp only[go_sem,hx8,hx9,PhiD.cells,Jm,Jaj];refine Qbm5 (p:=p) fun H6 hu=>?_;have kn:=kn.call0 hu;simp only[go_sem,Qgs];refine Qd rfl ?_ ?_
   ·intro h;simp at h
   intro _;refine Qi ?_;try simp only[go_sem]
   refine Qq ?_;simp only[go_sem,l1,l2,l15,l16,l17];refine⟨Qp (by omega) (by omega),?_⟩;show ∃m,_;exact⟨l.length-(i+1),by omega,i+1,rfl,by omega,Kn.drop (A:=[]) (B:=[(x8,_),(x9,_)]) kn,rfl,rfl,rfl,rfl,rfl⟩
  ·intro hc;refine Qs ?_;simp only[go_sem,X.next];refine Qa ?_;simp only[go_sem];refine Qk ?_;simp only[go_sem,Q7,Qad,Qj5,Ja,forall_eq,RS.op];exact⟨_,.c _ _ (Qf rfl),hK _ kn.fin⟩
set_option maxHeartbeats 1000000 in
theorem Qbm4 {p:InsD}(hK:∀H',Upd H H' []→K (.c (.bool true)) H'):Qu prog Qev [.ag p.cells,.ag p.cells] H K:=by
 refine Qt ?_;refine Qb Qam Qawr ?_;have kn:=Kn.start0 H;refine Qa ?_;simp only[go_sem,InsD.cells];refine Qa ?_;simp only[go_sem,decide_true];refine Qals ?_;simp only[go_sem,Qtm,decide_true];refine Qk ?_;simp only[go_sem,Q7,Qad,Q74,Ja,forall_eq,RS.op];exact⟨_,.c _ _ (Qf rfl),hK _ kn.fin⟩
set_option maxHeartbeats 2000000 in
theorem Qbn4 {f g:Bool}{l:List InsD}(hK:∀H',Upd H H' []→K (.c (.bool true)) H'):Qu prog Qd3 [.c (.sl f 4 (Qap l)),.c (.sl g 4 (Qap l)),.c (.fn Qev [])] H K:=by
 refine Qt ?_;refine Qb Qam Q1p ?_;refine Qa ?_;simp only[go_sem];refine Q5 ?_;refine Qa ?_;simp only[go_sem,Qaa,decide_true];intro hl;try intro _
 simp only[LIM]at hl;refine Qh (Qd rfl ?_ ?_)
 ·intro h;simp at h
 intro _;refine Qi ?_;try simp only[go_sem]
 refine Q5 ?_;refine Qa ?_;simp only[go_sem,Qaa];try intro _
 refine Qh (Qc (Qv (fun m e1 H1=>∃(i:Nat),m=l.length-i∧i≤l.length∧Kn H H1 [] []∧lk 1 e1=.c (.sl g 4 (Qap l))∧lk 2 e1=.c (.fn Qev [])∧lk 15 e1=.c (.sl f 4 (Qap l))∧lk 16 e1=.c (.int .i64 l.length)∧lk 17 e1=.c (.int .i64 i)) l.length ?_ ?_))
 ·exact⟨0,by omega,by omega,.start0 H,rfl,rfl,rfl,rfl,rfl⟩
 ·rintro m e1 H1 ⟨i,hm,hi,kn,l1,l2,l15,l16,l17⟩;refine Qa ?_;simp only[go_sem,l1,l2,l15,l16,l17];refine Qh (Qd rfl ?_ ?_)
  ·intro hc;have hlt:i<l.length:=by simpa using hc
   obtain⟨p,hp⟩:∃p,l[i]=p:=⟨_,rfl⟩;refine Qi ?_;try simp only[go_sem]
   refine Qh (Qc ?_);refine Qa ?_;simp only[go_sem,l1,l2,l15,l16,l17,hlt,Qaa,Qay _ _ hlt,hp,InsD.cells];intro x8 hx8 H2 h2;have kn:=kn.al hx8 h2;have hx8:=kn.l 0 rfl;simp only[go_sem,Qgn,hx8];intro H3 h3;have kn:Kn H H3 [] [(x8,.st p.cells)]:=kn.stL 0 rfl h3;refine Qa ?_;simp only[go_sem,l1,l2,l15,l16,l17,hlt,Qaa,Qay _ _ hlt,hp,InsD.cells];intro x9 hx9 H4 h4;have kn:=kn.al hx9 h4;have hx9:=kn.l 1 rfl;simp only[go_sem,Qgo,hx9];intro H5 h5;have kn:Kn H H5 [] [(x8,.st p.cells),(x9,.st p.cells)]:=kn.stL 1 rfl h5;have hx8:H5 x8=.st p.cells:=kn.l 0 rfl;have hx9:H5 x9=.st p.cells:=kn.l 1 rfl;refine Qa ?_;simp only[go_sem,hx8,hx9,InsD.cells,Jm,Jaj];refine Qbm4 (p:=p) fun H6 hu=>?_;have kn:=kn.call0 hu;simp only[go_sem,Qgp];refine Qd rfl ?_ ?_
   ·intro h;simp at h
   intro _;refine Qi ?_;try simp only[go_sem]
   refine Qq ?_;simp only[go_sem,l1,l2,l15,l16,l17];refine⟨Qp (by omega) (by omega),?_⟩;show ∃m,_;exact⟨l.length-(i+1),by omega,i+1,rfl,by omega,Kn.drop (A:=[]) (B:=[(x8,_),(x9,_)]) kn,rfl,rfl,rfl,rfl,rfl⟩
  ·intro hc;refine Qs ?_;simp only[go_sem,X.next];refine Qa ?_;simp only[go_sem];refine Qk ?_;simp only[go_sem,Q7,Qad,Qj4,Ja,forall_eq,RS.op];exact⟨_,.c _ _ (Qf rfl),hK _ kn.fin⟩
set_option maxHeartbeats 1000000 in
theorem Qbb5 {p:BlkD}(hK:∀H',Upd H H' []→K (.c (.bool true)) H'):Qu prog Qcu [.ag p.cells,.ag p.cells] H K:=by
 refine Qt ?_;refine Qb Qam Qamf ?_;have kn:=Kn.start0 H;refine Qa ?_;simp only[go_sem,BlkD.cells];refine Qa ?_;simp only[go_sem,decide_true];refine Qals ?_;simp only[go_sem,Qmn,decide_true];refine Qbn5 fun H1 hu=>?_;have kn:=kn.call0 hu;simp only[go_sem,Qmm,decide_true];refine Qbn4 fun H1 hu=>?_;have kn:=kn.call0 hu;simp only[go_sem,Qml,decide_true];refine Qk ?_;simp only[go_sem,Q7,Qad,Qxv,Ja,forall_eq,RS.op];exact⟨_,.c _ _ (Qf rfl),hK _ kn.fin⟩
set_option maxHeartbeats 2000000 in
theorem Qbd4 {f g:Bool}{l:List BlkD}(hK:∀H',Upd H H' []→K (.c (.bool true)) H'):Qu prog Qcv [.c (.sl f 5 (Qm l)),.c (.sl g 5 (Qm l)),.c (.fn Qcu [])] H K:=by
 refine Qt ?_;refine Qb Qam Qwk ?_;refine Qa ?_;simp only[go_sem];refine Q5 ?_;refine Qa ?_;simp only[go_sem,Qj,decide_true];intro hl;try intro _
 simp only[LIM]at hl;refine Qh (Qd rfl ?_ ?_)
 ·intro h;simp at h
 intro _;refine Qi ?_;try simp only[go_sem]
 refine Q5 ?_;refine Qa ?_;simp only[go_sem,Qj];try intro _
 refine Qh (Qc (Qv (fun m e1 H1=>∃(i:Nat),m=l.length-i∧i≤l.length∧Kn H H1 [] []∧lk 1 e1=.c (.sl g 5 (Qm l))∧lk 2 e1=.c (.fn Qcu [])∧lk 15 e1=.c (.sl f 5 (Qm l))∧lk 16 e1=.c (.int .i64 l.length)∧lk 17 e1=.c (.int .i64 i)) l.length ?_ ?_))
 ·exact⟨0,by omega,by omega,.start0 H,rfl,rfl,rfl,rfl,rfl⟩
 ·rintro m e1 H1 ⟨i,hm,hi,kn,l1,l2,l15,l16,l17⟩;refine Qa ?_;simp only[go_sem,l1,l2,l15,l16,l17];refine Qh (Qd rfl ?_ ?_)
  ·intro hc;have hlt:i<l.length:=by simpa using hc
   obtain⟨p,hp⟩:∃p,l[i]=p:=⟨_,rfl⟩;refine Qi ?_;try simp only[go_sem]
   refine Qh (Qc ?_);refine Qa ?_;simp only[go_sem,l1,l2,l15,l16,l17,hlt,Qj,Q9 _ _ hlt,hp,BlkD.cells];intro x8 hx8 H2 h2;have kn:=kn.al hx8 h2;have hx8:=kn.l 0 rfl;simp only[go_sem,Qfb,hx8];intro H3 h3;have kn:Kn H H3 [] [(x8,.st p.cells)]:=kn.stL 0 rfl h3;refine Qa ?_;simp only[go_sem,l1,l2,l15,l16,l17,hlt,Qj,Q9 _ _ hlt,hp,BlkD.cells];intro x9 hx9 H4 h4;have kn:=kn.al hx9 h4;have hx9:=kn.l 1 rfl;simp only[go_sem,Qfc,hx9];intro H5 h5;have kn:Kn H H5 [] [(x8,.st p.cells),(x9,.st p.cells)]:=kn.stL 1 rfl h5;have hx8:H5 x8=.st p.cells:=kn.l 0 rfl;have hx9:H5 x9=.st p.cells:=kn.l 1 rfl;refine Qa ?_;simp only[go_sem,hx8,hx9,BlkD.cells,Jm,Jaj];refine Qbb5 (p:=p) fun H6 hu=>?_;have kn:=kn.call0 hu;simp only[go_sem,Qfd];refine Qd rfl ?_ ?_
   ·intro h;simp at h
   intro _;refine Qi ?_;try simp only[go_sem]
   refine Qq ?_;simp only[go_sem,l1,l2,l15,l16,l17];refine⟨Qp (by omega) (by omega),?_⟩;show ∃m,_;exact⟨l.length-(i+1),by omega,i+1,rfl,by omega,Kn.drop (A:=[]) (B:=[(x8,_),(x9,_)]) kn,rfl,rfl,rfl,rfl,rfl⟩
  ·intro hc;refine Qs ?_;simp only[go_sem,X.next];refine Qa ?_;simp only[go_sem];refine Qk ?_;simp only[go_sem,Q7,Qad,Qg7,Ja,forall_eq,RS.op];exact⟨_,.c _ _ (Qf rfl),hK _ kn.fin⟩
set_option maxHeartbeats 1000000 in
theorem Qbhj {p:CodeD}(hK:∀H',Upd H H' []→K (.c (.bool true)) H'):Qu prog Qdm [.ag p.cells,.ag p.cells] H K:=by
 refine Qt ?_;refine Qb Qam Qar4 ?_;have kn:=Kn.start0 H;refine Qa ?_;simp only[go_sem,CodeD.cells];refine Qa ?_;simp only[go_sem,decide_true];refine Qbd4 fun H1 hu=>?_;have kn:=kn.call0 hu;simp only[go_sem,Qo6,decide_true];refine Qk ?_;simp only[go_sem,Q7,Qad,Q1y,Ja,forall_eq,RS.op];exact⟨_,.c _ _ (Qf rfl),hK _ kn.fin⟩
set_option maxHeartbeats 2000000 in
theorem Qbie {f g:Bool}{l:List CodeD}(hK:∀H',Upd H H' []→K (.c (.bool true)) H'):Qu prog Qdh [.c (.sl f 3 (Ql l)),.c (.sl g 3 (Ql l)),.c (.fn Qdm [])] H K:=by
 refine Qt ?_;refine Qb Qam Qzg ?_;refine Qa ?_;simp only[go_sem];refine Q5 ?_;refine Qa ?_;simp only[go_sem,Qx,decide_true];intro hl;try intro _
 simp only[LIM]at hl;refine Qh (Qd rfl ?_ ?_)
 ·intro h;simp at h
 intro _;refine Qi ?_;try simp only[go_sem]
 refine Q5 ?_;refine Qa ?_;simp only[go_sem,Qx];try intro _
 refine Qh (Qc (Qv (fun m e1 H1=>∃(i:Nat),m=l.length-i∧i≤l.length∧Kn H H1 [] []∧lk 1 e1=.c (.sl g 3 (Ql l))∧lk 2 e1=.c (.fn Qdm [])∧lk 15 e1=.c (.sl f 3 (Ql l))∧lk 16 e1=.c (.int .i64 l.length)∧lk 17 e1=.c (.int .i64 i)) l.length ?_ ?_))
 ·exact⟨0,by omega,by omega,.start0 H,rfl,rfl,rfl,rfl,rfl⟩
 ·rintro m e1 H1 ⟨i,hm,hi,kn,l1,l2,l15,l16,l17⟩;refine Qa ?_;simp only[go_sem,l1,l2,l15,l16,l17];refine Qh (Qd rfl ?_ ?_)
  ·intro hc;have hlt:i<l.length:=by simpa using hc
   obtain⟨p,hp⟩:∃p,l[i]=p:=⟨_,rfl⟩;refine Qi ?_;try simp only[go_sem]
   refine Qh (Qc ?_);refine Qa ?_;simp only[go_sem,l1,l2,l15,l16,l17,hlt,Qx,Qaf _ _ hlt,hp,CodeD.cells];intro x8 hx8 H2 h2;have kn:=kn.al hx8 h2;have hx8:=kn.l 0 rfl;simp only[go_sem,Qft,hx8];intro H3 h3;have kn:Kn H H3 [] [(x8,.st p.cells)]:=kn.stL 0 rfl h3;refine Qa ?_;simp only[go_sem,l1,l2,l15,l16,l17,hlt,Qx,Qaf _ _ hlt,hp,CodeD.cells];intro x9 hx9 H4 h4;have kn:=kn.al hx9 h4;have hx9:=kn.l 1 rfl;simp only[go_sem,Qfu,hx9];intro H5 h5;have kn:Kn H H5 [] [(x8,.st p.cells),(x9,.st p.cells)]:=kn.stL 1 rfl h5;have hx8:H5 x8=.st p.cells:=kn.l 0 rfl;have hx9:H5 x9=.st p.cells:=kn.l 1 rfl;refine Qa ?_;simp only[go_sem,hx8,hx9,CodeD.cells,Jm,Jaj];refine Qbhj (p:=p) fun H6 hu=>?_;have kn:=kn.call0 hu;simp only[go_sem,Qfv];refine Qd rfl ?_ ?_
   ·intro h;simp at h
   intro _;refine Qi ?_;try simp only[go_sem]
   refine Qq ?_;simp only[go_sem,l1,l2,l15,l16,l17];refine⟨Qp (by omega) (by omega),?_⟩;show ∃m,_;exact⟨l.length-(i+1),by omega,i+1,rfl,by omega,Kn.drop (A:=[]) (B:=[(x8,_),(x9,_)]) kn,rfl,rfl,rfl,rfl,rfl⟩
  ·intro hc;refine Qs ?_;simp only[go_sem,X.next];refine Qa ?_;simp only[go_sem];refine Qk ?_;simp only[go_sem,Q7,Qad,Qiv,Ja,forall_eq,RS.op];exact⟨_,.c _ _ (Qf rfl),hK _ kn.fin⟩
theorem Qarq {f g:Bool}{cs:List CodeD}(hK:∀H',Upd H H' []→K (.c (.bool true)) H'):Qu prog Qh8 [.ag [.sl f 3 (Ql cs)],.ag [.sl g 3 (Ql cs)]] H K:=by
 refine Qt ?_;refine Qb Qam Qal6 ?_;refine Qa ?_;simp only[go_sem];refine Qa ?_;simp only[go_sem];refine Qbie fun H1 hu=>?_;have kn:=(Kn.start0 H).call0 hu;simp only[go_sem,Ql9];refine Qk ?_;simp only[go_sem,Q7,Qad,Qxo,Ja,forall_eq,RS.op];exact⟨_,.c _ _ (Qf rfl),hK _ kn.fin⟩
set_option maxHeartbeats 4000000 in
theorem Qarx {p:BlkD}(hK:∀H',Upd H H' []→K (.c (.bool true)) H'):Qu prog Qkt [.ag p.cells,.ag p.cells] H K:=by
 refine Qt ?_;refine Qb Qam Qar9 ?_;refine Qa ?_;simp only[go_sem,BlkD.cells];refine Q5 ?_;refine Qa ?_;simp only[go_sem,Q6,Qaa,decide_true];intro hlp hli;simp only[LIM]at hlp hli;refine Qarw ?_;simp only[go_sem,Qpu];refine Qh (Qd rfl ?_ ?_)
 ·intro h;simp at h
 intro _;refine Qi ?_;try simp only[go_sem]
 refine Q5 ?_;refine Qa ?_;simp only[go_sem];refine Qh (Qc (Qv (fun m e1 H1=>∃(i:Nat),m=p.phis.length-i∧i≤p.phis.length∧H1=H∧lk 2 e1=.c (.pp p.cells)∧lk 3 e1=.c (.pp p.cells)∧lk 5 e1=.c (.int .i64 i)) p.phis.length ?_ ?_))
 ·exact⟨0,by omega,by omega,rfl,rfl,rfl,rfl⟩
 ·rintro m e1 H1 ⟨i,hm,hi,rfl,l2,l3,l5⟩;simp only[BlkD.cells]at l2 l3;refine Q5 ?_;refine Qa ?_;simp only[go_sem,l2,l3,l5,Q6];try intro _
  refine Qh (Qd rfl ?_ ?_)
  ·intro hc;have hlt:i<p.phis.length:=by simpa using hc
   obtain⟨x,hx⟩:∃x,p.phis[i]=x:=⟨_,rfl⟩;refine Qi ?_;try simp only[go_sem]
   refine Qh (Qc ?_);refine Qak ?_;simp only[go_sem,l2,l3,l5,hlt,Q6,Qa0 _ _ hlt,hx,PhiD.cells,decide_true];refine Qarw ?_;simp only[go_sem,Qpv];refine Qd rfl ?_ ?_
   ·intro h;simp at h
   intro _;refine Qi ?_;try simp only[go_sem]
   refine Qq ?_;simp only[go_sem,l2,l3,l5];refine⟨Qp (by omega) (by omega),?_⟩;show ∃m,_;exact⟨p.phis.length-(i+1),by omega,i+1,rfl,by omega,rfl,rfl,rfl,rfl⟩
  ·intro hc;refine Qs ?_;simp only[go_sem,X.next];refine Q5 ?_;refine Qa ?_;simp only[go_sem,l2,l3];refine Qh (Qc (Qv (fun m e1 H2=>∃(i:Nat),m=p.ins.length-i∧i≤p.ins.length∧Kn H1 H2 [] []∧lk 2 e1=.c (.pp p.cells)∧lk 3 e1=.c (.pp p.cells)∧lk 6 e1=.c (.int .i64 i)) p.ins.length ?_ ?_))
   ·exact⟨0,by omega,by omega,.start0 H1,rfl,rfl,rfl⟩
   ·clear l2 l3 l5;rintro m e1 H2 ⟨i,hm,hi,kn,l2,l3,l6⟩;simp only[BlkD.cells]at l2 l3;refine Q5 ?_;refine Qa ?_;simp only[go_sem,l2,l3,l6,Qaa];try intro _
    refine Qh (Qd rfl ?_ ?_)
    ·intro hc;have hlt:i<p.ins.length:=(by simpa using hc);obtain⟨x,hx⟩:∃x,p.ins[i]=x:=⟨_,rfl⟩;refine Qi ?_;try simp only[go_sem]
     refine Qh (Qc ?_);refine Qa ?_;simp only[go_sem,l2,l3,l6,hlt,Qaa,Qay _ _ hlt,hx,InsD.cells];intro x7 hx7 H3 h3;have kn:=kn.al hx7 h3;have hx7:=kn.l 0 rfl;simp only[go_sem,Qpw,hx7];intro H4 h4;have kn:Kn H1 H4 [] [(x7,.st x.cells)]:=kn.stL 0 rfl h4;refine Qa ?_;simp only[go_sem,l2,l3,l6,hlt,Qaa,Qay _ _ hlt,hx,InsD.cells];intro x8 hx8 H5 h5;have kn:=kn.al hx8 h5;have hx8:=kn.l 1 rfl;simp only[go_sem,Qpx,hx8];intro H6 h6;have kn:Kn H1 H6 [] [(x7,.st x.cells),(x8,.st x.cells)]:=kn.stL 1 rfl h6;have hx7:H6 x7=.st x.cells:=kn.l 0 rfl;have hx8:H6 x8=.st x.cells:=kn.l 1 rfl;refine Qa ?_;simp only[go_sem,hx7,hx8,InsD.cells,decide_true];refine Qarw ?_;simp only[go_sem,Qpy];refine Qd rfl ?_ ?_
     ·intro h;simp at h
     intro _;refine Qi ?_;try simp only[go_sem]
     refine Qq ?_;simp only[go_sem,l2,l3,l6];refine⟨Qp (by omega) (by omega),?_⟩;show ∃m,_;exact⟨p.ins.length-(i+1),by omega,i+1,rfl,by omega,Kn.drop (A:=[]) (B:=[(x7,_),(x8,_)]) kn,rfl,rfl,rfl⟩
    ·intro hc;refine Qs ?_;simp only[go_sem,X.next];refine Qa ?_;simp only[go_sem];refine Qk ?_;simp only[go_sem,Q7,Qad,Q16,Ja,forall_eq,RS.op];exact⟨_,.c _ _ (Qf rfl),hK _ kn.fin⟩
set_option maxHeartbeats 1000000 in
theorem Qawm {p:CodeD}(hK:∀H',Upd H H' []→K (.c (.bool true)) H'):Qu prog Qn1 [.ag p.cells,.ag p.cells] H K:=by
 refine Qt ?_;refine Qb Qam Qawz ?_;refine Qa ?_;simp only[go_sem,CodeD.cells];refine Q5 ?_;refine Qa ?_;simp only[go_sem,Qj,decide_true];intro hl;try intro _
 simp only[LIM]at hl;refine Qh (Qd rfl ?_ ?_)
 ·intro h;simp at h
 intro _;refine Qi ?_;try simp only[go_sem]
 refine Q5 ?_;refine Qa ?_;simp only[go_sem];refine Qh (Qc (Qv (fun m e1 H1=>∃(i:Nat),m=p.blocks.length-i∧i≤p.blocks.length∧Kn H H1 [] []∧lk 2 e1=.c (.pp [.int .i64 p.params,.int .i64 p.regs,.sl false 5 (Qm p.blocks)])∧lk 3 e1=.c (.pp [.int .i64 p.params,.int .i64 p.regs,.sl false 5 (Qm p.blocks)])∧lk 5 e1=.c (.int .i64 i)) p.blocks.length ?_ ?_))
 ·exact⟨0,by omega,by omega,.start0 H,rfl,rfl,rfl⟩
 ·rintro m e1 H1 ⟨i,hm,hi,kn,l2,l3,l5⟩;refine Q5 ?_;refine Qa ?_;simp only[go_sem,l2,l3,l5,Qj];try intro _
  refine Qh (Qd rfl ?_ ?_)
  ·intro hc;have hlt:i<p.blocks.length:=by simpa using hc
   obtain⟨x,hx⟩:∃x,p.blocks[i]=x:=⟨_,rfl⟩;refine Qi ?_;try simp only[go_sem]
   refine Qh (Qc ?_);refine Qak ?_;simp only[go_sem,l2,l3,l5,hlt,Qj,Q9 _ _ hlt,hx,BlkD.cells];refine Qarx (p:=x) fun H2 hu=>?_;have kn:=kn.call0 hu;simp only[go_sem,Quo];refine Qd rfl ?_ ?_
   ·intro h;simp at h
   intro _;refine Qi ?_;try simp only[go_sem]
   refine Qq ?_;simp only[go_sem,l2,l3,l5];refine⟨Qp (by omega) (by omega),?_⟩;show ∃m,_;exact⟨p.blocks.length-(i+1),by omega,i+1,rfl,by omega,kn,rfl,rfl,rfl⟩
  ·intro hc;refine Qs ?_;simp only[go_sem,X.next];refine Qa ?_;simp only[go_sem];refine Qk ?_;simp only[go_sem,Q7,Qad,Q79,Ja,forall_eq,RS.op];exact⟨_,.c _ _ (Qf rfl),hK _ kn.fin⟩
set_option maxHeartbeats 1000000 in
theorem Qou {f g:Bool}{cs:List CodeD}(hK:∀H',Upd H H' []→K (.c (.bool true)) H'):Qu prog Qez [.ag [.sl f 3 (Ql cs)],.ag [.sl g 3 (Ql cs)]] H K:=by
 refine Qt ?_;refine Qb Qam Qaml ?_;refine Qa ?_;simp only[go_sem];refine Q5 ?_;refine Qa ?_;simp only[go_sem,Qx,decide_true];intro hl;try intro _
 simp only[LIM]at hl;refine Qh (Qd rfl ?_ ?_)
 ·intro h;simp at h
 intro _;refine Qi ?_;try simp only[go_sem]
 refine Q5 ?_;refine Qa ?_;simp only[go_sem];refine Qh (Qc (Qv (fun m e1 H1=>∃(i:Nat),m=cs.length-i∧i≤cs.length∧Kn H H1 [] []∧lk 2 e1=.c (.pp [.sl f 3 (Ql cs)])∧lk 3 e1=.c (.pp [.sl g 3 (Ql cs)])∧lk 5 e1=.c (.int .i64 i)) cs.length ?_ ?_))
 ·exact⟨0,by omega,by omega,.start0 H,rfl,rfl,rfl⟩
 ·rintro m e1 H1 ⟨i,hm,hi,kn,l2,l3,l5⟩;refine Q5 ?_;refine Qa ?_;simp only[go_sem,l2,l3,l5,Qx];try intro _
  refine Qh (Qd rfl ?_ ?_)
  ·intro hc;have hlt:i<cs.length:=by simpa using hc
   obtain⟨x,hx⟩:∃x,cs[i]=x:=⟨_,rfl⟩;refine Qi ?_;try simp only[go_sem]
   refine Qh (Qc ?_);refine Qak ?_;simp only[go_sem,l2,l3,l5,hlt,Qx,Qaf _ _ hlt,hx,CodeD.cells];refine Qawm (p:=x) fun H2 hu=>?_;have kn:=kn.call0 hu;simp only[go_sem,Qne];refine Qd rfl ?_ ?_
   ·intro h;simp at h
   intro _;refine Qi ?_;try simp only[go_sem]
   refine Qq ?_;simp only[go_sem,l2,l3,l5];refine⟨Qp (by omega) (by omega),?_⟩;show ∃m,_;exact⟨cs.length-(i+1),by omega,i+1,rfl,by omega,kn,rfl,rfl,rfl⟩
  ·intro hc;refine Qs ?_;simp only[go_sem,X.next];refine Qa ?_;simp only[go_sem];refine Qk ?_;simp only[go_sem,Q7,Qad,Qxy,Ja,forall_eq,RS.op];exact⟨_,.c _ _ (Qf rfl),hK _ kn.fin⟩
end Go.AE.Y
namespace Go.AE.Y
attribute [local go_sem] cond_true cond_false Bool.not_true Bool.not_false
attribute [local instance] Classical.propDecidable
open Go.Proofs.Tryz
variable {H H0:Heap}{K:V→Heap→Prop}{E B Lg:List (Nat×Obj)}{cs:List CodeD}
theorem Qaeg {bs:List UInt8}(hK:∀(cs:List CodeD) (H':Heap),Upd H H' []→UnitOk cs→K (.ag [.sl false 3 (Ql cs)]) H') :
  Qu prog Qd6 [.c (.sl false 1 (Qb8 bs))] H K:=by
 refine Qt ?_;refine Qb Qam Q1s ?_;refine Qa ?_;simp only[go_sem];intro x2 hx2 H1 h1;have kn:=(Kn.start0 H).al hx2 h1;refine Qa ?_;simp only[go_sem];refine Qbjg fun R H2 hR h2=>?_;have kn:=kn.al hR h2 (R.o_ne 0);simp only[go_sem,Qgu];refine Qbjc (kn.l 1 rfl) (by omega) fun cs H3 k2 hk3 hk4 hu hok=>?_;have kn:=kn.callL 1 rfl hu (R.o_ne _);have hx2:=kn.l 0 rfl;simp only[go_sem,Qgt,hx2];intro H5 h5;have kn:=kn.stL 0 rfl h5;have hx2:=kn.l 0 rfl;refine Qk ?_;simp only[go_sem,Q7,Qad,Qj6,Ja,forall_eq,RS.op,hx2];exact⟨_,Qfe cs,hK cs _ kn.fin hok⟩
theorem Qap4 (hg:Qa3 cs=true):Qa3 (Qnp cs)=true∧Qnp (Qnp cs)=Qnp cs∧(Qabj (Qnp cs)).length=(Qnp cs).length∧(Qabj cs).length=(Qnp cs).length:=by
 have e:Qnp cs=Qc0 cs (Qdi cs):=by rw[Qnp,if_pos hg]
 have h1:Qa3 (Qc0 cs (Qdi cs))=true:=Qawb hg rfl;have h2:Qdi (Qc0 cs (Qdi cs))=List.range (Qc0 cs (Qdi cs)).length:=by rw[Qbx];exact Qbh9 hg rfl
 refine⟨by rw[e];exact h1,?_,?_,?_⟩
 ·rw[e,Qnp,if_pos h1,h2];exact Qbnx h1
 ·rw[e,Qabj,if_pos h1,h2,Jaz]
 ·rw[e,Qabj,if_pos hg,Qbx]
theorem Qbnj (hg:Qa3 cs=true):∀c∈cs,c.fits:=fun c hc=>by
 obtain⟨i,hi,rfl⟩:=Jk.1 hc;exact (Qvw hg hi).fts
theorem Qbd1 (cs:List CodeD):∀c∈Qnp cs,c.fits:=by
 by_cases hg:Qa3 cs=true
 ·exact Qbnj (Qap4 hg).1
 ·rw[Qnp,if_neg hg];simp
set_option maxHeartbeats 8000000 in
theorem FnDropCodesAgain_c {bs:List UInt8}(hK:∀H',K (.c (.bool true)) H'):Qu prog Qfh [.c (.sl false 1 (Qb8 bs))] H K:=by
 refine Qb Qam Qsn ?_;have retT':∀(e:Env) (H':Heap),lk 2 e=.c (.bool true)→Q7 Qcx K .ret e H':=by
  intro e H' h2;simp only[go_sem,Q7,Qad,Qcx,Ja,forall_eq,RS.op,h2];exact hK H'
 refine Qa ?_;simp only[go_sem];refine Q5 ?_;refine Qa ?_;simp only[go_sem,Qaz];intro _;refine Qh (Qd rfl (fun hc=>?_) (fun hc=>?_))
 ·refine Qa ?_;simp only[go_sem];refine Qk ?_;exact retT' _ _ rfl
 refine Qi ?_;try simp only[go_sem]
 refine Qa ?_;simp only[go_sem];refine Qaeg fun cs H1 hu hok=>?_;have hfit:=hok.fits;have hfd:=Qbd1 cs;obtain⟨ds,hds⟩:∃ds,Qnp cs=ds:=⟨_,rfl⟩;rw[hds]at hfd;have kn:=(Kn.start0 H).call0 hu;simp only[go_sem,Qei];intro x3 hx3 H2 h2;have kn:=kn.al hx3 h2;have hx3:=kn.l 0 rfl;simp only[go_sem,Qeh,hx3];intro H3 h3;have kn:Kn H H3 [] [(x3,.st [.sl false 3 (Ql cs)])]:=kn.stL 0 rfl h3;have hx3:=kn.l 0 rfl;refine Qa ?_;simp only[go_sem,hx3];refine Q1j hfit fun H4 hu=>?_;rw[hds];have kn:=kn.call0 hu;simp only[go_sem,Qel,Jx,Jw];intro x4 hx4 H5 h5;have kn:=kn.al hx4 h5;have hx4:=kn.l 1 rfl;simp only[go_sem,Qek,hx4];intro H6 h6;have kn:Kn H H6 [] [(x3,.st [.sl false 3 (Ql cs)]),(x4,.st [.sl false 3 (Ql ds)])]:=kn.stL 1 rfl h6;have hx3:=kn.l 0 rfl;simp only[go_sem,Qej];refine Qa ?_;simp only[go_sem,hx3];refine Qavp hfit fun H7 hu=>?_;rw[hds];have kn:=kn.call0 hu;simp only[go_sem,Qeo,Jx,Jw];intro x6 hx6 H8 h8;have kn:=kn.al hx6 h8;have hx6:=kn.l 2 rfl;simp only[go_sem,Qen,hx6];intro H9 h9;have kn:Kn H H9 [] [(x3,.st [.sl false 3 (Ql cs)]),(x4,.st [.sl false 3 (Ql ds)]),(x6,.st [.sl false 3 (Ql ds)])]:=kn.stL 2 rfl h9;have hx4:=kn.l 1 rfl;have hx6:=kn.l 2 rfl;simp only[go_sem,Qem];refine Q5 ?_
 cases hg:Qa3 cs with
 |false=>
  refine Qa ?_;simp only[go_sem,hg,hx4,hx6,decide_true];refine Qou fun H10 hu=>?_;have kn:=kn.call0 hu;have hx4:=kn.l 1 rfl;have hx6:=kn.l 2 rfl;simp only[go_sem,Qcb];refine Qh (Qd rfl ?_ ?_)
  ·intro _;refine Qa ?_;simp only[go_sem,hx4,hx6,decide_true];refine Qou fun H11 hu=>?_;simp only[go_sem,Qdt];refine Qk ?_;exact retT' _ _ rfl
  ·intro h;simp at h
 |true=>
  obtain⟨hge,hda,hn1,hn2⟩:=Qap4 hg;rw[hds]at hge hda hn1 hn2;refine Qa ?_;simp only[go_sem,hg,hx4,hx6,decide_true];refine Qou fun H10 hu=>?_;have kn:=kn.call0 hu;simp only[go_sem,Qcb];refine Qh (Qd rfl ?_ ?_)
  ·intro h;simp at h
  intro _;refine Qi ?_;try simp only[go_sem]
  have kn:Kn H H10 [] [(x3,.st [.sl false 3 (Ql cs)]),(x4,.st [.sl false 3 (Ql ds)])]:=Kn.drop (A:=[_,_]) (B:=[_]) kn;have hx4:=kn.l 1 rfl;refine Qa ?_;simp only[go_sem,hx4];refine Q1j hfd fun H11 hu=>?_;have kn:=kn.call0 hu;rw[hge,hda];simp only[go_sem,Qdw,Jx,Jw];intro x8 hx8 H12 h12;have kn:=kn.al hx8 h12;have hx8:=kn.l 2 rfl;simp only[go_sem,Qdv,hx8];intro H13 h13;have kn:Kn H H13 [] [(x3,.st [.sl false 3 (Ql cs)]),(x4,.st [.sl false 3 (Ql ds)]),(x8,.st [.sl false 3 (Ql ds)])]:=kn.stL 2 rfl h13;have hx4:=kn.l 1 rfl;have hx8:=kn.l 2 rfl;simp only[go_sem,Qdu];refine Qak ?_;simp only[go_sem,hx4,hx8];refine Qarq fun H14 hu=>?_;have kn:=kn.call0 hu;have hx4:=kn.l 1 rfl;simp only[go_sem,Qdz,hx4,Qx];try intro _
  refine Qsk hfd fun H15 hu=>?_;have kn:=kn.call0 hu;have hx4:=kn.l 1 rfl;have hx3:=kn.l 0 rfl;simp only[go_sem,Qdy,hx3,hx4,Qx,Qz,hn1,decide_true];try intro _
  try intro _
  refine Qsk hfit fun H16 hu=>?_;have kn:=kn.call0 hu;have hx4:=kn.l 1 rfl;simp only[go_sem,Qdx,hx4,Qx,Qz,hn2,decide_true];try intro _
  try intro _
  refine Qk ?_;exact retT' _ _ rfl
end Go.AE.Y
namespace Go.AE.Y
open Go.ChangeShapes Go.WideShapes Go.ChangeAt Go.RowKit
def Qbry (w:World)(a:Option Addr)(len cap:Nat)(zs:List Int):Prop:=
 (a=none∧len=0∧cap=0∧zs=[])∨
 ∃x,a=some x∧len≤cap∧zs.length=cap∧(∀i,i<zs.length→w.cell? (x.add i)=some (.int .u8 (zs.getD i 0)))∧∀n∈zs,(Lit.int .u8 n).wf=true
theorem Qbm6 (w:World):Sat (fun _=>.none) ⟨fun b=>decide (b<w.heap.size),fun _=>none,fun _=>none⟩ w:=by
 refine⟨fun b hb=>⟨by simp;omega,rfl⟩,⟨0,fun _ _=>rfl⟩,fun b x h=>by simp at h,fun b l p h=>by simp at h,fun l=>trivial⟩
theorem Qbsc {n:Int}(h:(Lit.int .u8 n).wf=true):((UInt8.ofNat n.toNat).toNat:Int)=n:=by
 simp only[Lit.wf,J0,decide_eq_true_eq]at h;have a1:IntKind.min .u8=0:=by decide
 have a2:IntKind.max .u8=255:=by decide
 rw[a1,a2]at h;rw[UInt8.toNat_ofNat'];omega
theorem calls_of_acall {P:Program}{f:Nat}(h:∀bs:List UInt8,bs.length≤1048576→Qu P f [.c (.sl false 1 (Qb8 bs))] (fun _=>.none) fun v _=>v=.c (.bool true))
  {a0:Option Addr} {len0 cap0:Nat} {z0:List Int} {w:World} (hr:Qbry w a0 len0 cap0 z0) (hl:len0≤1048576) :
  Calls P f #[.slice a0 len0 cap0] w fun e w'=>e=.returned (.bool true)∧Below w.heap.size w w':=by
 have key:∃bs:List UInt8,bs.length=len0∧RepC w ⟨fun b=>decide (b<w.heap.size),fun _=>none,fun _=>none⟩ (.sl false 1 (Qb8 bs)) (.slice a0 len0 cap0):=by
  rcases hr with ⟨rfl,rfl,rfl,rfl⟩|⟨x,rfl,hlc,hz,hcell,hwf⟩
  ·exact⟨[],rfl,.slnil _ _ _⟩
  ·obtain⟨b,off,spot⟩:=x;have hbl:((z0.take len0).map fun n=>UInt8.ofNat n.toNat).length=len0:=by simp;omega
   by_cases h0:cap0=0
   ·subst h0;have:len0=0:=(by omega);subst this;exact⟨[],rfl,.slnil _ _ _⟩
   have hc0:=hcell 0 (by omega);have hspot:spot=none:=by simpa[Addr.add]using World.cell?_spot hc0
   subst hspot;have hadd:∀i,(⟨b,off,none⟩:Addr).add i=⟨b,off+i,none⟩:=by
    intro i;by_cases h:i=0 <;> simp[Addr.add,h]
   have hb:b<w.heap.size:=by
    rcases Ja6 b w.heap.size with h|h
    ·exact h
    ·simp[World.cell?,Addr.add,Array.getElem?_eq_none h]at hc0
   refine⟨_,hbl,?_⟩;have hget:∀(i:Nat) (row:List C),(Qb8 ((z0.take len0).map fun n=>UInt8.ofNat n.toNat))[i]? = some row→i<len0∧row=[.int .u8 (z0.getD i 0)]:=by
    intro i row hi;have hlt:i<len0:=by
     rcases Ja6 i len0 with h|h
     ·exact h
     ·rw[J7 (by rw[Qaz];omega)]at hi;simp at hi
    have hz0:i<z0.length:=(by omega);refine⟨hlt,?_⟩;simp only[Qb8,List.getElem?_map,List.getElem?_take,if_pos hlt,Jj hz0,Jas,Ja9]at hi;rw[←hi,Qbsc (hwf _ (Jd hz0))];simp[Jf,hz0]
   have:=RepC.sl (w:=w) (g:=⟨fun b=>decide (b<w.heap.size),fun _=>none,fun _=>none⟩) false 1 (Qb8 ((z0.take len0).map fun n=>UInt8.ofNat n.toNat)) b off cap0 (fun i _=>.int .u8 (z0.getD i 0))
    (by rw[Qaz,hbl];simp only[LIM];omega) (by simp) (by rw[Qaz,hbl];exact hlc) (by simpa using hb)
    (fun i row hi=>by rw[(hget i row hi).2];rfl)
    (fun i row j c hi hj=>by
     obtain⟨h1,rfl⟩:=hget i row hi;have hj0:j=0:=by
      rcases Jax j with h|h
      ·exact h
      ·rw[J7 (by simp;omega)]at hj;simp at hj
     subst hj0;have:=hcell i (by omega);rw[hadd]at this;simpa using this)
    (fun i row j c hi hj=>by
     obtain⟨h1,rfl⟩:=hget i row hi;have hj0:j=0:=by
      rcases Jax j with h|h
      ·exact h
      ·rw[J7 (by simp;omega)]at hj;simp at hj
     subst hj0;simp at hj;subst hj;exact .int _ _)
   rw[Qaz,hbl]at this;exact this
 obtain⟨bs,hbl,hrep⟩:=key;have hc:=(h bs (by omega)).2 _ w [.slice a0 len0 cap0] (Qbm6 w) rfl (fun j x u hj hu=>by
  cases j with
  |zero=>simp at hj hu;subst hj;subst hu;exact .c _ _ hrep
  |succ j=>simp at hj)
 refine hc.mono fun e w'=>?_;rintro⟨v,x,H',g',rfl,rfl,hst,hv⟩;have:v=.bool true:=by cases hv with|c _ _ h=>cases h;rfl
 subst this;exact⟨rfl,hst.le.os,hst.le.tape,hst.le.output,hst.le.size,fun k hk=>(hst.le.per k (by simpa using hk)).2⟩
end Go.AE.Y
