/- Part 6 of the proof: the engine, codes, walks and plain laws, each named where it stands. -/
import Derived.Test.YtajdffbgjodbfaaGreatZE
import Derived.Below
import Derived.OpenShut
import Derived.ProofKit
open Nat (reduceEqDiff reduceAdd reduceLeDiff reduceLT)
set_option linter.unusedVariables false
set_option linter.unusedSimpArgs false
set_option maxRecDepth 4000
namespace Go.AE.Y
attribute [local go_sem] cond_true cond_false Bool.not_true Bool.not_false
attribute [local instance] Classical.propDecidable
open Go.Proofs.Tryz
variable {H H0:Heap}{K:V→Heap→Prop}{E B Lg:List (Nat×Obj)}{q:CodeD}
theorem Qa89 {S:Nat→Bool}(q:CodeD):FrzV H S (.ag q.cells) (.ag q.cells):=FrzL.ag (.cons (.same _ rfl) (.cons (.same _ rfl) (.cons (.same _ rfl) .nil)))
structure CodeD.sgl (q:CodeD):Prop where
 ok:q.ok
 p0:0≤q.params
 pr:q.params≤q.regs
 h9:∀y∈q.blocks,y.ins.length≤900∧y.phis.length≤900
theorem Qbce {cs:List CodeD}(h:Qnw cs=true){c:CodeD}(hc:c∈cs):c.sgl:=by
 obtain⟨k,hk,rfl⟩:=List.mem_iff_getElem.1 hc
 have ho:=Qa80 h hk
 obtain⟨_,h2,h3⟩:=of_decide_eq_true h
 obtain⟨g1,g2⟩:=h2 k hk
 simp only[Qqk,Bool.and_eq_true,decide_eq_true_eq]at g1
 refine⟨ho,by omega,by omega,fun y hy=>?_⟩
 have a1:=Q2p (f:=cntQ) (List.getElem_mem hk)
 have a2:=Q2p (f:=Qz0) hy
 simp only[cntQ,Qz0]at *
 omega
set_option maxHeartbeats 2000000 in
theorem Qa5a (hq:q.sgl)(hK:∀(d:CodeD) H',d.fits→Upd H H' []→K (.ag d.cells) H') :
  Qu prog Qu2 [.ag [.int .i64 q.params,.int .i64 q.regs,.sl false 5 (Qn q.blocks)],.c (.str [115,105,110,103,108,101])] H K:=by
 refine Qz ?_
 refine Qb Qat Qa5x ?_
 refine Qa ?_
 simp only[go_sem]
 intro x4 hx4 H1 h1
 have kn:=(Kn.start0 H).al hx4 h1
 refine Q4 ?_
 refine Qa ?_
 simp only[go_sem]
 refine Qh (Qc ?_)
 refine Qa ?_
 simp only[go_sem]
 refine Qe rfl (fun hc=>absurd hc (by decide)) (fun _=>?_)
 refine Qa ?_
 simp only[go_sem]
 refine Qe rfl (fun hc=>absurd hc (by decide)) (fun _=>?_)
 refine Qa ?_
 simp only[go_sem]
 refine Qe rfl (fun hc=>absurd hc (by decide)) (fun _=>?_)
 refine Qa ?_
 simp only[go_sem]
 refine Qe rfl (fun hc=>absurd hc (by decide)) (fun _=>?_)
 refine Qa ?_
 simp only[go_sem]
 refine Qe rfl (fun _=>?_) (fun hc=>absurd hc (by decide))
 refine Qa ?_
 simp only[go_sem]
 refine Qasi hq.ok hq.p0 hq.pr hq.h9 fun d H2 hd hu=>?_
 have kn:=kn.call0 hu
 have hx4:=kn.l 0 rfl
 simp only[go_sem,Qxo,CodeD.cells,hx4]
 intro H3 h3
 have kn:=kn.stL 0 rfl h3
 have hx4:=kn.l 0 rfl
 refine Qj ?_
 simp only[go_sem,X.next,Q5,Qae,Qak5,List.mem_singleton,forall_eq,RS.op,hx4]
 exact⟨_,Qa89 d,hK d _ hd kn.fin⟩
set_option maxHeartbeats 4000000 in
theorem Qa48 {cs:List CodeD}{fl:Bool}(hfit:∀c∈cs,c.fits)(hK:∀(ds:List CodeD) (b:Bool) H',(b=true→UnitOk ds)→Upd H H' []→K (.tup [.ag [.sl false 3 (Qq ds)],.c (.bool b)]) H') :
  Qu prog Qu0 [.ag [.sl fl 3 (Qq cs)],.c (.str [115,105,110,103,108,101])] H K:=by
 refine Qz ?_
 refine Qb Qat Qa5u ?_
 refine Qa ?_
 simp only[go_sem]
 intro x4 hx4 H1 h1
 have kn:=(Kn.start0 H).al hx4 h1
 simp only[go_sem,Qxb]
 refine Q4 ?_
 refine Qa ?_
 simp only[go_sem]
 refine Qf0 hfit fun H2 hu=>?_
 have kn:=kn.call0 hu
 simp only[go_sem,Qxc]
 refine Qh (Qe rfl ?_ ?_)
 ·intro _
  have hx4:=kn.l 0 rfl
  refine Qa ?_
  simp only[go_sem,hx4]
  intro H3 h3
  have kn:=kn.stL 0 rfl h3
  have hx4:=kn.l 0 rfl
  simp only[go_sem,Qxd]
  refine Qj ?_
  simp only[go_sem,X.next,Q5,Qae,Qsj,List.forall_mem_cons,List.not_mem_nil,RS.op,hx4]
  refine⟨fun _=>trivial,_,Qae9 (FrzL.ag (.cons (FrzR.nil.sl) .nil)) (.c _ _ (Qg rfl)),hK [] false _ (fun h=>by simp at h) kn.fin⟩
 ·intro hc
  have hG:Qnw cs=true:=Qed hc
  refine Qi ?_
  try simp only[go_sem]
  refine Qa ?_
  simp only[go_sem]
  intro x6 hx6 H3 h3
  have kn:=kn.al hx6 h3
  have hx6:=kn.l 1 rfl
  simp only[go_sem,Qxe,hx6]
  intro H4 h4
  have kn:Kn H H4 [] [(x4,.st [.sl true 3 []]),(x6,.st [.sl true 3 []])]:=kn.stL 1 rfl h4
  refine Q4 ?_
  refine Qa ?_
  simp only[go_sem]
  have hcl:=(Qajq hfit hG).1
  refine Qh (Qc (Qw (fun m e1 H1=>∃(ds:List CodeD) (t:C) (Lg:List (Nat×Obj)),m=cs.length-ds.length∧ds.length≤cs.length∧(∀d∈ds,d.fits)∧Gr Lg 3 (Qq ds) t∧Kn H H1 [] ([(x4,.st [.sl true 3 []]),(x6,.st [t])]++Lg)∧
   lk 1 e1=.c (.str [115,105,110,103,108,101])∧lk 2 e1=.c (.pp [.sl fl 3 (Qq cs)])∧lk 4 e1=.c (.ptr x4 0)∧lk 6 e1=.c (.ptr x6 0)∧lk 7 e1=.c (.int .i64 ds.length)) cs.length ?_ ?_))
  ·exact⟨[],_,[],by simp,by simp,by simp,.nil 3,by simpa using kn,rfl,rfl,rfl,rfl,rfl⟩
  ·clear kn hx6
   rintro m e1 H5 ⟨ds,t,Lg,hm,hdl,hds,hgr,kn,l1,l2,l4,l6,l7⟩
   have htw:=hgr.isOw
   refine Q4 ?_
   refine Qa ?_
   simp only[go_sem,l1,l2,l4,l6,l7,Q3]
   try intro _
   refine Qh (Qe rfl ?_ ?_)
   ·intro hc2
    have hlt:ds.length<cs.length:=by simpa using hc2
    have hx6:=kn.l 1 rfl
    obtain⟨q,hq⟩:∃q,cs[ds.length]=q:=⟨_,rfl⟩
    have hqs:q.sgl:=Qbce hG (by rw[←hq];exact List.getElem_mem hlt)
    refine Qi ?_
    try simp only[go_sem]
    refine Qh (Qc ?_)
    refine Qbb ?_
    simp only[go_sem,l1,l2,l4,l6,l7,hx6,htw,hlt,Q3,Qaf _ _ hlt,CodeD.cells,hq]
    refine Qa5a hqs fun d H6 hd hu=>?_
    have kn:=kn.call0 hu
    have hx6:=kn.l 1 rfl
    simp only[go_sem,Qxg,CodeD.cells,hx6,htw]
    refine kn.growR (new:=Qq [d]) hgr (.mk' _ _ _ _) (Qbz _) (by simp only[Q3,LIM,List.length_cons,List.length_nil];omega) fun t2 Lg2 H7 hgr2 ht2 kn=>?_
    have hx6:=kn.l 1 rfl
    simp only[go_sem,Qxf,hx6,ht2]
    intro H8 h8
    have kn:=kn.stL 1 rfl h8
    refine Qr ?_
    simp only[go_sem,l1,l2,l4,l6,l7]
    refine⟨Qo (by omega) (by omega),?_⟩
    show ∃m,_
    refine⟨cs.length-(ds.length+1),by omega,ds++[d],t2,Lg2,by simp,by simp only[List.length_append,List.length_cons,List.length_nil];omega,fun w hw=>?_,?_,kn,rfl,rfl,rfl,rfl,by simp[lk]⟩
    ·rcases List.mem_append.1 hw with hw|hw
     ·exact hds w hw
     ·simp only[List.mem_singleton]at hw;rw[hw];exact hd
    ·have:Qq (ds++[d])=Qq ds++Qq [d]:=by simp[Qq]
     rw[this];exact hgr2
   ·intro _
    refine Qt ?_
    simp only[go_sem,X.next]
    have hx6:=kn.l 1 rfl
    obtain⟨S,hSL,hSB,hfz,kn⟩:=kn.freeze0
    have hx6b:=hSB (x6,.st [t]) (by simp)
    have hft:FrzC H5 S t (.sl false 3 (Qq ds)):=Gr.frzM hgr hSL (FrzR.same (Qbz _))
    have kn:=kn.setL (o':=.st [.sl false 3 (Qq ds)]) 1 rfl (by simp)
    refine c_gh (Qe4 S (Qasa ?_) (hfz.set (o:=.st [.sl false 3 (Qq ds)]) hx6b.2 (by rw[hx6b.1];exact FrzKL.st (.cons htw hft .nil)))) (e':=[(4,.c (.ptr x4 0)),(6,.c (.ptr x6 0))]) ?_
    ·simp only[List.forall_mem_cons]
     exact⟨.c _ _ (.same _ rfl),.c _ _ (.same _ rfl),by simp⟩
    generalize (H5.frz S).set x6 (Obj.st [C.sl false 3 (Qq ds)])=H6 at *
    have hx6:=kn.l 1 rfl
    have hx4:=kn.l 0 rfl
    clear hfz hx6b hft hSL hSB
    refine Q4 ?_
    refine Qa ?_
    simp only[go_sem,hx6]
    refine Qf0 hds fun H7 hu=>?_
    have kn:=kn.call0 hu
    have hx6:=kn.l 1 rfl
    have hx4:=kn.l 0 rfl
    simp only[go_sem,Qs5]
    refine Qh (Qe rfl ?_ ?_)
    ·intro _
     refine Qa ?_
     simp only[go_sem,hx4]
     intro H8 h8
     have kn:=kn.stL 0 rfl h8
     have hx4:=kn.l 0 rfl
     simp only[go_sem,Qs6]
     refine Qj ?_
     simp only[go_sem,X.next,Q5,Qae,Qsj,List.forall_mem_cons,List.not_mem_nil,RS.op,hx4]
     refine⟨fun _=>trivial,_,Qae9 (FrzL.ag (.cons (FrzR.nil.sl) .nil)) (.c _ _ (Qg rfl)),hK [] false _ (fun h=>by simp at h) kn.fin⟩
    ·intro hc3
     have hG2:Qnw ds=true:=Qed hc3
     refine Qi ?_
     try simp only[go_sem]
     refine Qa ?_
     simp only[go_sem,hx6,hx4]
     intro H8 h8
     have kn:=kn.stL 0 rfl h8
     have hx4:=kn.l 0 rfl
     simp only[go_sem,Qs7]
     refine Qj ?_
     simp only[go_sem,X.next,Q5,Qae,Qsj,List.forall_mem_cons,List.not_mem_nil,RS.op,hx4]
     obtain⟨u1,u2,u3⟩:=Qajq hds hG2
     refine⟨fun _=>trivial,_,Qae9 (Qjm ds) (.c _ _ (Qg rfl)),hK ds true _ (fun _=>⟨u2,u1,u3⟩) kn.fin⟩
theorem Qaju {cs:List CodeD}{fl:Bool}(hfit:∀c∈cs,c.fits)(hK:∀(ds:List CodeD) (b:Bool) H',(b=true→UnitOk ds)→Upd H H' []→K (.tup [.ag [.sl false 3 (Qq ds)],.c (.bool b)]) H') :
  Qu prog Qef [.ag [.sl fl 3 (Qq cs)]] H K:=by
 refine Qz ?_
 refine Qb Qat Q3z ?_
 refine Qa ?_
 simp only[go_sem]
 intro x2 hx2 H1 h1
 have kn:=(Kn.start0 H).al hx2 h1
 simp only[go_sem,Qgj]
 refine Qa ?_
 simp only[go_sem]
 refine Qa48 hfit fun ds b H2 hb hu=>?_
 have kn:=kn.call0 hu
 have hx2:=kn.l 0 rfl
 simp only[go_sem,Qgl,List.getD_cons_zero,List.getD_cons_succ,hx2]
 intro H3 h3
 have kn:=kn.stL 0 rfl h3
 have hx2:=kn.l 0 rfl
 simp only[go_sem,Qgk]
 refine Qj ?_
 simp only[go_sem,Q5,Qae,Ql5,List.forall_mem_cons,List.not_mem_nil,RS.op,hx2]
 exact⟨fun _=>trivial,_,Qae9 (Qjm ds) (.c _ _ (Qg rfl)),hK ds b _ hb kn.fin⟩
def oneU:List CodeD:=[⟨0,1,[⟨[],[⟨1,0,[],0⟩],3,0,[]⟩]⟩]
theorem Qbem:UnitOk oneU:=by
 refine⟨by simp[oneU],by simp[oneU],fun c hc=>?_⟩
 simp only[oneU,List.mem_singleton]at hc
 subst hc
 refine⟨by simp,by simp,fun y hy=>?_,fun y hy=>?_⟩
 ·simp only[List.mem_singleton]at hy;subst hy;simp
 ·simp only[List.mem_singleton]at hy;subst hy;simp
theorem Qba3 {S:Nat→Bool}:FrzC H S (.sl true 3 [[.int .i64 0,.int .i64 1,.sl true 5 [[.sl true 2 [],.sl true 4 [[.int .i64 1,.int .i64 0,.sl true 1 [],.int .i64 0]],.int .i64 3,.int .i64 0,.sl true 1 []]]]]) (.sl false 3 (Qq oneU)):=
 FrzR.sl (.cons (.cons (Qg rfl) (.cons (Qg rfl) (.cons (FrzR.sl (.cons (.cons FrzR.nil.sl (.cons (FrzR.sl (.cons (.cons (Qg rfl) (.cons (Qg rfl) (.cons FrzR.nil.sl (.cons (Qg rfl) .nil)))) .nil)) (.cons (Qg rfl) (.cons (Qg rfl) (.cons FrzR.nil.sl .nil))))) .nil)) .nil))) .nil)
theorem Qa5e {R:Rdr}{k:Nat}(hH:H R.l=R.o k)(hk:k+7100000≤2^30)
  (hK:∀(cs:List CodeD) (H':Heap) (k':Nat),k<k'→k'≤k+7050000→Upd H H' [(R.l,R.o k')]→UnitOk cs→K (.ag [.sl false 3 (Qq cs)]) H') :
  Qu prog Qu6 [.c (.ptr R.l 0)] H K:=by
 refine Qz ?_
 refine Qb Qat Qa54 ?_
 refine Qa ?_
 simp only[go_sem]
 intro x2 hx2 H1 h1
 have kn:=(Kn.start1 hH (R.o_ne k)).al hx2 h1
 refine Qa ?_
 simp only[go_sem]
 refine Qake (kn.e 0 rfl) (by omega) fun cs H3 k2 hk3 hk4 hu hok=>?_
 have kn:=kn.callE 0 rfl hu (R.o_ne _)
 simp only[go_sem,Qye]
 refine Qaju hok.fits fun ds b H4 hb hu=>?_
 have kn:=kn.call0 hu
 simp only[go_sem,Qyd,List.getD_cons_zero,List.getD_cons_succ]
 intro x3 hx3 H5 h5
 have kn:=kn.al hx3 h5
 have hx3:=kn.l 1 rfl
 simp only[go_sem,Qyc,hx3]
 intro H6 h6
 have kn:=kn.stL 1 rfl h6
 have hx2:=kn.l 0 rfl
 have hx3:=kn.l 1 rfl
 simp only[go_sem,Qyb]
 refine Q4 ?_
 refine Qa ?_
 simp only[go_sem]
 refine Qh (Qe rfl ?_ ?_)
 ·intro _
  refine Qa ?_
  simp only[go_sem,hx2]
  intro H7 h7
  have kn:=kn.stL 0 rfl h7
  have hx2:=kn.l 0 rfl
  refine Qj ?_
  simp only[go_sem,X.next,Q5,Qae,Q4j,List.mem_singleton,forall_eq,RS.op,hx2]
  exact⟨_,FrzL.ag (.cons Qba3 .nil),hK oneU _ k2 hk3 hk4 kn.fin Qbem⟩
 ·intro hc
  have hbt:b=true:=Qed hc
  refine Qi ?_
  try simp only[go_sem]
  refine Qa ?_
  simp only[go_sem,hx2,hx3]
  intro H7 h7
  have kn:=kn.stL 0 rfl h7
  have hx2:=kn.l 0 rfl
  refine Qj ?_
  simp only[go_sem,Q5,Qae,Q4j,List.mem_singleton,forall_eq,RS.op,hx2]
  exact⟨_,Qjm ds,hK ds _ k2 hk3 hk4 kn.fin (hb hbt)⟩
theorem Qa5d {R:Rdr}{k:Nat}(hH:H R.l=R.o k)(hk:k+7300000≤2^30)
  (hK:∀(cs:List CodeD) (H':Heap) (k':Nat),k<k'→k'≤k+7150000→Upd H H' [(R.l,R.o k')]→UnitOk cs→K (.ag [.sl false 3 (Qq cs)]) H') :
  Qu prog Qu5 [.c (.ptr R.l 0)] H K:=by
 refine Qz ?_
 refine Qb Qat Qa53 ?_
 refine Qa ?_
 simp only[go_sem]
 intro x2 hx2 H1 h1
 have kn:=(Kn.start1 hH (R.o_ne k)).al hx2 h1
 refine Q4 ?_
 refine Qa ?_
 simp only[go_sem]
 refine Qa3 (kn.e 0 rfl) (by omega) fun v H2 hv hu=>?_
 have kn:=kn.callE 0 rfl hu (R.o_ne _)
 simp only[go_sem,Qx8]
 refine Qh (Qe rfl ?_ ?_)
 ·intro hc
  refine Qa ?_
  simp only[go_sem]
  refine Qakd (kn.e 0 rfl) (by omega) fun cs H3 k2 hk3 hk4 hu hok=>?_
  have kn:=kn.callE 0 rfl hu (R.o_ne _)
  have hx2:=kn.l 0 rfl
  simp only[go_sem,Qx9,hx2]
  intro H4 h4
  have kn:=kn.stL 0 rfl h4
  have hx2:=kn.l 0 rfl
  refine Qj ?_
  simp only[go_sem,X.next,Q5,Qae,Q4i,List.mem_singleton,forall_eq,RS.op,hx2]
  exact⟨_,Qjm cs,hK cs _ k2 (by omega) (by omega) kn.fin hok⟩
 ·intro hc
  refine Qi ?_
  try simp only[go_sem]
  refine Qa ?_
  simp only[go_sem]
  refine Qa5e (kn.e 0 rfl) (by omega) fun cs H3 k2 hk3 hk4 hu hok=>?_
  have kn:=kn.callE 0 rfl hu (R.o_ne _)
  have hx2:=kn.l 0 rfl
  simp only[go_sem,Qya,hx2]
  intro H4 h4
  have kn:=kn.stL 0 rfl h4
  have hx2:=kn.l 0 rfl
  refine Qj ?_
  simp only[go_sem,Q5,Qae,Q4i,List.mem_singleton,forall_eq,RS.op,hx2]
  exact⟨_,Qjm cs,hK cs _ k2 (by omega) (by omega) kn.fin hok⟩
end Go.AE.Y

namespace Go.AE.Y
attribute [local go_sem] cond_true cond_false Bool.not_true Bool.not_false
attribute [local instance] Classical.propDecidable
open Go.Proofs.Tryz
variable {H H0:Heap}{K:V→Heap→Prop}{E B Lg:List (Nat×Obj)}{q:CodeD}
theorem Qazm {S:Nat→Bool}{a b c a' b' c':V}(h:FrzV H S a a')(k:FrzV H S b b')(l:FrzV H S c c'):FrzV H S (.tup [a,b,c]) (.tup [a',b',c']):=by
 refine .tup _ _ rfl fun j x x' h1 h2=>?_
 match j with
 |0=>simp at h1 h2;subst h1;subst h2;exact h
 |1=>simp at h1 h2;subst h1;subst h2;exact k
 |2=>simp at h1 h2;subst h1;subst h2;exact l
 |j+3=>simp at h1
theorem Qbd6 {cs:List CodeD}(h:0<cs.length):((cs.length:Int)-1)=((cs.length-1:Nat):Int):=by omega
set_option maxHeartbeats 4000000 in
theorem Qa07 {fl:Bool}{bs:List UInt8}(hK:∀(cs:List CodeD) (k r:Int) (H':Heap),Upd H H' []→UnitOk cs→-1≤k→k≤4→K (.tup [.ag [.sl false 3 (Qq cs)],.c (.int .i64 k),.c (.int .i64 r)]) H') :
  Qu prog Qqi [.c (.sl fl 1 (Qbq bs))] H K:=by
 refine Qz ?_
 refine Qb Qat Qa1i ?_
 refine Qa ?_
 simp only[go_sem]
 intro x2 hx2 H1 h1
 have kn:=(Kn.start0 H).al hx2 h1
 simp only[go_sem,Qt5]
 refine Qa ?_
 simp only[go_sem]
 refine Qa5j fun R H2 hR h2=>?_
 have kn:=kn.al hR h2 (R.o_ne 0)
 simp only[go_sem,Qt6]
 refine Qa ?_
 simp only[go_sem]
 refine Qa5d (kn.l 1 rfl) (by omega) fun cs H3 k2 hk3 hk4 hu hok=>?_
 have kn:=kn.callL 1 rfl hu (R.o_ne _)
 simp only[go_sem,Qt8]
 intro x6 hx6 H4 h4
 have kn:=kn.al hx6 h4
 have hx6:=kn.l 2 rfl
 simp only[go_sem,Qt7,hx6]
 intro H5 h5
 have kn:Kn H H5 [] [(x2,.st [.sl true 3 []]),(R.l,R.o k2),(x6,.st [.sl false 3 (Qq cs)])]:=kn.stL 2 rfl h5
 refine Q4 ?_
 refine Qa ?_
 simp only[go_sem]
 refine Qa3 (kn.l 1 rfl) (by omega) fun v H6 hv hu=>?_
 have kn:=kn.callL 1 rfl hu (R.o_ne _)
 simp only[go_sem,Qt9]
 refine Qdc (fun e2 H2=>∃(cs:List CodeD) (k:Nat),k≤20000000∧UnitOk cs∧Kn H H2 [] [(x2,.st [.sl true 3 []]),(R.l,R.o k),(x6,.st [.sl false 3 (Qq cs)])]∧lk 2 e2=.c (.ptr x2 0)∧lk 5 e2=.c (.ptr R.l 0)∧lk 6 e2=.c (.ptr x6 0)) ?_ ?_
 ·intro Q hnr _ _
  refine Qe rfl ?_ ?_
  ·intro _
   refine Qr ?_
   simp only[go_sem]
   refine Qakd (kn.l 1 rfl) (by omega) fun cs2 H7 k3 hk5 hk6 hu hok2=>?_
   have kn:=kn.callL 1 rfl hu (R.o_ne _)
   have hx6:=kn.l 2 rfl
   simp only[go_sem,Qua,hx6]
   intro H8 h8
   have kn:=kn.stL 2 rfl h8
   exact hnr _ _ ⟨cs2,k3,by omega,hok2,kn,rfl,rfl,rfl⟩
  ·intro _
   refine Qi ?_
   try simp only[go_sem]
   exact hnr _ _ ⟨cs,k2+1,by omega,hok,kn,rfl,rfl,rfl⟩
 ·clear kn hx6 hok hk3 hk4
  rintro e2 H7 ⟨cs,k,hk,hok,kn,l2,l5,l6⟩
  have hx6:=kn.l 2 rfl
  obtain⟨h0,h4',hgd⟩:=hok
  have hi:cs.length-1<cs.length:=by omega
  refine Qa ?_
  simp only[go_sem,l2,l5,l6,hx6,Q3]
  try intro _
  refine⟨Qo (by omega) (by omega),fun _=>?_⟩
  refine Qfz (ns:=[(cs.length:Int)-1,0,-1,(cs.length:Int),0]) (kn.l 1 rfl) (by omega) (by simp) fun n H8 hn hu=>?_
  have kn:=kn.callL 1 rfl hu (R.o_ne _)
  have hn2:-1≤n∧n≤4:=by simp at hn;omega
  have hx6:=kn.l 2 rfl
  simp only[go_sem,Qub,l2,l5,l6]
  refine Qa ?_
  simp only[go_sem,hx6,Q3,Qbd6 h0,hi,Qaf _ _ hi,CodeD.cells]
  try intro _
  refine⟨Qo (by omega) (by omega),?_⟩
  generalize cs[cs.length-1].regs=rg
  refine Qak ?_
  simp only[go_sem,hx6]
  refine Qa3 (kn.l 1 rfl) (by omega) fun v1 H9 hv1 hu=>?_
  have kn:=kn.callL 1 rfl hu (R.o_ne _)
  have hx6:=kn.l 2 rfl
  simp only[go_sem,Qpl,hx6]
  refine Qa3 (kn.l 1 rfl) (by omega) fun v2 H10 hv2 hu=>?_
  have kn:=kn.callL 1 rfl hu (R.o_ne _)
  have hx6:=kn.l 2 rfl
  simp only[go_sem,Qpk,hx6]
  refine Qfz (ns:=[v1,0,v2,-1,rg]) (kn.l 1 rfl) (by omega) (by simp) fun r H11 hr hu=>?_
  have kn:=kn.callL 1 rfl hu (R.o_ne _)
  have hx6:=kn.l 2 rfl
  have hx2:=kn.l 0 rfl
  simp only[go_sem,Qud,hx6,hx2]
  intro H12 h12
  have kn:=kn.stL 0 rfl h12
  have hx2:=kn.l 0 rfl
  simp only[go_sem,Quc]
  refine Qj ?_
  simp only[go_sem,Q5,Qae,Qaeb,List.forall_mem_cons,List.not_mem_nil,RS.op,hx2]
  exact⟨fun _=>trivial,_,Qazm (Qjm cs) (.c _ _ (Qg rfl)) (.c _ _ (Qg rfl)),hK cs n r _ kn.fin ⟨h0,h4',hgd⟩ hn2.1 hn2.2⟩
theorem Qaaa {fl:Bool}{bs:List UInt8}(hK:∀(cs:List CodeD) (k r:Int) (H':Heap),Upd H H' []→UnitOk cs→-1≤k→k≤4→K (.tup [.ag [.sl false 3 (Qq cs)],.c (.int .i64 k),.c (.int .i64 r)]) H') :
  Qu prog Qdg [.c (.sl fl 1 (Qbq bs))] H K:=by
 refine Qz ?_
 refine Qb Qat Qvi ?_
 refine Qa ?_
 simp only[go_sem]
 intro x2 hx2 H1 h1
 have kn:=(Kn.start0 H).al hx2 h1
 simp only[go_sem,Qeo]
 refine Qa ?_
 simp only[go_sem]
 refine Qa07 fun cs k r H2 hu hok hk1 hk2=>?_
 have kn:=kn.call0 hu
 have hx2:=kn.l 0 rfl
 simp only[go_sem,Qeq,List.getD_cons_zero,List.getD_cons_succ,hx2]
 intro H4 h4
 have kn:=kn.stL 0 rfl h4
 have hx2:=kn.l 0 rfl
 simp only[go_sem,Qep]
 refine Qj ?_
 simp only[go_sem,Q5,Qae,Qhq,List.forall_mem_cons,List.not_mem_nil,RS.op,hx2]
 exact⟨fun _=>trivial,_,Qazm (Qjm cs) (.c _ _ (Qg rfl)) (.c _ _ (Qg rfl)),hK cs k r _ kn.fin hok hk1 hk2⟩
def caI (q:CodeD)(b j:Nat):List Plc:=((List.range j).filter fun i=>decide ((((Qbx q b).ins[i]?).map InsD.op).getD 0=14)).map fun (i:Nat)=>((b:Int),(i:Int))
def caTo (q:CodeD)(b:Nat):List Plc:=(List.range b).flatMap fun b=>caI q b (Qbx q b).ins.length
def caL (q:CodeD):List Plc:=caTo q q.blocks.length
noncomputable def callsI (cs:List CodeD)(k:Int):List Plc:=if hasG cs k=true then match cs[k.toNat]? with
 |some q=>caL q
 |none=>[]else []
end Go.AE.Y

namespace Go.AE.Y
attribute [local go_sem] cond_true cond_false Bool.not_true Bool.not_false
attribute [local instance] Classical.propDecidable
open Go.Proofs.Tryz
variable {H H0:Heap}{K:V→Heap→Prop}{E B Lg:List (Nat×Obj)}{q:CodeD}
def bks (q:CodeD):Nat:=q.blocks.length
noncomputable def blocksI (cs:List CodeD):Int:=if Qnw cs=true then (Qli bks cs:Nat)else -1
end Go.AE.Y

namespace Go.AE.Y
attribute [local go_sem] cond_true cond_false Bool.not_true Bool.not_false
attribute [local instance] Classical.propDecidable
open Go.Proofs.Tryz
variable {H H0:Heap}{K:V→Heap→Prop}{E B Lg:List (Nat×Obj)}{q:CodeD}
noncomputable def sizeI (cs:List CodeD)(k:Int):Int:=if hasG cs k=true then match cs[k.toNat]? with
 |some q=>(cntQ q:Nat)
 |none=>-1 else -1
end Go.AE.Y

namespace Go.AE.Y
attribute [local go_sem] cond_true cond_false Bool.not_true Bool.not_false
attribute [local instance] Classical.propDecidable
open Go.Proofs.Tryz
variable {H H0:Heap}{K:V→Heap→Prop}{E B Lg:List (Nat×Obj)}{q:CodeD}
section
variable {P:Program}{e:Env}{its r:List Item}{KK:Env→Heap→Prop}{d:Option Nat}{t:Nat}{w:Bool}{op:FOp}
theorem Qaz1 (x y:V):Qa6m false x y=y:=by
 cases x with
 |c a=>cases y with
  |c b=>cases a <;> cases b <;> rfl
  |_=>cases a <;> rfl
 |_=>cases y <;> rfl
def isF:Item→Bool
 |.f ..=>true
 |_=>false
theorem Qazg:∀(n:Nat) {its:List Item} {e:Env} {H:Heap},(its.take n).all isF=true→Qce P (its.take n) e H (fun e' H'=>Qce P (its.drop n) e' H' KK)→Qce P its e H KK
 |0,_,_,_,_,h=>h
 |n+1,[],_,_,_,h=>h
 |n+1,x::r,e,H,hf,h=>by
  simp only[List.take_succ_cons,List.all_cons,Bool.and_eq_true]at hf
  cases x with
  |f d g op=>exact⟨h.1,h.2.1,Qazg n hf.2 h.2.2⟩
  |p d g f args=>exact absurd hf.1 (by simp[isF])
  |e d g op=>exact absurd hf.1 (by simp[isF])
  |chk d g op=>exact absurd hf.1 (by simp[isF])
theorem Q27 (n:Nat){H:Heap}(hf:(its.take n).all isF=true)(h:∀B,B=its.drop n→Qce P (its.take n) e H (fun e' H'=>Qce P B e' H' KK)):Qce P its e H KK:=Qazg n hf (h _ rfl)
theorem off1 {v0:V}(h0:lk t e=.gd false v0)(h:∀v,Qce P r (Qrw d (.gd false v) e) H KK):Qce P (.f d (some (t,w)) op::r) e H KK:=by
 have hb:gdB e (some (t,w))=false:=by
  simp only[gdB,h0];cases v0 <;> try rfl
  rename_i c;cases c <;> rfl
 refine⟨?_,fun h=>absurd h (by simp[hb]),?_⟩
 ·simp only[gdO,h0];cases v0 <;> try trivial
  rename_i c;cases c <;> trivial
 ·simp only[hb,gdV];exact h _
theorem off2 {q b:Bool}(h0:lk t e=.gd q (.c (.bool b)))(h1:(b == w)=false)(h:∀v,Qce P r (Qrw d (.gd false v) e) H KK):Qce P (.f d (some (t,w)) op::r) e H KK:=by
 have hb:gdB e (some (t,w))=false:=by
  simp only[gdB,h0,h1,Bool.and_false]
 refine⟨by simp only[gdO,h0],fun h=>absurd h (by simp[hb]),?_⟩
 simp only[hb,gdV];exact h _
theorem Qaj5 {d g t1 t2:Nat}{w bb:Bool}(ho:gdO e (some (g,w)))(hb:gdB e (some (g,w))=true)(h1:lk t1 e=.gd true (.c (.bool false)))(h:Qce P r ((d,.gd true (.c (.bool bb)))::e) H KK) :
  Qce P (.f (some d) (some (g,w)) (.pick (.t t1) (.t t2) (.k (.c (.bool bb))))::r) e H KK:=by
 refine⟨ho,fun _=>?_,?_⟩
 ·simp only[FOp.obl,Opd.fine,Opd.v,Opd.raw,h1,hb,V.bare,V.fine,Bool.and_false]
  refine⟨fun h=>h,?_,trivial⟩
  cases lk t2 e <;> first|trivial|exact fun h=>by cases h
 ·simp only[FOp.val,Opd.v,Opd.raw,h1,hb,V.bare,gdV,Qaz1,Qrw]
  exact h
end
def plcLt (p r:Plc):Prop:=p.1<r.1∨(p.1=r.1∧p.2<r.2)
end Go.AE.Y

namespace Go.AE.Y
attribute [local go_sem] cond_true cond_false Bool.not_true Bool.not_false
attribute [local instance] Classical.propDecidable
open Go.Proofs.Tryz
variable {H H0:Heap}{K:V→Heap→Prop}{E B Lg:List (Nat×Obj)}{q:CodeD}
def usP (y:BlkD):List Int:=y.phis.flatMap fun p=>p.args
def usI (y:BlkD):List Int:=y.ins.flatMap fun x=>x.args
def usO (y:BlkD):List Int:=if y.jump=1 then []else [y.on]
def usB (y:BlkD):List Int:=usP y++usI y++usO y
def usTo (q:CodeD)(n:Nat):List Int:=(List.range n).flatMap fun b=>usB (Qbx q b)
def cntsOf (R:Nat)(U:List Int):List Int:=(List.range R).map fun (r:Nat)=>((U.count (r:Int):Nat):Int)
theorem rIn.nt {v:Int}(h:rIn q v):∃r:Nat,v=(r:Int)∧r<q.regs.toNat:=⟨v.toNat,by have:=h.1;omega,by have:=h.1;have:=h.2;omega⟩
end Go.AE.Y

namespace Go.AE.Y
attribute [local go_sem] cond_true cond_false Bool.not_true Bool.not_false
attribute [local instance] Classical.propDecidable
open Go.Proofs.Tryz
variable {H H0:Heap}{K:V→Heap→Prop}{E B Lg:List (Nat×Obj)}{q:CodeD}
end Go.AE.Y

namespace Go.AE.Y
attribute [local go_sem] cond_true cond_false Bool.not_true Bool.not_false
attribute [local instance] Classical.propDecidable
open Go.Proofs.Tryz
variable {H H0:Heap}{K:V→Heap→Prop}{E B Lg:List (Nat×Obj)}{q:CodeD}
noncomputable def regB (cs:List CodeD)(k r:Int):Bool:=hasG cs k&&match cs[k.toNat]? with
 |some q=>decide (0≤r)&&decide (r≤q.regs-1)
 |none=>false
noncomputable def usesI (cs:List CodeD)(k r:Int):Int:=if regB cs k r=true then match cs[k.toNat]? with
 |some q=>((usTo q q.blocks.length).count r:Nat)
 |none=>-1 else -1
theorem Qatc {cs:List CodeD}{m:Nat}{r:Int}(hg:hasG cs (m:Int)=true)(hm:m<cs.length):regB cs (m:Int) r=(decide (0≤r)&&decide (r≤cs[m].regs-1)):=by
 rw[regB,hg];simp[hm]
theorem Qbba {cs:List CodeD}{k r:Int}(h:regB cs k r=true):hasG cs k=true:=by
 rw[regB,Bool.and_eq_true]at h;exact h.1
set_option maxHeartbeats 4000000 in
theorem Qbet {cs:List CodeD}{fl:Bool}{k r:Int}(hfit:∀c∈cs,c.fits)(hK:∀(H':Heap),Upd H H' []→K (.c (.bool (regB cs k r))) H') :
  Qu prog Qqe [.ag [.sl fl 3 (Qq cs)],.c (.int .i64 k),.c (.int .i64 r)] H K:=by
 refine Qb Qat Qa1c ?_
 refine Qa ?_
 simp only[go_sem]
 refine Qa ?_
 simp only[go_sem]
 refine Qa87 hfit fun H1 hu=>?_
 simp only[go_sem,Qs4]
 cases hg:hasG cs k with
 |false=>
  have e:regB cs k r=false:=by rw[regB,hg];rfl
  simp only[go_sem,Qjd]
  refine Qj ?_
  simp only[go_sem,Q5,Qae,Qvq,List.mem_singleton,forall_eq,RS.op]
  have:=hK _ hu
  rw[e]at this
  exact this
 |true=>
  obtain⟨m,hm,rfl,ho⟩:=Q3r hg
  have e:=Qatc (r:=r) hg hm
  obtain⟨q,hq⟩:∃q,cs[m]=q:=⟨_,rfl⟩
  rw[hq]at ho e
  have hr0:=ho.r0
  have hr1:=ho.r1
  simp only[go_sem,hm,Q3,Qaf _ _ hm,CodeD.cells,hq]
  refine⟨Qo (by omega) (by omega),?_⟩
  refine Qcs ?_
  simp only[go_sem,Qjd]
  refine Qj ?_
  simp only[go_sem,Q5,Qae,Qvq,List.mem_singleton,forall_eq,RS.op]
  have:=hK _ hu
  rw[e]at this
  exact this
set_option maxHeartbeats 4000000 in
theorem Qa92 {cs:List CodeD}{fl:Bool}{k r:Int}(hfit:∀c∈cs,c.fits)(hK:∀(H':Heap),Upd H H' []→K (.c (.bool (regB cs k r))) H') :
  Qu prog Q3g [.ag [.sl fl 3 (Qq cs)],.c (.int .i64 k),.c (.int .i64 r)] H K:=by
 refine Qb Qat Qbai ?_
 refine Qa ?_
 simp only[go_sem]
 refine Qa ?_
 simp only[go_sem]
 refine Qa91 hfit fun H1 hu=>?_
 simp only[go_sem,Q5l]
 cases hg:hasG cs k with
 |false=>
  have e:regB cs k r=false:=by rw[regB,hg];rfl
  simp only[go_sem,Qrg]
  refine Qj ?_
  simp only[go_sem,Q5,Qae,Qaf7,List.mem_singleton,forall_eq,RS.op]
  have:=hK _ hu
  rw[e]at this
  exact this
 |true=>
  obtain⟨m,hm,rfl,ho⟩:=Q3r hg
  have e:=Qatc (r:=r) hg hm
  obtain⟨q,hq⟩:∃q,cs[m]=q:=⟨_,rfl⟩
  rw[hq]at ho e
  have hr0:=ho.r0
  have hr1:=ho.r1
  simp only[go_sem,hm,Q3,Qaf _ _ hm,CodeD.cells,hq]
  refine⟨Qo (by omega) (by omega),?_⟩
  refine Qcf ?_
  simp only[go_sem,Qrg]
  refine Qj ?_
  simp only[go_sem,Q5,Qae,Qaf7,List.mem_singleton,forall_eq,RS.op]
  have:=hK _ hu
  rw[e,←Bool.decide_and]at this
  exact this
theorem Qagd {cs:List CodeD}{k r:Int}(h:regB cs k r=true):∃(m r':Nat) (hm:m<cs.length),k=(m:Int)∧r=(r':Int)∧cs[m].ok∧r'<cs[m].regs.toNat:=by
 have hg:=Qbba h
 obtain⟨m,hm,rfl,ho⟩:=Q3r hg
 rw[Qatc hg hm,Bool.and_eq_true,decide_eq_true_eq,decide_eq_true_eq]at h
 exact⟨m,r.toNat,hm,rfl,by omega,ho,by omega⟩
end Go.AE.Y

namespace Go.AE.Y
attribute [local go_sem] cond_true cond_false Bool.not_true Bool.not_false
attribute [local instance] Classical.propDecidable
open Go.Proofs.Tryz
variable {H H0:Heap}{K:V→Heap→Prop}{E B Lg:List (Nat×Obj)}{q:CodeD}
def pR2 (p:Plc):List C:=[.int .i64 p.1,.int .i64 p.2]
def Q99 (ps:List Plc):List (List C):=ps.map pR2
theorem Q2r (ps:List Plc):(Q99 ps).length=ps.length:=by simp[Q99]
theorem Qa6p (ps:List Plc)(i:Nat)(h:i<ps.length):(Q99 ps).getD i []=pR2 ps[i]:=by simp[Q99,List.getD_eq_getElem?_getD,h]
theorem Q37 (ps:List Plc):∀r∈Q99 ps,noOw r=true:=by intro r hr;obtain⟨x,_,rfl⟩:=List.mem_map.1 hr;rfl
def Qark (q:CodeD):List (List C):=(List.range q.regs.toNat).map fun r=>[.sl false 2 (Q99 (Qwn q r))]
def SReg.ok2 (s:SReg):Prop:=Gr s.lg 2 (Q99 s.ps) s.c
structure SIn2 (R N:Nat)(F:Nat→List Plc)(ss:List SReg):Prop where
 n:ss.length=R
 f:∀r (h:r<ss.length),ss[r].ps=F r
 ok:∀s∈ss,s.ok2
 l:∀s∈ss,s.ps.length≤N
variable {R N:Nat}{F F':Nat→List Plc}{ss:List SReg}
theorem SIn2.get (h:SIn2 R N F ss){x:Nat}(hx:x<R):∃s∈ss,∃hx':x<ss.length,ss[x]=s∧s.ps=F x∧s.ok2∧s.ps.length≤N∧(ss.map SReg.row).getD x []=[s.c]:=
 have hx':x<ss.length:=by rw[h.n];exact hx
 ⟨ss[x],List.getElem_mem hx',hx',rfl,h.f x hx',h.ok _ (List.getElem_mem hx'),h.l _ (List.getElem_mem hx'),by simp[List.getD_eq_getElem?_getD,hx',SReg.row]⟩
theorem SIn2.put (h:SIn2 R N F ss){x:Nat}(hx:x<R){p:Plc}{t:C}{Lg:List (Nat×Obj)}(hg:Gr Lg 2 (Q99 (F x++[p])) t)(hF:∀r,F' r=if r=x then F x++[p]else F r) :
  SIn2 R (N+1) F' (ss.set x ⟨F x++[p],t,Lg⟩):=by
 obtain⟨s,hs,hx',e1,e2,e3,e4,_⟩:=h.get hx
 refine⟨by rw[List.length_set];exact h.n,fun r hr=>?_,fun w hw=>?_,fun w hw=>?_⟩
 ·rw[List.getElem_set,hF]
  split
  ·rename_i e;rw[if_pos e.symm]
  ·rename_i e;rw[if_neg (fun hh=>e hh.symm)];exact h.f r (by simpa using hr)
 ·rcases List.mem_or_eq_of_mem_set hw with hw|rfl
  ·exact h.ok w hw
  ·exact hg
 ·rcases List.mem_or_eq_of_mem_set hw with hw|rfl
  ·have:=h.l w hw;omega
  ·rw[e2]at e4;simp only[List.length_append,List.length_cons,List.length_nil];omega
theorem SIn2.same (h:SIn2 R N F ss)(hF:∀r,r<R→F' r=F r):SIn2 R N F' ss:=⟨h.n,fun r hr=>by rw[h.f r hr,hF r (by rw[←h.n];exact hr)],h.ok,h.l⟩
set_option maxHeartbeats 8000000 in
theorem Qa1q (ho:q.ok)(hK:∀H',Upd H H' []→K (.c (.sl false 1 (Qark q))) H') :
  Qu prog Qgr [.ag q.cells] H K:=by
 have hr0:=ho.r0
 have hr1:=ho.r1
 have hb1:=ho.b1
 obtain⟨R,hR⟩:∃R:Nat,q.regs.toNat=R:=⟨_,rfl⟩
 have hRq:q.regs=(R:Int):=by omega
 refine Qz ?_
 refine Qb Qat Qafq ?_
 refine Qa ?_
 simp only[go_sem,CodeD.cells]
 refine Qa ?_
 simp only[go_sem,hRq]
 refine⟨by simp only[LIM];omega,fun o ho2 H1 h1=>?_⟩
 have kn:Kn H H1 [] (ssL o (List.replicate R ⟨[],.sl true 2 [],[]⟩)):=by
  have e:(List.replicate R (SReg.mk [] (.sl true 2 []) [])).flatMap SReg.lg=[]:=List.flatMap_eq_nil_iff.2 fun s hs=>by rw[List.eq_of_mem_replicate hs]
  have:=(Kn.start0 H).al ho2 h1
  rw[ssL,e]
  simpa[SReg.row]using this
 simp only[go_sem,Qjx]
 have hS0:SIn2 R 0 (Qa7 q 0) (List.replicate R ⟨[],.sl true 2 [],[]⟩):=⟨by simp,fun r h=>by simp[Qa7],fun s hs=>by rw[List.eq_of_mem_replicate hs];exact .nil 2,fun s hs=>by rw[List.eq_of_mem_replicate hs];simp⟩
 generalize List.replicate R (SReg.mk [] (.sl true 2 []) [])=ss0 at *
 refine Q4 ?_
 refine Qa ?_
 simp only[go_sem,Qk]
 try intro _
 refine Qh (Qc (Qw (fun m e1 H1=>∃(b N:Nat) (ss:List SReg),m=q.blocks.length-b∧b≤q.blocks.length∧N≤b * 2400∧SIn2 R N (Qa7 q b) ss∧Kn H H1 [] (ssL o ss)∧
  lk 3 e1=.c (.vsl o 1 0 R)∧lk 15 e1=.c (.sl false 5 (Qn q.blocks))∧lk 16 e1=.c (.int .i64 q.blocks.length)∧lk 17 e1=.c (.int .i64 b)) q.blocks.length ?_ ?_))
 ·exact⟨0,0,ss0,by omega,by omega,by omega,hS0,kn,rfl,rfl,rfl,rfl⟩
 ·clear kn hS0 h1 ho2
  clear ss0
  rintro m e1 H1 ⟨b,N,ss,hm,hb,hNb,hS,kn,l3,l15,l16,l17⟩
  refine Qa ?_
  simp only[go_sem,l3,l15,l16,l17]
  refine Qh (Qe rfl ?_ ?_)
  ·intro hc
   have hlt:b<q.blocks.length:=by simpa using hc
   obtain⟨y,hy⟩:∃y,q.blocks[b]=y:=⟨_,rfl⟩
   have hya:Qbx q b=y:=by rw[Qb1 hlt,hy]
   have hyo:=ho.bs b hlt
   have hil:=ho.il b hlt
   rw[hy]at hyo hil
   refine Qi ?_
   try simp only[go_sem]
   refine Qh (Qc ?_)
   refine Qa ?_
   simp only[go_sem,l3,l15,l16,l17,hlt,Qk,Q9 _ _ hlt,BlkD.cells,hy]
   intro x5 hx5 H2 h2
   have kn:=kn.al hx5 h2
   have hx5:H2 x5=.st [.sl true 2 [],.sl true 4 [],.int .i64 0,.int .i64 0,.sl true 1 []]:=(kn.get (x5,.st [.sl true 2 [],.sl true 4 [],.int .i64 0,.int .i64 0,.sl true 1 []]) (by simp)).1
   simp only[go_sem,Qjy,hx5]
   intro H3 h3
   have kn:Kn H H2 [] ([(x5,.st [.sl true 2 [],.sl true 4 [],.int .i64 0,.int .i64 0,.sl true 1 []])]++ssL o ss):=kn.perm (by simp)
   have kn:Kn H H3 [] ([(x5,.st [.sl false 2 (Qab y.phis),.sl false 4 (Qa6 y.ins),.int .i64 y.jump,.int .i64 y.on,.sl false 1 (Qd y.next)])]++ssL o ss):=kn.stL 0 rfl h3
   have hx5:=kn.l 0 rfl
   refine Q4 ?_
   refine Qa ?_
   simp only[go_sem,hx5,Q7]
   try intro _
   refine Qh (Qc (Qw (fun m e1 H1=>∃(k N:Nat) (ss:List SReg),m=y.phis.length-k∧k≤y.phis.length∧N≤b * 2400+k∧SIn2 R N (fun r=>Qa7 q b r++phS q b k r) ss∧Kn H H1 [] ([(x5,.st [.sl false 2 (Qab y.phis),.sl false 4 (Qa6 y.ins),.int .i64 y.jump,.int .i64 y.on,.sl false 1 (Qd y.next)])]++ssL o ss)∧
    lk 3 e1=.c (.vsl o 1 0 R)∧lk 4 e1=.c (.int .i64 b)∧lk 5 e1=.c (.ptr x5 0)∧lk 15 e1=.c (.sl false 5 (Qn q.blocks))∧lk 16 e1=.c (.int .i64 q.blocks.length)∧lk 17 e1=.c (.int .i64 b)∧
    lk 23 e1=.c (.sl false 2 (Qab y.phis))∧lk 24 e1=.c (.int .i64 y.phis.length)∧lk 25 e1=.c (.int .i64 k)) y.phis.length ?_ ?_))
   ·exact⟨0,N,ss,by omega,by omega,Nat.le_trans hNb (Nat.le_add_right _ _),hS.same fun r _=>by simp[phS],kn,rfl,rfl,rfl,rfl,rfl,rfl,rfl,rfl,rfl⟩
   ·clear kn hS l3 l15 l16 l17 h2 h3 hx5
    rintro m2 e2 H2 ⟨k,N,ss,hm2,hk,hNb,hS,kn,l3,l4,l5,l15,l16,l17,l23,l24,l25⟩
    refine Qa ?_
    simp only[go_sem,l3,l4,l5,l15,l16,l17,l23,l24,l25]
    refine Qh (Qe rfl ?_ ?_)
    ·intro hc2
     have hlt2:k<y.phis.length:=by simpa using hc2
     obtain⟨p,hp⟩:∃p,y.phis[k]=p:=⟨_,rfl⟩
     have hpm:p∈y.phis:=by rw[←hp];exact List.getElem_mem hlt2
     obtain⟨x,hv,hvl⟩:=(hyo.pto p hpm).nt
     have hsucc:∀r,phS q b (k+1) r=phS q b k r++if p.to=(r:Int)then [((b:Int),(-1:Int))]else []:=fun r=>by
      have:=Qaz0 (q:=q) (b:=b) (k:=k) (r:=r) (by rw[hya];exact hlt2)
      simp only[hya,hp]at this
      exact this
     refine Qi ?_
     try simp only[go_sem]
     refine Qh (Qc ?_)
     rw[hR]at hvl
     obtain⟨s,hsm,hxl,hsx,hsF,hsok,hsl,hsg⟩:=hS.get hvl
     have hsw:=hsok.isOw
     refine Qa ?_
     simp only[go_sem,l3,l4,l5,l15,l16,l17,l23,l24,l25,hlt2,Q7,Qa9 _ _ hlt2,PhiD.cells,hp]
     intro x7 hx7 H3 h3
     have kn:=kn.al hx7 h3
     have hx7:H3 x7=.st [.int .i64 0,.sl true 1 []]:=(kn.get (x7,.st [.int .i64 0,.sl true 1 []]) (by simp)).1
     simp only[go_sem,Qjz,hx7]
     intro H4 h4
     have kn:Kn H H3 [] ([(x7,.st [.int .i64 0,.sl true 1 []]),(x5,.st [.sl false 2 (Qab y.phis),.sl false 4 (Qa6 y.ins),.int .i64 y.jump,.int .i64 y.on,.sl false 1 (Qd y.next)])]++ssL o ss):=kn.perm (Qp fun f hf h0 hc hp=>by
      show f (([(x5,_)]++ssL o ss)++[(x7,_)])=f ([(x7,_)]++([(x5,_)]++ssL o ss))
      simp only[hf];omega)
     have kn:Kn H H4 [] ([(x7,.st [.int .i64 p.to,.sl false 1 (Qd p.args)]),(x5,.st [.sl false 2 (Qab y.phis),.sl false 4 (Qa6 y.ins),.int .i64 y.jump,.int .i64 y.on,.sl false 1 (Qd y.next)])]++ssL o ss):=kn.stL 0 rfl h4
     have kn:=kn.perm (List.Perm.append_left [(x7,Obj.st [.int .i64 p.to,.sl false 1 (Qd p.args)]),(x5,.st [.sl false 2 (Qab y.phis),.sl false 4 (Qa6 y.ins),.int .i64 y.jump,.int .i64 y.on,.sl false 1 (Qd y.next)])] (Qns hxl hsx))
     have kn:Kn H H4 [] ((([(o,.vec 1 (ss.map SReg.row))]++[(x7,.st [.int .i64 p.to,.sl false 1 (Qd p.args)]),(x5,.st [.sl false 2 (Qab y.phis),.sl false 4 (Qa6 y.ins),.int .i64 y.jump,.int .i64 y.on,.sl false 1 (Qd y.next)])])++(ss.eraseIdx x).flatMap SReg.lg)++s.lg):=kn.perm (Qp fun f hf h0 hc hp=>by
      simp only[hf];omega)
     have hob:H4 o=.vec 1 (ss.map SReg.row):=kn.l 0 rfl
     have hx7:H4 x7=.st [.int .i64 p.to,.sl false 1 (Qd p.args)]:=kn.l 1 rfl
     have hrl:(ss.map SReg.row).length=R:=by rw[List.length_map,hS.n]
     have hrt:(ss.map SReg.row).take R=ss.map SReg.row:=List.take_of_length_le (by omega)
     refine Qbb ?_
     simp only[go_sem,hob,hx7,hrl,hrt,hv,hvl,hsg,hsw,Nat.zero_add,Nat.le_refl]
     refine kn.growR (new:=Q99 [((b:Int),(-1:Int))]) hsok (.mk' _ _ _ _) (Q37 _) (by simp only[Q2r,LIM,List.length_cons,List.length_nil];omega) fun t2 Lg2 H5 hg2 ht2 kn=>?_
     have hob:H5 o=.vec 1 (ss.map SReg.row):=kn.l 0 rfl
     have hx7:H5 x7=.st [.int .i64 p.to,.sl false 1 (Qd p.args)]:=kn.l 1 rfl
     simp only[go_sem,Qj0,hob,hx7,hrl,hrt,hv,hvl,hsg,hsw,ht2,Nat.zero_add,Nat.le_refl]
     intro H6 h6
     obtain⟨s',hs'⟩:∃s':SReg,s'=⟨(Qa7 q b x++phS q b k x)++[((b:Int),(-1:Int))],t2,Lg2⟩:=⟨_,rfl⟩
     have hset:(ss.map SReg.row).set x [t2]=(ss.set x s').map SReg.row:=by rw[List.map_set,hs'];rfl
     rw[hset]at h6
     have kn:Kn H H6 [] ((([(o,.vec 1 ((ss.set x s').map SReg.row))]++[(x7,.st [.int .i64 p.to,.sl false 1 (Qd p.args)]),(x5,.st [.sl false 2 (Qab y.phis),.sl false 4 (Qa6 y.ins),.int .i64 y.jump,.int .i64 y.on,.sl false 1 (Qd y.next)])])++(ss.eraseIdx x).flatMap SReg.lg)++s'.lg):=by
      have e:s'.lg=Lg2:=by rw[hs']
      rw[e];exact kn.stL 0 rfl h6
     have kn:Kn H H6 [] ([(x7,.st [.int .i64 p.to,.sl false 1 (Qd p.args)]),(x5,.st [.sl false 2 (Qab y.phis),.sl false 4 (Qa6 y.ins),.int .i64 y.jump,.int .i64 y.on,.sl false 1 (Qd y.next)])]++ssL o (ss.set x s')):=kn.perm (Qp fun f hf h0 hc hp=>by
      have:=hp _ _ (Q2v (o:=o) (s:=s') hxl)
      simp only[hf]at this⊢;omega)
     have kn:Kn H H6 [] ([(x5,.st [.sl false 2 (Qab y.phis),.sl false 4 (Qa6 y.ins),.int .i64 y.jump,.int .i64 y.on,.sl false 1 (Qd y.next)])]++ssL o (ss.set x s')):=Kn.drop (B:=[(x7,.st [.int .i64 p.to,.sl false 1 (Qd p.args)])]) (kn.perm (Qp fun f hf h0 hc hp=>by
      show f ([(x7,_)]++([(x5,_)]++ssL o (ss.set x s')))=f (([(x5,_)]++ssL o (ss.set x s'))++[(x7,_)])
      simp only[hf];omega))
     refine Qr ?_
     simp only[go_sem]
     refine⟨Qo (by omega) (by omega),?_⟩
     show ∃m,_
     refine⟨y.phis.length-(k+1),by omega,k+1,N+1,ss.set x s',rfl,by omega,by omega,?_,kn,rfl,rfl,rfl,rfl,rfl,rfl,rfl,rfl,rfl⟩
     rw[hs']
     refine (hS.put hvl (p:=((b:Int),(-1:Int))) (t:=t2) (Lg:=Lg2) ?_ fun r=>?_)
     ·have:Q99 ((Qa7 q b x++phS q b k x)++[((b:Int),(-1:Int))])=Q99 s.ps++Q99 [((b:Int),(-1:Int))]:=by rw[hsF];simp[Q99]
      rw[this];exact hg2
     ·show Qa7 q b r++phS q b (k+1) r=_
      rw[hsucc]
      by_cases hrx:r=x
      ·subst hrx;rw[if_pos rfl,if_pos hv];simp
      ·rw[if_neg hrx,if_neg (by omega)];simp
    ·intro hc2
     have hke:k=y.phis.length:=by have:y.phis.length≤k:=(by simpa using hc2);omega
     subst hke
     have hx5:H2 x5=.st [.sl false 2 (Qab y.phis),.sl false 4 (Qa6 y.ins),.int .i64 y.jump,.int .i64 y.on,.sl false 1 (Qd y.next)]:=kn.l 0 rfl
     refine Qt ?_
     simp only[go_sem,X.next]
     refine Qa ?_
     simp only[go_sem,l3,l4,l5,l15,l16,l17,hx5,Qav]
     try intro _
     have kn:Kn H H2 [] (ssL o ss):=Kn.drop (B:=[(x5,.st [.sl false 2 (Qab y.phis),.sl false 4 (Qa6 y.ins),.int .i64 y.jump,.int .i64 y.on,.sl false 1 (Qd y.next)])]) (kn.perm List.perm_append_comm)
     clear hx5
     refine Qc (Qw (fun m e1 H1=>∃(j N:Nat) (ss:List SReg),m=y.ins.length-j∧j≤y.ins.length∧N≤b * 2400+y.phis.length+j∧SIn2 R N (fun r=>Qa7 q b r++phS q b y.phis.length r++inS q b j r) ss∧Kn H H1 [] (ssL o ss)∧
      lk 3 e1=.c (.vsl o 1 0 R)∧lk 4 e1=.c (.int .i64 b)∧lk 15 e1=.c (.sl false 5 (Qn q.blocks))∧lk 16 e1=.c (.int .i64 q.blocks.length)∧lk 17 e1=.c (.int .i64 b)∧
      lk 44 e1=.c (.sl false 4 (Qa6 y.ins))∧lk 45 e1=.c (.int .i64 y.ins.length)∧lk 46 e1=.c (.int .i64 j)) y.ins.length ?_ ?_)
     ·exact⟨0,N,ss,by omega,by omega,Nat.le_trans hNb (Nat.le_add_right _ _),hS.same fun r _=>by simp[inS],kn,rfl,rfl,rfl,rfl,rfl,rfl,rfl,rfl⟩
     ·clear kn hS l3 l4 l5 l15 l16 l17 l23 l24 l25
      rintro m3 e3 H3 ⟨j,N,ss,hm3,hj,hNb,hS,kn,l3,l4,l15,l16,l17,l44,l45,l46⟩
      refine Qa ?_
      simp only[go_sem,l3,l4,l15,l16,l17,l44,l45,l46]
      refine Qh (Qe rfl ?_ ?_)
      ·intro hc3
       have hlt3:j<y.ins.length:=by simpa using hc3
       obtain⟨w,hw⟩:∃w,y.ins[j]=w:=⟨_,rfl⟩
       have hwm:w∈y.ins:=by rw[←hw];exact List.getElem_mem hlt3
       have hma:Qsc q b j=Qec w:=by
        have:=Q30 (q:=q) (b:=b) (i:=j) (by rw[hya];exact hlt3)
        simp only[hya,hw]at this
        exact this
       refine Qi ?_
       try simp only[go_sem]
       refine Qdc (fun e2 H2=>∃(N:Nat) (ss:List SReg),N≤b * 2400+y.phis.length+(j+1)∧SIn2 R N (fun r=>Qa7 q b r++phS q b y.phis.length r++inS q b (j+1) r) ss∧Kn H H2 [] (ssL o ss)∧
        lk 3 e2=.c (.vsl o 1 0 R)∧lk 4 e2=.c (.int .i64 b)∧lk 15 e2=.c (.sl false 5 (Qn q.blocks))∧lk 16 e2=.c (.int .i64 q.blocks.length)∧lk 17 e2=.c (.int .i64 b)∧
        lk 44 e2=.c (.sl false 4 (Qa6 y.ins))∧lk 45 e2=.c (.int .i64 y.ins.length)∧lk 46 e2=.c (.int .i64 j)) ?_ ?_
       ·intro Q hnr _ _
        refine Qc ?_
        refine Qa ?_
        simp only[go_sem,l3,l4,l15,l16,l17,l44,l45,l46,hlt3,Qav,Qcl _ _ hlt3,InsD.cells,hw]
        intro x9 hx9 H4 h4
        have kn:=kn.al hx9 h4
        have hx9:H4 x9=.st [.int .i64 0,.int .i64 0,.sl true 1 [],.int .i64 0]:=(kn.get (x9,.st [.int .i64 0,.int .i64 0,.sl true 1 [],.int .i64 0]) (by simp)).1
        simp only[go_sem,Qj1,hx9]
        intro H5 h5
        have kn:Kn H H4 [] ([(x9,.st [.int .i64 0,.int .i64 0,.sl true 1 [],.int .i64 0])]++ssL o ss):=kn.perm (by simp)
        have kn:Kn H H5 [] ([(x9,.st [.int .i64 w.op,.int .i64 w.to,.sl false 1 (Qd w.args),.int .i64 w.n])]++ssL o ss):=kn.stL 0 rfl h5
        have hx9:=kn.l 0 rfl
        refine Qa ?_
        simp only[go_sem,hx9]
        refine Qadu (x:=w) ?_
        have kn:Kn H H5 [] (ssL o ss):=Kn.drop (B:=[(x9,_)]) (kn.perm List.perm_append_comm)
        clear hx9
        simp only[go_sem,Qj2]
        refine Qa ?_
        simp only[go_sem]
        refine Qe rfl ?_ ?_
        ·intro hc4
         have hge:0≤Qec w:=by simpa using hc4
         have hmk:Qdj w.op=true∧Qec w=w.to:=by
          rcases Q31 w with h|⟨_,h⟩
          ·exact h
          ·omega
         obtain⟨x,hv,hvl⟩:=(hyo.to w hwm hmk.1).nt
         rw[hR]at hvl
         rw[←hmk.2]at hv
         clear hmk
         obtain⟨s,hsm,hxl,hsx,hsF,hsok,hsl,hsg⟩:=hS.get hvl
         have hsw:=hsok.isOw
         have kn:=kn.perm (Qns hxl hsx)
         have hob:H5 o=.vec 1 (ss.map SReg.row):=(kn.get (o,.vec 1 (ss.map SReg.row)) (by simp)).1
         have hrl:(ss.map SReg.row).length=R:=by rw[List.length_map,hS.n]
         have hrt:(ss.map SReg.row).take R=ss.map SReg.row:=List.take_of_length_le (by omega)
         refine Qr ?_
         simp only[go_sem,hob,hrl,hrt,hv,hvl,hsg,hsw,Nat.zero_add,Nat.le_refl]
         refine kn.growR (new:=Q99 [((b:Int),(j:Int))]) hsok (.mk' _ _ _ _) (Q37 _) (by simp only[Q2r,LIM,List.length_cons,List.length_nil];omega) fun t2 Lg2 H6 hg2 ht2 kn=>?_
         have hob:H6 o=.vec 1 (ss.map SReg.row):=(kn.get (o,.vec 1 (ss.map SReg.row)) (by simp)).1
         simp only[go_sem,Qh7,hob,hrl,hrt,hv,hvl,hsg,hsw,ht2,Nat.zero_add,Nat.le_refl]
         intro H7 h7
         obtain⟨s',hs'⟩:∃s':SReg,s'=⟨(Qa7 q b x++phS q b y.phis.length x++inS q b j x)++[((b:Int),(j:Int))],t2,Lg2⟩:=⟨_,rfl⟩
         have hset:(ss.map SReg.row).set x [t2]=(ss.set x s').map SReg.row:=by rw[List.map_set,hs'];rfl
         rw[hset]at h7
         have kn:Kn H H7 [] (([(o,.vec 1 ((ss.set x s').map SReg.row))]++(ss.eraseIdx x).flatMap SReg.lg)++s'.lg):=by
          have e:s'.lg=Lg2:=by rw[hs']
          rw[e];exact kn.stL 0 rfl h7
         have kn:=kn.perm (Q2v hxl)
         refine hnr _ _ ⟨N+1,ss.set x s',by omega,?_,kn,rfl,rfl,rfl,rfl,rfl,rfl,rfl,rfl⟩
         rw[hs']
         refine (hS.put hvl (p:=((b:Int),(j:Int))) (t:=t2) (Lg:=Lg2) ?_ fun r=>?_)
         ·have:Q99 ((Qa7 q b x++phS q b y.phis.length x++inS q b j x)++[((b:Int),(j:Int))])=Q99 s.ps++Q99 [((b:Int),(j:Int))]:=by rw[hsF];simp[Q99]
          rw[this];exact hg2
         ·show Qa7 q b r++phS q b y.phis.length r++inS q b (j+1) r=_
          rw[Q2o,hma]
          by_cases hrx:r=x
          ·subst hrx;rw[if_pos rfl,if_pos hv];simp
          ·rw[if_neg hrx,if_neg (by omega)];simp
        ·intro hc4
         have hneg:¬0≤Qec w:=by simpa using hc4
         refine Qi ?_
         try simp only[go_sem]
         refine hnr _ _ ⟨N,ss,by omega,hS.same fun r _=>?_,kn,rfl,rfl,rfl,rfl,rfl,rfl,rfl,rfl⟩
         rw[Q2o,hma,if_neg (by omega)];simp
       ·rintro e4 H4 ⟨N,ss,hNb,hS,kn,l3,l4,l15,l16,l17,l44,l45,l46⟩
        refine Qr ?_
        simp only[go_sem,l3,l4,l15,l16,l17,l44,l45,l46]
        refine⟨Qo (by omega) (by omega),?_⟩
        show ∃m,_
        exact⟨y.ins.length-(j+1),by omega,j+1,N,ss,rfl,by omega,hNb,hS,kn,rfl,rfl,rfl,rfl,rfl,rfl,rfl,rfl⟩
      ·intro hc3
       have hje:j=y.ins.length:=by have:y.ins.length≤j:=(by simpa using hc3);omega
       subst hje
       refine Qt ?_
       simp only[go_sem,X.next]
       refine Qr ?_
       simp only[go_sem,l3,l15,l16,l17]
       refine⟨Qo (by omega) (by omega),?_⟩
       show ∃m,_
       refine⟨q.blocks.length-(b+1),by omega,b+1,N,ss,rfl,by omega,by omega,hS.same fun r _=>?_,kn,rfl,rfl,rfl,rfl⟩
       rw[Qfv,blS,hya];simp
  ·intro hc
   have hbe:b=q.blocks.length:=by have:q.blocks.length≤b:=(by simpa using hc);omega
   subst hbe
   refine Qt ?_
   simp only[go_sem,X.next]
   refine Qa ?_
   simp only[go_sem,l3]
   refine Qj ?_
   simp only[go_sem,Q5,Qae,Qsi,List.mem_singleton,forall_eq,RS.op]
   have hob:=kn.l 0 rfl
   have hmem:∀p∈ssL o ss,H1 p.1=p.2∧un H p.1=true:=fun p hp=>⟨(kn.get p (List.mem_append_right _ hp)).1,Qdl (kn.loc p hp)⟩
   have hrows:FrzR H1 (un H) (ss.map SReg.row) (Qark q):=by
    have e:Qark q=ss.map fun s=>[C.sl false 2 (Q99 s.ps)]:=by
     rw[Qark,hR]
     refine List.ext_getElem (by simp[hS.n]) fun i h1 h2=>?_
     have h3:i<ss.length:=by simpa using h2
     simp only[List.getElem_map,List.getElem_range,hS.f i h3];rfl
    rw[e]
    exact Qf8 ss fun s hs=>.cons (Gr.frzM (hS.ok s hs) (fun p hp=>hmem p (List.mem_append_right _ (List.mem_flatMap.2 ⟨s,hs,hp⟩))) (FrzR.same (Q37 _))) .nil
   exact⟨_,.c _ _ (hrows.vsl (kn.un 0 rfl) hob (by rw[List.length_map,hS.n])),hK _ kn.fin⟩
end Go.AE.Y

namespace Go.AE.Y
attribute [local go_sem] cond_true cond_false Bool.not_true Bool.not_false
attribute [local instance] Classical.propDecidable
open Go.Proofs.Tryz
variable {H H0:Heap}{K:V→Heap→Prop}{E B Lg:List (Nat×Obj)}{q:CodeD}
noncomputable def Qqm (cs:List CodeD)(k r:Int):List Plc:=if regB cs k r=true then match cs[k.toNat]? with
 |some q=>Qwn q r.toNat
 |none=>[]else []
theorem Qvm {cs:List CodeD}{k r:Int}(h:regB cs k r=false):Qqm cs k r=[]:=by rw[Qqm,h];simp
theorem Qvl {cs:List CodeD}{m r:Nat}(h:regB cs (m:Int) (r:Int)=true)(hm:m<cs.length):Qqm cs (m:Int) (r:Int)=Qwn cs[m] r:=by
 rw[Qqm,if_pos h];simp[hm]
theorem Qbf9 {p:Plc}(hK:K (.c (.sl true 1 [[.int .i64 p.1],[.int .i64 p.2]])) H):Qu prog Qby [.ag (pR2 p)] H K:=by
 refine Qb Qat Qz1 ?_
 refine Qa ?_
 simp only[go_sem,pR2]
 refine Qa ?_
 simp only[go_sem]
 refine Qj ?_
 simp only[go_sem,Q5,Qae,Qjp,List.mem_singleton,forall_eq,RS.op]
 exact hK
set_option maxHeartbeats 4000000 in
theorem Qbaz {ps:List Plc}{f:Bool}(hl:ps.length≤1000000)(hK:∀(H':Heap),Upd H H' []→K (.c (.sl false 1 (Qb6 ps))) H') :
  Qu prog Qb2 [.c (.sl f 2 (Q99 ps)),.c (.fn Qby [])] H K:=by
 refine Qz ?_
 refine Qb Qat Qlf ?_
 have kn:=Kn.start0 H
 refine Qa ?_
 simp only[go_sem]
 refine Qa ?_
 simp only[go_sem]
 refine Q4 ?_
 refine Qa ?_
 simp only[go_sem,Q2r]
 try intro _
 refine Qh (Qc (Qw (fun m e1 H1=>∃(i:Nat) (t:C) (Lg:List (Nat×Obj)),m=ps.length-i∧i≤ps.length∧Gr Lg 1 (Qb6 (ps.take i)) t∧Kn H H1 [] ([]++Lg)∧
  lk 1 e1=.c (.fn Qby [])∧lk 5 e1=.c t∧lk 8 e1=.c (.sl f 2 (Q99 ps))∧lk 9 e1=.c (.int .i64 ps.length)∧lk 10 e1=.c (.int .i64 i)) ps.length ?_ ?_))
 ·exact⟨0,_,[],by omega,by omega,.nil 1,kn,rfl,rfl,rfl,rfl,rfl⟩
 ·clear kn
  rintro m e1 H1 ⟨i,t,Lg,hm,hi,hgr,kn,l1,l5,l8,l9,l10⟩
  have htw:=hgr.isOw
  refine Qa ?_
  simp only[go_sem,l1,l5,l8,l9,l10,htw]
  refine Qh (Qe rfl ?_ ?_)
  ·intro hc
   have hlt:i<ps.length:=by simpa using hc
   obtain⟨p,hp⟩:∃p,ps[i]=p:=⟨_,rfl⟩
   refine Qi ?_
   try simp only[go_sem]
   refine Qh (Qc ?_)
   refine Qa ?_
   simp only[go_sem,l1,l5,l8,l9,l10,htw,hlt,Q2r,Qa6p _ _ hlt,hp,pR2]
   intro x7 hx7 H2 h2
   have kn:=kn.al hx7 h2
   have hx7:H2 x7=.st [.int .i64 0,.int .i64 0]:=(kn.get (x7,.st [.int .i64 0,.int .i64 0]) (by simp)).1
   simp only[go_sem,Qcy,hx7,htw]
   intro H3 h3
   have kn:Kn H H2 [] ([(x7,.st [.int .i64 0,.int .i64 0])]++Lg):=kn.perm (by simp)
   have kn:Kn H H3 [] ([(x7,.st (pR2 p))]++Lg):=kn.stL 0 rfl h3
   have hx7:H3 x7=.st [.int .i64 p.1,.int .i64 p.2]:=kn.l 0 rfl
   refine Qr ?_
   simp only[go_sem,hx7,htw]
   refine Qbf9 (p:=p) ?_
   simp only[go_sem,Qc0,htw]
   refine kn.growR (new:=Qb6 [p]) hgr (.mk' _ _ _ _) (Qdu _) (by simp only[Qb7,List.length_take,LIM,List.length_cons,List.length_nil];omega) fun t2 Lg2 H4 hgr2 ht2 kn=>?_
   have kn:Kn H H4 [] Lg2:=Kn.drop (B:=[(x7,_)]) (kn.perm List.perm_append_comm)
   simp only[go_sem,Qcz,ht2]
   refine Qr ?_
   simp only[go_sem,ht2]
   refine⟨Qo (by omega) (by omega),?_⟩
   show ∃m,_
   refine⟨ps.length-(i+1),by omega,i+1,t2,Lg2,rfl,by omega,?_,kn,rfl,rfl,rfl,rfl,rfl⟩
   have:Qb6 (ps.take (i+1))=Qb6 (ps.take i)++Qb6 [p]:=by rw[List.take_succ_eq_append_getElem hlt,hp];simp[Qb6]
   rw[this];exact hgr2
  ·intro hc
   have hge:ps.length≤i:=by simpa using hc
   rw[List.take_of_length_le hge]at hgr
   refine Qt ?_
   simp only[go_sem,X.next]
   refine Qa ?_
   simp only[go_sem,l5,htw]
   refine Qj ?_
   simp only[go_sem,Q5,Qae,Qdm,List.mem_singleton,forall_eq,RS.op,htw]
   exact⟨_,.c _ _ (hgr.frz kn (Qdu _)),hK _ kn.fin⟩
theorem Qbeq {b k r:Nat}:(phS q b k r).length≤k:=by
 rw[phS,List.length_map]
 exact Nat.le_trans (List.length_filter_le _ _) (by rw[List.length_take];omega)
theorem Qbdt {b j r:Nat}:(inS q b j r).length≤j:=by
 rw[inS,List.length_map]
 exact Nat.le_trans (List.length_filter_le _ _) (by rw[List.length_range];omega)
theorem Qaet (ho:q.ok)(r:Nat):∀n,n≤q.blocks.length→(Qa7 q n r).length≤n * 2400
 |0,_=>by simp[Qa7]
 |n+1,h=>by
  have h1:=Qaet ho r n (by omega)
  have h2:=Qbeq (q:=q) (b:=n) (k:=(Qbx q n).phis.length) (r:=r)
  have h3:=Qbdt (q:=q) (b:=n) (j:=(Qbx q n).ins.length) (r:=r)
  have h4:=ho.il n (by omega)
  rw[Qb1 (by omega)]at h2 h3
  rw[Qfv,blS,Qb1 (by omega),List.length_append,List.length_append];omega
theorem Qarl (ho:q.ok)(r:Nat):(Qwn q r).length≤1000000:=by
 have:=Qaet ho r q.blocks.length (Nat.le_refl _)
 have:=ho.b1
 rw[Qwn];omega
theorem Qa8o:(Qark q).length=q.regs.toNat:=by simp[Qark]
theorem Qa33 {r:Nat}(h:r<q.regs.toNat):(Qark q).getD r []=[.sl false 2 (Q99 (Qwn q r))]:=by simp[Qark,List.getD_eq_getElem?_getD,h]
set_option maxHeartbeats 4000000 in
theorem Qakb {cs:List CodeD}{fl:Bool}{k r:Int}(hfit:∀c∈cs,c.fits)(hK:∀(H':Heap),Upd H H' []→K (.c (.sl false 1 (Qb6 (Qqm cs k r)))) H') :
  Qu prog Qgp [.ag [.sl fl 3 (Qq cs)],.c (.int .i64 k),.c (.int .i64 r)] H K:=by
 refine Qz ?_
 refine Qb Qat Qafn ?_
 refine Qa ?_
 simp only[go_sem]
 refine Q4 ?_
 refine Qa ?_
 simp only[go_sem]
 refine Qbet hfit fun H1 hu=>?_
 have kn:=(Kn.start0 H).call0 hu
 simp only[go_sem,Qjs]
 refine Qh (Qe rfl ?_ ?_)
 ·intro hc
  have hg:regB cs k r=false:=Qql hc
  refine Qa ?_
  simp only[go_sem]
  refine Qj ?_
  simp only[go_sem,X.next,Q5,Qae,Qi5,List.mem_singleton,forall_eq,RS.op]
  have:=hK _ kn.fin
  rw[Qvm hg]at this
  exact⟨_,.c _ _ FrzR.nil.sl,this⟩
 ·intro hc
  have hg:regB cs k r=true:=Qed hc
  obtain⟨m,r',hm,rfl,rfl,ho,hr⟩:=Qagd hg
  have e:=Qvl hg hm
  obtain⟨q,hq⟩:∃q,cs[m]=q:=⟨_,rfl⟩
  rw[hq]at ho e hr
  refine Qi ?_
  try simp only[go_sem]
  refine Qa ?_
  simp only[go_sem,hm,Q3,Qaf _ _ hm,CodeD.cells,hq]
  refine Qa1q ho fun H2 hu=>?_
  have kn:=kn.call0 hu
  simp only[go_sem,Qju,hr,Qa8o,Qa33 hr]
  refine Qbaz (Qarl ho _) fun H3 hu=>?_
  have kn:=kn.call0 hu
  simp only[go_sem,Qjt]
  refine Qj ?_
  simp only[go_sem,Q5,Qae,Qi5,List.mem_singleton,forall_eq,RS.op]
  have:=hK _ kn.fin
  rw[e]at this
  exact⟨_,.c _ _ (Qg rfl),this⟩
set_option maxHeartbeats 4000000 in
theorem Qarm {cs:List CodeD}{fl:Bool}{k r:Int}(hfit:∀c∈cs,c.fits)(hK:∀(H':Heap),Upd H H' []→K (.c (.sl false 1 (Qb6 (Qqm cs k r)))) H') :
  Qu prog Qgw [.ag [.sl fl 3 (Qq cs)],.c (.int .i64 k),.c (.int .i64 r)] H K:=by
 refine Qz ?_
 refine Qb Qat Qaf1 ?_
 refine Qa ?_
 simp only[go_sem]
 refine Q4 ?_
 refine Qa ?_
 simp only[go_sem]
 refine Qa92 hfit fun H1 hu=>?_
 have kn:=(Kn.start0 H).call0 hu
 simp only[go_sem,Qlb]
 refine Qh (Qe rfl ?_ ?_)
 ·intro hc
  have hg:regB cs k r=false:=Qql hc
  refine Qa ?_
  simp only[go_sem]
  refine Qj ?_
  simp only[go_sem,X.next,Q5,Qae,Qi9,List.mem_singleton,forall_eq,RS.op]
  have:=hK _ kn.fin
  rw[Qvm hg]at this
  exact⟨_,.c _ _ FrzR.nil.sl,this⟩
 ·intro hc
  have hg:regB cs k r=true:=Qed hc
  obtain⟨m,r',hm,rfl,rfl,ho,hr⟩:=Qagd hg
  have e:=Qvl hg hm
  obtain⟨q,hq⟩:∃q,cs[m]=q:=⟨_,rfl⟩
  rw[hq]at ho e hr
  refine Qi ?_
  try simp only[go_sem]
  refine Qa ?_
  simp only[go_sem]
  refine Qa ?_
  simp only[go_sem,hm,Q3,Qaf _ _ hm,CodeD.cells,hq]
  refine Qakh ho fun H2 hu=>?_
  have kn:=kn.call0 hu
  simp only[go_sem,Qld,hr,Qwo,Q92 hr]
  have hl:=Qarl ho r'
  refine⟨.inl trivial,Qdu _,by simp only[Qb7,LIM];omega,fun y hy H4 h4=>?_⟩
  have kn:=kn.al hy h4
  have hy:=kn.l 0 rfl
  simp only[go_sem,Qlc,Nat.zero_add]
  refine Qj ?_
  simp only[go_sem,Q5,Qae,Qi9,List.mem_singleton,forall_eq,RS.op]
  have:=hK _ kn.fin
  rw[e]at this
  exact⟨_,.c _ _ ((FrzR.same (Qdu _)).vsl (kn.un 0 rfl) hy rfl),this⟩
end Go.AE.Y

namespace Go.AE.Y
attribute [local go_sem] cond_true cond_false Bool.not_true Bool.not_false
attribute [local instance] Classical.propDecidable
open Go.Proofs.Tryz
variable {H H0:Heap}{K:V→Heap→Prop}{E B Lg:List (Nat×Obj)}{q:CodeD}
section
variable {P:Program}{e:Env}{its r:List Item}{KK:Env→Heap→Prop}{d:Option Nat}{t:Nat}{w:Bool}{op:FOp}
theorem off0 {b:Bool}(h0:lk t e=.c (.bool b))(h1:(b == w)=false)(h:∀v,Qce P r (Qrw d (.gd false v) e) H KK):Qce P (.f d (some (t,w)) op::r) e H KK:=by
 have hb:gdB e (some (t,w))=false:=by
  simp only[gdB,h0,h1]
 refine⟨by simp only[gdO,h0],fun h=>absurd h (by simp[hb]),?_⟩
 simp only[hb,gdV];exact h _
theorem offE {b:Bool}{op:EOp}(h0:lk t e=.c (.bool b))(h1:(b == w)=false)(h:Qce P r (Qrw d .unk e) H KK):Qce P (.e d (some (t,w)) op::r) e H KK:=by
 have hb:gdB e (some (t,w))=false:=by
  simp only[gdB,h0,h1]
 exact⟨by simp only[gdO,h0],fun h=>absurd h (by simp[hb]),fun _=>h⟩
theorem Qa0p {d t1 t2:Nat}{bb:Bool}(h1:lk t1 e=.c (.bool false))(h:Qce P r ((d,.c (.bool bb))::e) H KK) :
  Qce P (.f (some d) none (.pick (.t t1) (.t t2) (.k (.c (.bool bb))))::r) e H KK:=by
 refine⟨trivial,fun _=>?_,?_⟩
 ·simp only[FOp.obl,Opd.fine,Opd.v,Opd.raw,h1,gdB,V.bare,V.fine,Bool.and_false]
  refine⟨trivial,?_,trivial⟩
  cases lk t2 e <;> first|trivial|exact fun h=>by cases h
 ·simp only[FOp.val,Opd.v,Opd.raw,h1,gdB,V.bare,gdV,Qaz1,Qrw]
  exact h
end
def Qba8 (p r:Plc):Prop:=p.1<r.1∨(p.1=r.1∧p.2≤r.2)
theorem Qaeu {n r:Nat}{p:Plc}(h:p∈Qa7 q n r):∃b:Nat,b<n∧p.1=(b:Int)∧(p.2=-1∨∃j:Nat,p.2=(j:Int)∧j<(Qbx q b).ins.length∧Qsc q b j=(r:Int)):=by
 simp only[Qa7,List.mem_flatMap,List.mem_range,blS,List.mem_append]at h
 obtain⟨b,hb,h⟩:=h
 refine⟨b,hb,?_⟩
 rcases h with h|h
 ·simp only[phS,List.mem_map]at h
  obtain⟨_,_,rfl⟩:=h
  exact⟨rfl,.inl rfl⟩
 ·simp only[inS,List.mem_map,List.mem_filter,List.mem_range,decide_eq_true_eq]at h
  obtain⟨j,⟨h1,h2⟩,rfl⟩:=h
  exact⟨rfl,.inr ⟨j,rfl,h1,h2⟩⟩
theorem Qbc6 {b r:Nat}:(blS q b r).Pairwise Qba8:=by
 rw[blS,phS,inS]
 refine List.pairwise_append.2 ⟨?_,?_,fun p hp s hs=>?_⟩
 ·rw[List.pairwise_map];exact List.pairwise_of_forall fun _ _=>.inr ⟨rfl,Int.le_refl _⟩
 ·rw[List.pairwise_map]
  exact (List.Pairwise.filter _ List.pairwise_lt_range).imp fun {x y} h=>.inr ⟨rfl,by show (x:Int)≤(y:Int);omega⟩
 ·obtain⟨_,_,rfl⟩:=List.mem_map.1 hp
  obtain⟨j,_,rfl⟩:=List.mem_map.1 hs
  exact .inr ⟨rfl,by show (-1:Int)≤(j:Int);omega⟩
theorem Qaes {r:Nat}:∀n,(Qa7 q n r).Pairwise Qba8
 |0=>by simp[Qa7]
 |n+1=>by
  rw[Qfv]
  refine List.pairwise_append.2 ⟨Qaes n,Qbc6,fun p hp s hs=>?_⟩
  obtain⟨b,hb,h1,_⟩:=Qaeu hp
  have hs':s∈Qa7 q (n+1) r:=by rw[Qfv];exact List.mem_append_right _ hs
  have h2:s.1=(n:Int):=by
   simp only[blS,List.mem_append,phS,inS,List.mem_map]at hs
   rcases hs with ⟨_,_,rfl⟩|⟨_,_,rfl⟩ <;> rfl
  exact .inl (by omega)
set_option maxHeartbeats 8000000 in
theorem FnPlaces_c {bs:List UInt8}(hK:∀H',K (.c (.bool true)) H'):Qu prog Qov [.c (.sl false 1 (Qbq bs))] H K:=by
 refine Qb Qat Qafy ?_
 have retT':∀(e:Env) (H':Heap),lk 2 e=.c (.bool true)→Q5 Qi8 K .ret e H':=by
  intro e H' h2
  simp only[go_sem,Q5,Qae,Qi8,List.mem_singleton,forall_eq,RS.op,h2]
  exact hK H'
 refine Qa ?_
 simp only[go_sem]
 refine Q4 ?_
 refine Qa ?_
 simp only[go_sem,Qau]
 intro _
 refine Qh (Qe rfl (fun hc=>?_) (fun hc=>?_))
 ·refine Qa ?_
  simp only[go_sem]
  refine Qj ?_
  exact retT' _ _ rfl
 refine Qi ?_
 try simp only[go_sem]
 refine Qa ?_
 simp only[go_sem]
 refine Qaaa fun cs k r0 H1 hu hok hn1 hn2=>?_
 have hfit:=hok.fits
 have kn:=(Kn.start0 H).call0 hu
 simp only[go_sem,Qk6,List.getD_cons_zero,List.getD_cons_succ]
 intro x3 hx3 H2 h2
 have kn:=kn.al hx3 h2
 have hx3:=kn.l 0 rfl
 simp only[go_sem,Qk5,hx3]
 intro H3 h3
 have kn:Kn H H3 [] [(x3,.st [.sl false 3 (Qq cs)])]:=kn.stL 0 rfl h3
 have hx3:=kn.l 0 rfl
 simp only[go_sem,Qk4]
 refine Qa ?_
 simp only[go_sem,hx3]
 refine Qakb hfit fun H4 hu=>?_
 have kn:=kn.call0 hu
 have hx3:=kn.l 0 rfl
 simp only[go_sem,Qk7]
 refine Qa ?_
 simp only[go_sem,hx3]
 refine Qarm hfit fun H5 hu=>?_
 have kn:=kn.call0 hu
 obtain⟨L,hL⟩:∃L,Qqm cs k r0=L:=⟨_,rfl⟩
 rw[hL]
 simp only[go_sem,Qk8]
 refine Q4 ?_
 refine Qa ?_
 simp only[go_sem,Qb7,decide_true]
 intro hlim
 simp only[LIM]at hlim
 try intro _
 refine Qh (Qe rfl ?_ ?_)
 ·intro h;simp at h
 intro _
 refine Qi ?_
 try simp only[go_sem]
 refine Q4 ?_
 refine Qa ?_
 simp only[go_sem,Qb7]
 try intro _
 refine Qh (Qc (Qw (fun mm e1 H1=>∃(i:Nat),mm=L.length-i∧i≤L.length∧Kn H H1 [] [(x3,.st [.sl false 3 (Qq cs)])]∧
  lk 3 e1=.c (.ptr x3 0)∧lk 4 e1=.c (.int .i64 k)∧lk 5 e1=.c (.int .i64 r0)∧lk 6 e1=.c (.sl false 1 (Qb6 L))∧lk 7 e1=.c (.sl false 1 (Qb6 L))∧lk 33 e1=.c (.sl false 1 (Qb6 L))∧lk 34 e1=.c (.int .i64 L.length)∧lk 35 e1=.c (.int .i64 i)) L.length ?_ ?_))
 ·exact⟨0,by omega,by omega,kn,rfl,rfl,rfl,rfl,rfl,rfl,rfl,rfl⟩
 ·clear kn hx3
  rintro mm e1 H6 ⟨i,hmm,hi,kn,l3,l4,l5,l6,l7,l33,l34,l35⟩
  have hx3:=kn.l 0 rfl
  refine Qa ?_
  simp only[go_sem,l3,l4,l5,l6,l7,l33,l34,l35]
  refine Qh (Qe rfl ?_ ?_)
  ·intro hc1
   have hlt:i<L.length:=by simpa using hc1
   have hg:regB cs k r0=true:=by
    cases h:regB cs k r0 with
    |true=>rfl
    |false=>
     rw[Qvm h]at hL
     subst hL
     simp at hlt
   obtain⟨m,r,hm,rfl,rfl,ho,hr⟩:=Qagd hg
   obtain⟨q,hq⟩:∃q,cs[m]=q:=⟨_,rfl⟩
   rw[Qvl hg hm,hq]at hL
   rw[hq]at ho hr
   have hasc:L.Pairwise Qba8:=by rw[←hL];exact Qaes _
   have hmem:∀(j:Nat) (h:j<L.length),∃b:Nat,b<q.blocks.length∧L[j].1=(b:Int)∧(L[j].2=-1∨∃t:Nat,L[j].2=(t:Int)∧t<(Qbx q b).ins.length∧Qsc q b t=(r:Int)):=fun j h=>by
    have h1:L[j]∈L:=List.getElem_mem h
    have h2:∀p∈L,p∈Qa7 q q.blocks.length r:=by rw[←hL];exact fun p h=>h
    exact Qaeu (h2 _ h1)
   obtain⟨b,hb,hp1,hp2⟩:=hmem i hlt
   obtain⟨z,hz⟩:∃z,L[i].2=z:=⟨_,rfl⟩
   rw[hz]at hp2
   have hp:L[i]=((b:Int),z):=by rw[←hz,←hp1]
   obtain⟨y,hy⟩:∃y,q.blocks[b]=y:=⟨_,rfl⟩
   rw[Qb1 hb,hy]at hp2
   have hil:=ho.il b hb
   rw[hy]at hil
   have tn0:Int.toNat 0=0:=rfl
   have tn1:Int.toNat 1=1:=rfl
   have h01:((0:Int)≤1)=True:=by simp
   have l01:(0<0+1+1)=True:=by simp
   have l11:(1<0+1+1)=True:=by simp
   refine Qi ?_
   try simp only[go_sem]
   refine Qdc (fun e2 H2=>Kn H H2 [] [(x3,.st [.sl false 3 (Qq cs)])]∧lk 3 e2=.c (.ptr x3 0)∧lk 4 e2=.c (.int .i64 (m:Int))∧lk 5 e2=.c (.int .i64 (r:Int))∧lk 6 e2=.c (.sl false 1 (Qb6 L))∧lk 7 e2=.c (.sl false 1 (Qb6 L))∧lk 33 e2=.c (.sl false 1 (Qb6 L))∧lk 34 e2=.c (.int .i64 L.length)∧lk 35 e2=.c (.int .i64 i)) ?_ ?_
   ·intro Q hnr _ _
    refine Qc ?_
    refine Qa ?_
    simp only[go_sem,l3,l4,l5,l6,l7,l33,l34,l35,hlt,Qb7,Qhj _ _ hlt,hp,pRow]
    refine Qdc (fun e2 H2=>H2=H6∧lk 3 e2=.c (.ptr x3 0)∧lk 4 e2=.c (.int .i64 (m:Int))∧lk 5 e2=.c (.int .i64 (r:Int))∧lk 6 e2=.c (.sl false 1 (Qb6 L))∧lk 7 e2=.c (.sl false 1 (Qb6 L))∧lk 9 e2=.c (.sl true 1 [[.int .i64 (b:Int)],[.int .i64 z]])∧lk 33 e2=.c (.sl false 1 (Qb6 L))∧lk 34 e2=.c (.int .i64 L.length)∧lk 35 e2=.c (.int .i64 i)) ?_ ?_
    ·intro Q2 hnr2 _ _
     refine Qak ?_
     simp only[go_sem,hlt,Qb7,Qhj _ _ hlt,hp,pRow]
     refine Qbch (ns:=[(b:Int),z]) (ms:=[(b:Int),z]) (.mk' _ _ _ _) rfl (.mk' _ _ _ _) rfl ?_
     simp only[eq_self,decide_true]
     cases i with
     |zero=>
      have d0:decide ((0:Int)<((0:Nat):Int))=false:=by decide
      refine Q27 5 rfl fun B hB=>?_
      simp only[Qbo,List.take_succ_cons,List.take_zero]
      simp only[go_sem,d0]
      simp only[hB,Qbo,List.drop_succ_cons,List.drop_zero]
      iterate 12 refine off2 rfl rfl fun v=>?_
      iterate 12 refine off1 rfl fun v=>?_
      iterate 11 refine off1 rfl fun v=>?_
      refine off1 rfl fun v=>?_
      refine off2 rfl rfl fun v=>?_
      refine Qaj5 trivial rfl rfl ?_
      simp only[go_sem]
      refine Qe rfl ?_ ?_
      ·intro h;simp at h
      intro _
      refine Qi ?_
      try simp only[go_sem]
      exact hnr2 _ _ ⟨rfl,rfl,rfl,rfl,rfl,rfl,rfl,rfl,rfl,rfl⟩
     |succ i=>
      have hli:i<L.length:=by omega
      obtain⟨b',hb',hq1,hq2⟩:=hmem i hli
      obtain⟨z',hz'⟩:∃z,L[i].2=z:=⟨_,rfl⟩
      have hp':L[i]=((b':Int),z'):=by rw[←hz',←hq1]
      have hpw:Qba8 L[i] L[i+1]:=List.pairwise_iff_getElem.1 hasc i (i+1) hli hlt (by omega)
      rw[hp,hp']at hpw
      have d0:decide ((0:Int)<((i+1:Nat):Int))=true:=decide_eq_true (by omega)
      have hsub:((i+1:Nat):Int)-1=(i:Int):=by omega
      have hge0:(0≤(i:Int))=True:=by simp
      have hgt:decide ((b:Int)<(b':Int))=false:=decide_eq_false (by rcases hpw with h|⟨h,_⟩ <;> simp only at h <;> omega)
      have hir:inR .i64 (i:Int):=Qo (by omega) (by omega)
      by_cases hbb:b'=b
      ·subst hbb
       have htt:decide (z<z')=false:=decide_eq_false (by rcases hpw with h|⟨_,h⟩ <;> simp only at h <;> omega)
       simp only[go_sem,Qbo,d0,hsub,hge0,hgt,htt,hli,Qb7,Qhj _ _ hli,hp',pRow,tn0,tn1,h01,l01,l11,Int.le_refl,List.getD_cons_zero,List.getD_cons_succ,Int.toNat_natCast,decide_true]
       refine⟨hir,hir,hir,?_⟩
       refine Qe rfl ?_ ?_
       ·intro h;simp at h
       intro _
       refine Qi ?_
       try simp only[go_sem]
       exact hnr2 _ _ ⟨rfl,rfl,rfl,rfl,rfl,rfl,rfl,rfl,rfl,rfl⟩
      ·have hne:decide ((b':Int)=(b:Int))=false:=decide_eq_false (by omega)
       refine Q27 29 rfl fun B hB=>?_
       simp only[Qbo,List.take_succ_cons,List.take_zero]
       simp only[go_sem,d0,hsub,hge0,hgt,hne,hli,Qb7,Qhj _ _ hli,hp',pRow,tn0,tn1,h01,l01,l11,Int.le_refl,List.getD_cons_zero,List.getD_cons_succ,Int.toNat_natCast,decide_true]
       refine⟨hir,hir,?_⟩
       simp only[hB,Qbo,List.drop_succ_cons,List.drop_zero]
       iterate 11 refine off2 rfl rfl fun v=>?_
       refine Qaj5 trivial rfl rfl ?_
       simp only[go_sem]
       refine Qe rfl ?_ ?_
       ·intro h;simp at h
       intro _
       refine Qi ?_
       try simp only[go_sem]
       exact hnr2 _ _ ⟨rfl,rfl,rfl,rfl,rfl,rfl,rfl,rfl,rfl,rfl⟩
    ·rintro e3 H7 ⟨rfl,l3,l4,l5,l6,l7,l9,l33,l34,l35⟩
     refine Qak ?_
     simp only[go_sem,l3,l4,l5,l6,l7,l9,l33,l34,l35,hx3,hm,Q3,Qaf _ _ hm,CodeD.cells,hq,hb,Qk,Q9 _ _ hb,BlkD.cells,hy,tn0,tn1,h01,l01,l11,Int.le_refl,List.getD_cons_zero,List.getD_cons_succ]
     intro x6 hx6 H8 h8
     have kn:=kn.al hx6 h8
     have hx3:=kn.l 0 rfl
     have hx6:H8 x6=.st [.sl true 2 [],.sl true 4 [],.int .i64 0,.int .i64 0,.sl true 1 []]:=kn.l 1 rfl
     simp only[go_sem,Qk9,hx6,l3,l4,l5,l6,l7,l9,l33,l34,l35,hx3,hm,Q3,Qaf _ _ hm,CodeD.cells,hq,hb,Qk,Q9 _ _ hb,BlkD.cells,hy,tn0,tn1,h01,l01,l11,Int.le_refl,List.getD_cons_zero,List.getD_cons_succ]
     intro H9 h9
     have kn:Kn H H9 [] [(x3,.st [.sl false 3 (Qq cs)]),(x6,.st [.sl false 2 (Qab y.phis),.sl false 4 (Qa6 y.ins),.int .i64 y.jump,.int .i64 y.on,.sl false 1 (Qd y.next)])]:=kn.stL 1 rfl h9
     have hx3:=kn.l 0 rfl
     have hx6:=kn.l 1 rfl
     rcases hp2 with hz1|⟨t,rfl,ht,hma⟩
     ·have hd:decide ((0:Int)≤z)=false:=decide_eq_false (by omega)
      refine Qak ?_
      refine Q27 5 rfl fun B hB=>?_
      simp only[List.take_succ_cons,List.take_zero]
      simp only[go_sem,hd,tn0,tn1,h01,l01,l11,Int.le_refl,List.getD_cons_zero,List.getD_cons_succ]
      simp only[hB,List.drop_succ_cons,List.drop_zero]
      iterate 8 refine off0 rfl rfl fun v=>?_
      refine offE rfl rfl ?_
      refine off0 rfl rfl fun v=>?_
      refine Qa0p rfl ?_
      simp only[go_sem]
      refine Qe rfl ?_ ?_
      ·intro h;simp at h
      intro _
      refine Qi ?_
      try simp only[go_sem]
      exact hnr _ _ ⟨Kn.drop (B:=[(x6,_)]) (kn.perm (List.Perm.refl _)),rfl,rfl,rfl,rfl,rfl,rfl,rfl,rfl⟩
     ·have hd:decide ((0:Int)≤(t:Int))=true:=decide_eq_true (by omega)
      obtain⟨x,hx⟩:∃x,y.ins[t]=x:=⟨_,rfl⟩
      have hmx:Qec x=(r:Int):=by
       have:=Q30 (q:=q) (b:=b) (i:=t) (by rw[Qb1 hb,hy];exact ht)
       simp only[Qb1 hb,hy,hx]at this
       rw[←this];exact hma
      refine Qak ?_
      simp only[go_sem,decide_true,hx6,ht,Qav,Qcl _ _ ht,InsD.cells,hx,tn0,tn1,h01,l01,l11,Int.le_refl,List.getD_cons_zero,List.getD_cons_succ,Int.toNat_natCast]
      refine Qadu (x:=x) ?_
      rw[hmx]
      simp only[go_sem,Qie,decide_true]
      refine Qe rfl ?_ ?_
      ·intro h;simp at h
      intro _
      refine Qi ?_
      try simp only[go_sem]
      exact hnr _ _ ⟨Kn.drop (B:=[(x6,_)]) (kn.perm (List.Perm.refl _)),rfl,rfl,rfl,rfl,rfl,rfl,rfl,rfl⟩
   ·rintro e3 H7 ⟨kn,l3,l4,l5,l6,l7,l33,l34,l35⟩
    refine Qr ?_
    simp only[go_sem,l3,l4,l5,l6,l7,l33,l34,l35]
    refine⟨Qo (by omega) (by omega),?_⟩
    show ∃m,_
    exact⟨L.length-(i+1),by omega,i+1,rfl,by omega,kn,rfl,rfl,rfl,rfl,rfl,rfl,rfl,rfl⟩
  ·intro hc1
   refine Qt ?_
   simp only[go_sem,X.next]
   refine Qa ?_
   simp only[go_sem]
   refine Qj ?_
   exact retT' _ _ rfl
end Go.AE.Y

namespace Go.AE.Y
open Go.ChangeShapes Go.WideShapes Go.ChangeAt Go.RowKit
def Qbcw (w:World)(a:Option Addr)(len cap:Nat)(zs:List Int):Prop:=
 (a=none∧len=0∧cap=0∧zs=[])∨
 ∃x,a=some x∧len≤cap∧zs.length=cap∧(∀i,i<zs.length→w.cell? (x.add i)=some (.int .u8 (zs.getD i 0)))∧∀n∈zs,(Lit.int .u8 n).wf=true
theorem Qa8n (w:World):Sat (fun _=>.none) ⟨fun b=>decide (b<w.heap.size),fun _=>none,fun _=>none⟩ w:=by
 refine⟨fun b hb=>⟨by simp;omega,rfl⟩,⟨0,fun _ _=>rfl⟩,fun b x h=>by simp at h,fun b l p h=>by simp at h,fun l=>trivial⟩
theorem Qbda {n:Int}(h:(Lit.int .u8 n).wf=true):((UInt8.ofNat n.toNat).toNat:Int)=n:=by
 simp only[Lit.wf,Bool.and_eq_true,decide_eq_true_eq]at h
 have a1:IntKind.min .u8=0:=by decide
 have a2:IntKind.max .u8=255:=by decide
 rw[a1,a2]at h
 rw[UInt8.toNat_ofNat']
 omega
theorem calls_of_acall {P:Program}{f:Nat}(h:∀bs:List UInt8,bs.length≤1048576→Qu P f [.c (.sl false 1 (Qbq bs))] (fun _=>.none) fun v _=>v=.c (.bool true))
  {a0:Option Addr} {len0 cap0:Nat} {z0:List Int} {w:World} (hr:Qbcw w a0 len0 cap0 z0) (hl:len0≤1048576) :
  Calls P f #[.slice a0 len0 cap0] w fun e w'=>e=.returned (.bool true)∧Below w.heap.size w w':=by
 have key:∃bs:List UInt8,bs.length=len0∧RepC w ⟨fun b=>decide (b<w.heap.size),fun _=>none,fun _=>none⟩ (.sl false 1 (Qbq bs)) (.slice a0 len0 cap0):=by
  rcases hr with ⟨rfl,rfl,rfl,rfl⟩|⟨x,rfl,hlc,hz,hcell,hwf⟩
  ·exact⟨[],rfl,.slnil _ _ _⟩
  ·obtain⟨b,off,spot⟩:=x
   have hbl:((z0.take len0).map fun n=>UInt8.ofNat n.toNat).length=len0:=by simp;omega
   by_cases h0:cap0=0
   ·subst h0
    have:len0=0:=by omega
    subst this
    exact⟨[],rfl,.slnil _ _ _⟩
   have hc0:=hcell 0 (by omega)
   have hspot:spot=none:=by simpa[Addr.add]using World.cell?_spot hc0
   subst hspot
   have hadd:∀i,(⟨b,off,none⟩:Addr).add i=⟨b,off+i,none⟩:=by
    intro i
    by_cases h:i=0 <;> simp[Addr.add,h]
   have hb:b<w.heap.size:=by
    rcases Nat.lt_or_ge b w.heap.size with h|h
    ·exact h
    ·simp[World.cell?,Addr.add,Array.getElem?_eq_none h]at hc0
   refine⟨_,hbl,?_⟩
   have hget:∀(i:Nat) (row:List C),(Qbq ((z0.take len0).map fun n=>UInt8.ofNat n.toNat))[i]? = some row→i<len0∧row=[.int .u8 (z0.getD i 0)]:=by
    intro i row hi
    have hlt:i<len0:=by
     rcases Nat.lt_or_ge i len0 with h|h
     ·exact h
     ·rw[List.getElem?_eq_none (by rw[Qau];omega)]at hi;simp at hi
    have hz0:i<z0.length:=by omega
    refine⟨hlt,?_⟩
    simp only[Qbq,List.getElem?_map,List.getElem?_take,if_pos hlt,List.getElem?_eq_getElem hz0,Option.map_some,Option.some.injEq]at hi
    rw[←hi,Qbda (hwf _ (List.getElem_mem hz0))]
    simp[List.getD_eq_getElem?_getD,hz0]
   have:=RepC.sl (w:=w) (g:=⟨fun b=>decide (b<w.heap.size),fun _=>none,fun _=>none⟩) false 1 (Qbq ((z0.take len0).map fun n=>UInt8.ofNat n.toNat)) b off cap0 (fun i _=>.int .u8 (z0.getD i 0))
    (by rw[Qau,hbl];simp only[LIM];omega) (by simp) (by rw[Qau,hbl];exact hlc) (by simpa using hb)
    (fun i row hi=>by rw[(hget i row hi).2];rfl)
    (fun i row j c hi hj=>by
     obtain⟨h1,rfl⟩:=hget i row hi
     have hj0:j=0:=by
      rcases Nat.eq_zero_or_pos j with h|h
      ·exact h
      ·rw[List.getElem?_eq_none (by simp;omega)]at hj;simp at hj
     subst hj0
     have:=hcell i (by omega)
     rw[hadd]at this
     simpa using this)
    (fun i row j c hi hj=>by
     obtain⟨h1,rfl⟩:=hget i row hi
     have hj0:j=0:=by
      rcases Nat.eq_zero_or_pos j with h|h
      ·exact h
      ·rw[List.getElem?_eq_none (by simp;omega)]at hj;simp at hj
     subst hj0
     simp at hj;subst hj
     exact .int _ _)
   rw[Qau,hbl]at this
   exact this
 obtain⟨bs,hbl,hrep⟩:=key
 have hc:=(h bs (by omega)).2 _ w [.slice a0 len0 cap0] (Qa8n w) rfl (fun j x u hj hu=>by
  cases j with
  |zero=>simp at hj hu;subst hj;subst hu;exact .c _ _ hrep
  |succ j=>simp at hj)
 refine hc.mono fun e w'=>?_
 rintro⟨v,x,H',g',rfl,rfl,hst,hv⟩
 have:v=.bool true:=by cases hv with|c _ _ h=>cases h;rfl
 subst this
 exact⟨rfl,hst.le.os,hst.le.tape,hst.le.output,hst.le.size,fun k hk=>(hst.le.per k (by simpa using hk)).2⟩
end Go.AE.Y

