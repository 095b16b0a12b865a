/- Part 6 of the proof: the engine, codes, walks and plain laws, each named where it stands. -/
import Derived.Test.YtldooelffjcbmaaGreatZE
import Derived.Below
import Derived.OpenShut
import Derived.ProofKit
open Nat (reduceEqDiff reduceAdd reduceLeDiff reduceLT)
set_option linter.unusedVariables false
set_option linter.unusedSimpArgs false
set_option maxRecDepth 4000
namespace Go.AE.Y
attribute [local go_sem] cond_true cond_false Bool.not_true Bool.not_false
attribute [local instance] Classical.propDecidable
open Go.Proofs.Tryz
variable {H H0:Heap}{K:V→Heap→Prop}{p rg:Int}{fl:Bool}{rows:List (List C)}{nx:Nat→List Int}{g:Nat→List Nat}
theorem Q4x (l:List Int)(i:Nat)(v:Int):(Qg l).set i [C.int .i64 v]=Qg (l.set i v):=by simp[Qg,List.map_set]
noncomputable def Qas8 (p rg:Int)(fl:Bool)(rows:List (List C))(g:Nat→List Nat)(b:Nat):List C:=[.pp [.int .i64 b],.pp [.pp (domC p rg fl rows g)]]
theorem Qbeo {a b:Nat}(ha:a<rows.length)(hb:b<rows.length)(hn:rows.length≤10000)(hK:K (.c (.bool (!decide (a=b)&&Qef g a b))) H) :
  Qp prog Qa7 ([.c (.int .i64 a)]++(Qas8 p rg fl rows g b).map .c) H K:=by
 have hbd:b<(Qfq rows.length g a).length:=by rw[Qbt];exact hb
 refine Qb Qai Q2v ?_
 refine Qa ?_
 simp only[go_sem,Qas8]
 by_cases hab:a=b
 ·have e1:decide ((a:Int)=(b:Int))=true:=decide_eq_true (by omega)
  have e2:decide (a=b)=true:=decide_eq_true hab
  rw[e2]at hK
  refine Qae ?_
  simp only[go_sem,e1,domC,ha,hb,Qi4,Qhu ha,Qal,Qbt,Qaf _ _ hbd,Qdh hb,Qys]
  refine Qk ?_
  simp only[go_sem,Q4,Q7,Qe2,List.mem_singleton,forall_eq,RS.op]
  exact hK
 ·have e1:decide ((a:Int)=(b:Int))=false:=decide_eq_false (by omega)
  have e2:decide (a=b)=false:=decide_eq_false hab
  rw[e2]at hK
  refine Qae ?_
  simp only[go_sem,e1,domC,ha,hb,Qi4,Qhu ha,Qal,Qbt,Qaf _ _ hbd,Qdh hb,Qys]
  refine Qk ?_
  simp only[go_sem,Q4,Q7,Qe2,List.mem_singleton,forall_eq,RS.op]
  exact hK
set_option maxHeartbeats 2000000 in
theorem Qa5x {b:Nat}(hb:b<rows.length)(hn:rows.length≤10000)(hK:∀r,Qyb rows.length g b r→K (.c (.int .i64 r)) H) :
  Qp prog Qdz [.c (.pp (domC p rg fl rows g)),.c (.fn Qa7 (Qas8 p rg fl rows g b))] H K:=by
 refine Qb Qai Q2w ?_
 refine Qa ?_
 simp only[go_sem]
 refine Qa ?_
 simp only[go_sem]
 refine Q5 ?_
 refine Qa ?_
 simp only[go_sem,domC,C.isPtr,Qi4]
 try intro _
 refine Qi (Qf (Qx (fun m e1 H1=>∃(k:Nat) (r:Int),m=rows.length-k∧k≤rows.length∧Qyb k g b r∧H1=H∧
  lk 0 e1=.c (.pp (domC p rg fl rows g))∧lk 1 e1=.c (.fn Qa7 (Qas8 p rg fl rows g b))∧lk 5 e1=.c (.int .i64 r)∧lk 11 e1=.c (.int .i64 rows.length)∧lk 12 e1=.c (.int .i64 k)) rows.length ?_ ?_))
 ·exact⟨0,-1,by omega,by omega,.inl ⟨rfl,fun a ha=>by omega⟩,rfl,rfl,rfl,rfl,rfl,rfl⟩
 ·rintro m e1 H1 ⟨k,r,hm,hk,hI,rfl,l0,l1,l5,l11,l12⟩
  refine Qa ?_
  simp only[go_sem,l0,l1,l5,l11,l12]
  refine Qi (Qe rfl ?_ ?_)
  ·intro hc
   have hlt:k<rows.length:=by simpa using hc
   obtain⟨i1,i2,i3⟩:=NrOk.step hI
   have hki:k<(inL rows.length g).length:=by rw[Qj8];exact hlt
   obtain⟨a0,ha0,hra⟩:∃a0,a0<rows.length∧r.toNat=a0:=by
    rcases hI with ⟨hr,_⟩|⟨d,hr,hdk,_,_,_⟩
    ·exact⟨0,by omega,by omega⟩
    ·exact⟨d,by omega,by omega⟩
   have hka:k<(Qfq rows.length g a0).length:=by rw[Qbt];exact hlt
   refine Qh ?_
   try simp only[go_sem]
   refine Qvd (fun e2 H2=>∃r',Qyb (k+1) g b r'∧H2=H1∧
    lk 0 e2=.c (.pp (domC p rg fl rows g))∧lk 1 e2=.c (.fn Qa7 (Qas8 p rg fl rows g b))∧lk 5 e2=.c (.int .i64 r')∧lk 11 e2=.c (.int .i64 rows.length)∧lk 12 e2=.c (.int .i64 k)) ?_ ?_
   ·intro Q hnr _ _
    refine Qf ?_
    refine Qa ?_
    simp only[go_sem,l0,l1,l5,l11,l12]
    cases hin:Qva g (-1) k with
    |false=>
     have hdk:Qef g k b=false:=by simp[Qef,hin]
     refine Qa ?_
     simp only[go_sem,domC,C.isPtr,hlt,Qal,Qj8,Qaf _ _ hki,Qu4 hlt,hin,Qa0,hra,Qi4,ha0,Qhu ha0,Qbt,Qaf _ _ hka,Qdh hlt,Qys]
     refine Qe rfl (fun h=>by simp at h) fun _=>?_
     refine Qh ?_
     try simp only[go_sem]
     exact hnr _ _ ⟨r,i1 (fun h=>by rw[hdk]at h;exact absurd h.2 (by simp)),rfl,rfl,rfl,rfl,rfl,rfl⟩
    |true=>
     refine Qa ?_
     simp only[go_sem,domC,C.isPtr,hlt,Qal,Qj8,Qaf _ _ hki,Qu4 hlt,hin]
     refine Qbeo hlt hb hn ?_
     cases hd:(!decide (k=b)&&Qef g k b)with
     |false=>
      simp only[go_sem,domC,C.isPtr,Qa0,hra,hlt,Qi4,ha0,Qhu ha0,Qal,Qbt,Qaf _ _ hka,Qdh hlt,Qys]
      refine Qe rfl (fun h=>by simp at h) fun _=>?_
      refine Qh ?_
      try simp only[go_sem]
      exact hnr _ _ ⟨r,i1 (fun h=>by
       have:(!decide (k=b)&&Qef g k b)=true:=by simp[h.1,h.2]
       rw[hd]at this;simp at this),rfl,rfl,rfl,rfl,rfl,rfl⟩
     |true=>
      have hkb:k≠b:=by simp at hd;exact hd.1
      have hkd:Qef g k b=true:=by simp at hd;exact hd.2
      rcases hI with ⟨hr,_⟩|⟨d,hr,hdk,_,_,_⟩
      ·have e1:decide (r<0)=true:=decide_eq_true (by omega)
       simp only[go_sem,domC,C.isPtr,Qa0,e1,hra,hlt,Qi4,ha0,Qhu ha0,Qal,Qbt,Qaf _ _ hka,Qdh hlt,Qys]
       refine Qe rfl (fun _=>?_) (fun h=>by simp at h)
       refine Qv ?_
       simp only[go_sem]
       exact hnr _ _ ⟨k,i2 hkb hkd (.inl hr),rfl,rfl,rfl,rfl,rfl,rfl⟩
      ·subst hr
       have hdl:d<rows.length:=by omega
       have hkr:k<(Qfq rows.length g d).length:=by rw[Qbt];exact hlt
       have e1:decide ((d:Int)<0)=false:=decide_eq_false (by omega)
       cases hdd:Qef g d k with
       |true=>
        simp only[go_sem,domC,C.isPtr,Qa0,e1,hdl,hlt,Qi4,Qhu hdl,Qal,Qbt,Qaf _ _ hkr,Qdh hlt,hdd,Qys]
        refine Qe rfl (fun _=>?_) (fun h=>by simp at h)
        refine Qv ?_
        simp only[go_sem]
        exact hnr _ _ ⟨k,i2 hkb hkd (.inr ⟨d,rfl,hdd⟩),rfl,rfl,rfl,rfl,rfl,rfl⟩
       |false=>
        simp only[go_sem,domC,C.isPtr,Qa0,e1,hdl,hlt,Qi4,Qhu hdl,Qal,Qbt,Qaf _ _ hkr,Qdh hlt,hdd,Qys]
        refine Qe rfl (fun h=>by simp at h) fun _=>?_
        refine Qh ?_
        try simp only[go_sem]
        exact hnr _ _ ⟨d,i3 hkb hkd ⟨d,rfl,hdd⟩,rfl,rfl,rfl,rfl,rfl,rfl⟩
   ·rintro e2 H2 ⟨r',hI',rfl,l0,l1,l5,l11,l12⟩
    refine Qv ?_
    simp only[go_sem,l0,l1,l5,l11,l12]
    refine⟨Qr (by omega) (by omega),?_⟩
    show ∃m,_
    exact⟨rows.length-(k+1),by omega,k+1,r',rfl,by omega,hI',rfl,rfl,rfl,rfl,rfl,rfl⟩
  ·intro hc
   have hge:k=rows.length:=by have:rows.length≤k:=(by simpa using hc);omega
   subst hge
   refine Qw ?_
   simp only[go_sem,X.next]
   refine Qa ?_
   simp only[go_sem,l5]
   refine Qk ?_
   simp only[go_sem,Q4,Q7,Qk8,List.mem_singleton,forall_eq,RS.op]
   exact hK r hI
theorem Qbk5 {b:Nat}(hb:b<rows.length)(hn:rows.length≤10000)(hK:∀r,Qyb rows.length g b r→K (.c (.int .i64 r)) H) :
  Qp prog Qhi [.c (.pp (domC p rg fl rows g)),.c (.int .i64 b)] H K:=by
 refine Qb Qai Qah7 ?_
 refine Qa ?_
 simp only[go_sem]
 refine Qa ?_
 simp only[go_sem]
 refine Qa5x hb hn fun r hr=>?_
 simp only[go_sem,Qlp]
 refine Qk ?_
 simp only[go_sem,Q4,Q7,Qwt,List.mem_singleton,forall_eq,RS.op]
 exact hK r hr
def IdsOk (n:Nat)(g:Nat→List Nat)(k:Nat)(ids:List Int):Prop:=ids.length=n∧∀j,j<k→Qyb n g j (ids.getD j 0)
theorem IdsOk.step {n k:Nat}{ids:List Int}(h:IdsOk n g k ids)(hk:k<n){r:Int}(hr:Qyb n g k r):IdsOk n g (k+1) (ids.set k r):=by
 refine⟨by rw[List.length_set];exact h.1,fun j hj=>?_⟩
 have hl:=h.1
 by_cases hjk:j=k
 ·subst hjk
  have:(ids.set j r).getD j 0=r:=by simp[List.getD_eq_getElem?_getD,show j<ids.length by omega]
  rw[this];exact hr
 ·have:(ids.set k r).getD j 0=ids.getD j 0:=by simp[List.getD_eq_getElem?_getD,List.getElem?_set_ne (fun e=>hjk e.symm)]
  rw[this];exact h.2 j (by omega)
set_option maxHeartbeats 2000000 in
theorem Qask (hg:GF rows nx)(hf:Qmi rows.length nx=true)(hK:∀ids H',Upd H H' []→IdsOk rows.length (nxN nx) rows.length ids→K (.c (.sl false 1 (Qg ids))) H') :
  Qp prog Qgu [.ag [.int .i64 p,.int .i64 rg,.sl fl 5 rows]] H K:=by
 have hn:=hg.n
 refine Qu ?_
 refine Qb Qai Qatc ?_
 refine Qa ?_
 simp only[go_sem]
 refine Qa ?_
 simp only[go_sem]
 refine Qbd8 hg (fun h=>by rw[hf]at h;simp at h) fun _ H1 hu=>?_
 have kn:=(Kn.start0 H).call0 hu
 simp only[go_sem,Qrn]
 refine Q5 ?_
 refine Qa ?_
 simp only[go_sem,C.isPtr,true_or]
 refine Qi (Qe rfl (fun h=>by simp at h) fun _=>?_)
 refine Qh ?_
 try simp only[go_sem]
 refine Qa ?_
 simp only[go_sem]
 try intro _
 refine⟨by simp only[LIM];omega,fun z hz H2 h2=>?_⟩
 have kn:Kn H H2 [] [(z,.vec 1 (Qg (List.replicate rows.length 0)))]:=by
  have:=kn.al hz h2
  simpa[Qg]using this
 simp only[go_sem,Qro]
 have hz:=kn.l 0 rfl
 refine Q5 ?_
 refine Qa ?_
 simp only[go_sem,hz,Qc,List.length_replicate,Nat.zero_add,Nat.le_refl]
 try intro _
 refine Qi (Qf (Qx (fun m e1 H1=>∃(k:Nat) (ids:List Int),m=rows.length-k∧k≤rows.length∧IdsOk rows.length (nxN nx) k ids∧Kn H H1 [] [(z,.vec 1 (Qg ids))]∧
  lk 3 e1=.c (.pp (domC p rg fl rows (nxN nx)))∧lk 4 e1=.c (.vsl z 1 0 rows.length)∧lk 15 e1=.c (.int .i64 rows.length)∧lk 16 e1=.c (.int .i64 k)) rows.length ?_ ?_))
 ·exact⟨0,_,by omega,by omega,⟨by simp,fun j hj=>by omega⟩,kn,rfl,rfl,rfl,rfl⟩
 ·clear kn hz
  rintro m e1 H3 ⟨k,ids,hm,hk,hI,kn,l3,l4,l15,l16⟩
  have hil:=hI.1
  refine Qa ?_
  simp only[go_sem,l3,l4,l15,l16]
  refine Qi (Qe rfl ?_ ?_)
  ·intro hc
   have hlt:k<rows.length:=by simpa using hc
   have hki:k<(inL rows.length (nxN nx)).length:=by rw[Qj8];exact hlt
   refine Qh ?_
   try simp only[go_sem]
   refine Qvd (fun e2 H2=>∃(ids:List Int),IdsOk rows.length (nxN nx) (k+1) ids∧Kn H H2 [] [(z,.vec 1 (Qg ids))]∧
    lk 3 e2=.c (.pp (domC p rg fl rows (nxN nx)))∧lk 4 e2=.c (.vsl z 1 0 rows.length)∧lk 15 e2=.c (.int .i64 rows.length)∧lk 16 e2=.c (.int .i64 k)) ?_ ?_
   ·intro Q hnr _ _
    refine Qf ?_
    refine Qa ?_
    simp only[go_sem,l3,l4,l15,l16]
    have hz:=kn.l 0 rfl
    have hkd:k<ids.length:=by omega
    have hkd2:k<(ids.set k (-1)).length:=by rw[List.length_set];exact hkd
    refine Qa ?_
    simp only[go_sem,hz,hlt,Qc,hil,Qs _ _ hkd,Q4x,Nat.zero_add,Nat.le_refl]
    intro H4 h4
    have kn:Kn H H4 [] [(z,.vec 1 (Qg (ids.set k (-1))))]:=kn.stL 0 rfl h4
    have hz:=kn.l 0 rfl
    cases hin:Qva (nxN nx) (-1) k with
    |false=>
     refine Qa ?_
     simp only[go_sem,domC,C.isPtr,hlt,Qal,Qj8,Qaf _ _ hki,Qu4 hlt,hin]
     refine Qe rfl (fun h=>by simp at h) fun _=>?_
     refine Qh ?_
     try simp only[go_sem]
     refine hnr _ _ ⟨_,hI.step hlt (.inl ⟨rfl,fun a _ _=>by simp[Qef,hin]⟩),kn,rfl,rfl,rfl,rfl⟩
    |true=>
     refine Qa ?_
     simp only[go_sem,domC,C.isPtr,hlt,Qal,Qj8,Qaf _ _ hki,Qu4 hlt,hin]
     refine Qe rfl (fun _=>?_) (fun h=>by simp at h)
     refine Qv ?_
     simp only[go_sem]
     refine Qbk5 hlt hn fun r hr=>?_
     simp only[go_sem,Qrp,hz,hlt,Qc,hil,List.length_set,Qs _ _ hkd2,Q4x,List.set_set,Nat.zero_add,Nat.le_refl]
     intro H5 h5
     have kn:Kn H H5 [] [(z,.vec 1 (Qg (ids.set k r)))]:=kn.stL 0 rfl h5
     exact hnr _ _ ⟨_,hI.step hlt hr,kn,rfl,rfl,rfl,rfl⟩
   ·rintro e2 H4 ⟨ids,hI,kn,l3,l4,l15,l16⟩
    refine Qv ?_
    simp only[go_sem,l3,l4,l15,l16]
    refine⟨Qr (by omega) (by omega),?_⟩
    show ∃m,_
    exact⟨rows.length-(k+1),by omega,k+1,ids,rfl,by omega,hI,kn,rfl,rfl,rfl,rfl⟩
  ·intro hc
   have hge:k=rows.length:=by have:rows.length≤k:=(by simpa using hc);omega
   subst hge
   have hz:=kn.l 0 rfl
   refine Qw ?_
   simp only[go_sem,X.next]
   refine Qa ?_
   simp only[go_sem,l4]
   refine Qk ?_
   simp only[go_sem,Q4,Q7,Q41,List.mem_singleton,forall_eq,RS.op]
   exact⟨_,.c _ _ (FrzR.vsl (kn.un 0 rfl) hz (by rw[Qc,hil]) (FrzR.same (Qt _))),hK ids _ kn.fin hI⟩
end Go.AE.Y

namespace Go.AE.Y
attribute [local go_sem] cond_true cond_false Bool.not_true Bool.not_false
attribute [local instance] Classical.propDecidable
open Go.Proofs.Tryz
variable {H H0:Heap}{K:V→Heap→Prop}{fl:Bool}{cs:List CodeD}
set_option maxHeartbeats 8000000 in
theorem FnDomSplit_c {bs:List UInt8}(hK:∀H',K (.c (.bool true)) H'):Qp prog Qnx [.c (.sl false 1 (Qbi bs))] H K:=by
 refine Qb Qai Qaay ?_
 have retT':∀(e:Env) (H':Heap),lk 2 e=.c (.bool true)→Q4 Qh0 K .ret e H':=by
  intro e H' h2
  simp only[go_sem,Q4,Q7,Qh0,List.mem_singleton,forall_eq,RS.op,h2]
  exact hK H'
 refine Qa ?_
 simp only[go_sem]
 refine Q5 ?_
 refine Qa ?_
 simp only[go_sem,Qap]
 intro _
 refine Qi (Qe rfl (fun hc=>?_) (fun hc=>?_))
 ·refine Qa ?_
  simp only[go_sem]
  refine Qk ?_
  exact retT' _ _ rfl
 refine Qh ?_
 try simp only[go_sem]
 refine Qa ?_
 simp only[go_sem]
 refine Qnu fun cs H1 hu hok=>?_
 have hfit:=hok.fits
 have hfd:=Qaxo hfit
 obtain⟨ds,hds⟩:∃ds,splL cs=ds:=⟨_,rfl⟩
 rw[hds]at hfd
 have kn:=(Kn.start0 H).call0 hu
 simp only[go_sem,Qjp]
 intro x3 hx3 H2 h2
 have kn:=kn.al hx3 h2
 have hx3:=kn.l 0 rfl
 simp only[go_sem,Qjo,hx3]
 intro H3 h3
 have kn:Kn H H3 [] [(x3,.st [.sl false 3 (Qj cs)])]:=kn.stL 0 rfl h3
 have hx3:=kn.l 0 rfl
 refine Qa ?_
 simp only[go_sem,hx3]
 refine Qj7 hfit fun H4 hu=>?_
 rw[hds]
 have kn:=kn.call0 hu
 simp only[go_sem,Qjs,List.getD_cons_zero,List.getD_cons_succ]
 intro x4 hx4 H5 h5
 have kn:=kn.al hx4 h5
 have hx4:=kn.l 1 rfl
 simp only[go_sem,Qjr,hx4]
 intro H6 h6
 have kn:Kn H H6 [] [(x3,.st [.sl false 3 (Qj cs)]),(x4,.st [.sl false 3 (Qj ds)])]:=kn.stL 1 rfl h6
 have hx3:=kn.l 0 rfl
 simp only[go_sem,Qjq]
 refine Qa ?_
 simp only[go_sem,hx3]
 refine Qya hfit fun H7 hu=>?_
 rw[hds]
 have kn:=kn.call0 hu
 simp only[go_sem,Qjv,List.getD_cons_zero,List.getD_cons_succ]
 intro x6 hx6 H8 h8
 have kn:=kn.al hx6 h8
 have hx6:=kn.l 2 rfl
 simp only[go_sem,Qju,hx6]
 intro H9 h9
 have kn:Kn H H9 [] [(x3,.st [.sl false 3 (Qj cs)]),(x4,.st [.sl false 3 (Qj ds)]),(x6,.st [.sl false 3 (Qj ds)])]:=kn.stL 2 rfl h9
 have hx4:=kn.l 1 rfl
 have hx6:=kn.l 2 rfl
 simp only[go_sem,Qjt]
 refine Q5 ?_
 cases hg:splB cs with
 |false=>
  refine Qa ?_
  simp only[go_sem,hg,hx4,hx6,decide_true]
  refine Qcr fun H10 hu=>?_
  have kn:=kn.call0 hu
  have hx4:=kn.l 1 rfl
  have hx6:=kn.l 2 rfl
  simp only[go_sem,Qeb]
  refine Qi (Qe rfl ?_ ?_)
  ·intro _
   refine Qa ?_
   simp only[go_sem,hx4,hx6,decide_true]
   refine Qcr fun H11 hu=>?_
   simp only[go_sem,Qid]
   refine Qk ?_
   exact retT' _ _ rfl
  ·intro h;simp at h
 |true=>
  obtain⟨hgc,hdm,hgd⟩:=Q9x hg
  rw[hds]at hdm
  rw[←hdm]at hgd
  have hdl:ds.length=cs.length:=by rw[hdm,List.length_map]
  have h14:=(of_decide_eq_true hgd).1
  refine Qa ?_
  simp only[go_sem,hg,hx4,hx6,decide_true]
  refine Qcr fun H10 hu=>?_
  have kn:=kn.call0 hu
  simp only[go_sem,Qeb]
  refine Qi (Qe rfl ?_ ?_)
  ·intro h;simp at h
  intro _
  refine Qh ?_
  try simp only[go_sem]
  have kn:Kn H H10 [] [(x3,.st [.sl false 3 (Qj cs)]),(x4,.st [.sl false 3 (Qj ds)])]:=Kn.drop (A:=[_,_]) (B:=[_]) kn
  have hx3:=kn.l 0 rfl
  have hx4:=kn.l 1 rfl
  obtain⟨k,hk⟩:∃k,cs.length=k+1:=⟨cs.length-1,by omega⟩
  have ek:((k+1:Nat):Int)-1=(k:Int):=by omega
  have hltc:k<cs.length:=by omega
  have hlt:k<ds.length:=by omega
  obtain⟨q,hq⟩:∃q,cs[k]=q:=⟨_,rfl⟩
  have hqo:q.ok:=by rw[←hq];exact Qnt hgc hltc
  have hdi:ds[k]=spD q:=by subst hdm;rw[List.getElem_map,hq]
  have hdo:(spD q).ok:=by rw[←hdi];exact Qnt hgd hlt
  have hOn:=Qbl6 hqo
  have hdl2:(spD q).blocks.length=q.blocks.length+(nwL q).length:=by rw[Qdl];rfl
  obtain⟨d,hd⟩:∃d,spD q=d:=⟨_,rfl⟩
  rw[hd]at hdi hdo hOn hdl2
  have hqn:=hqo.b1
  have hdn:=hdo.b1
  refine Qa ?_
  simp only[go_sem,hx3,Qq,hk,ek]
  try intro _
  refine⟨Qr (by omega) (by omega),?_⟩
  refine Qae ?_
  simp only[go_sem,hx3,hx4,hlt,hltc,Qq,Q3 _ _ hlt,Q3 _ _ hltc,CodeD.cells,hdi,hq]
  intro x9 hx9 H11 h11
  have kn:=kn.al hx9 h11
  have hx3:=kn.l 0 rfl
  have hx4:=kn.l 1 rfl
  simp only[go_sem,Qig,hx3,hx4,hlt,hltc,Qq,Q3 _ _ hlt,Q3 _ _ hltc,CodeD.cells,hdi,hq]
  intro x10 hx10 H12 h12
  have kn:=kn.al hx10 h12
  have hx3:=kn.l 0 rfl
  have hx4:=kn.l 1 rfl
  have hx9:=kn.l 2 rfl
  simp only[go_sem,Qif,hx3,hx4,hx9,hlt,hltc,Qq,Q3 _ _ hlt,Q3 _ _ hltc,CodeD.cells,hdi,hq]
  intro H13 h13
  have kn:=kn.stL 2 rfl h13
  have hx3:=kn.l 0 rfl
  have hx4:=kn.l 1 rfl
  have hx10:=kn.l 3 rfl
  simp only[go_sem,Qie,hx3,hx4,hx10,hlt,hltc,Qq,Q3 _ _ hlt,Q3 _ _ hltc,CodeD.cells,hdi,hq]
  intro H14 h14
  have kn:Kn H H14 [] [(x3,.st [.sl false 3 (Qj cs)]),(x4,.st [.sl false 3 (Qj ds)]),(x9,.st [.int .i64 q.params,.int .i64 q.regs,.sl false 5 (Qn q.blocks)]),(x10,.st [.int .i64 d.params,.int .i64 d.regs,.sl false 5 (Qn d.blocks)])]:=kn.stL 3 rfl h14
  have hx9:=kn.l 2 rfl
  have hx10:=kn.l 3 rfl
  refine Qae ?_
  simp only[go_sem,hx9,hx10]
  refine Qask (rows:=Qn q.blocks) (nx:=gnx q) (Qa91 hqo.gd) (by rw[Ql];exact hqo.fitB) fun ida H15 hu hA=>?_
  have kn:=kn.call0 hu
  have hx10:=kn.l 3 rfl
  simp only[go_sem,Qii,hx10]
  refine Qask (rows:=Qn d.blocks) (nx:=gnx d) (Qa91 hdo.gd) (by rw[Ql];exact hdo.fitB) fun idb H16 hu hB=>?_
  have kn:=kn.call0 hu
  rw[Ql]at hA hB
  have hx9:=kn.l 2 rfl
  simp only[go_sem,Qih]
  refine Q5 ?_
  refine Qa ?_
  simp only[go_sem,hx9,Ql]
  try intro _
  refine Qi (Qf (Qx (fun mm e1 H1=>∃(i:Nat),mm=q.blocks.length-i∧i≤q.blocks.length∧Kn H H1 [] [(x3,.st [.sl false 3 (Qj cs)]),(x4,.st [.sl false 3 (Qj ds)]),(x9,.st [.int .i64 q.params,.int .i64 q.regs,.sl false 5 (Qn q.blocks)]),(x10,.st [.int .i64 d.params,.int .i64 d.regs,.sl false 5 (Qn d.blocks)])]∧
   lk 9 e1=.c (.ptr x9 0)∧lk 11 e1=.c (.sl false 1 (Qg ida))∧lk 12 e1=.c (.sl false 1 (Qg idb))∧lk 71 e1=.c (.int .i64 q.blocks.length)∧lk 72 e1=.c (.int .i64 i)) q.blocks.length ?_ ?_))
  ·exact⟨0,by omega,by omega,kn,rfl,rfl,rfl,rfl,rfl⟩
  ·clear kn hx3 hx4 hx6 hx9 hx10
   rintro mm e1 H17 ⟨i,hmm,hi,kn,l9,l11,l12,l71,l72⟩
   refine Qa ?_
   simp only[go_sem,l9,l11,l12,l71,l72]
   refine Qi (Qe rfl ?_ ?_)
   ·intro hc1
    have hil:i<q.blocks.length:=by simpa using hc1
    have hib:i<idb.length:=by rw[hB.1];omega
    have hia:i<ida.length:=by rw[hA.1];exact hil
    have hA1:=hA.2 i hil
    have hB1:=AtOk.init hOn (by omega) hil (hB.2 i (by omega))
    refine Qh ?_
    try simp only[go_sem]
    refine Qvd (fun e2 H2=>Kn H H2 [] [(x3,.st [.sl false 3 (Qj cs)]),(x4,.st [.sl false 3 (Qj ds)]),(x9,.st [.int .i64 q.params,.int .i64 q.regs,.sl false 5 (Qn q.blocks)]),(x10,.st [.int .i64 d.params,.int .i64 d.regs,.sl false 5 (Qn d.blocks)])]∧
     lk 9 e2=.c (.ptr x9 0)∧lk 11 e2=.c (.sl false 1 (Qg ida))∧lk 12 e2=.c (.sl false 1 (Qg idb))∧lk 71 e2=.c (.int .i64 q.blocks.length)∧lk 72 e2=.c (.int .i64 i)) ?_ ?_
    ·intro Q hnr _ _
     refine Qf ?_
     refine Qa ?_
     simp only[go_sem,l9,l11,l12,l71,l72]
     refine Qa ?_
     simp only[go_sem,hib,Qc,Qs _ _ hib]
     refine Qi (Qf (Qx (fun m2 e1 H1=>∃(r:Int),AtOk q.blocks.length d.blocks.length (nxN (gnx q)) (nxN (gnx d)) i r∧m2=(if r<0 then 0 else depL d.blocks.length (nxN (gnx d)) r.toNat)∧
      Kn H H1 [] [(x3,.st [.sl false 3 (Qj cs)]),(x4,.st [.sl false 3 (Qj ds)]),(x9,.st [.int .i64 q.params,.int .i64 q.regs,.sl false 5 (Qn q.blocks)]),(x10,.st [.int .i64 d.params,.int .i64 d.regs,.sl false 5 (Qn d.blocks)])]∧
      lk 9 e1=.c (.ptr x9 0)∧lk 11 e1=.c (.sl false 1 (Qg ida))∧lk 12 e1=.c (.sl false 1 (Qg idb))∧lk 13 e1=.c (.int .i64 i)∧lk 14 e1=.c (.int .i64 r)∧lk 71 e1=.c (.int .i64 q.blocks.length)∧lk 72 e1=.c (.int .i64 i)) (if idb.getD i 0<0 then 0 else depL d.blocks.length (nxN (gnx d)) (idb.getD i 0).toNat) ?_ ?_))
     ·exact⟨idb.getD i 0,hB1,rfl,kn,rfl,rfl,rfl,rfl,rfl,rfl,rfl⟩
     ·clear kn l9 l11 l12 l71 l72
      rintro m2 e2 H18 ⟨r,hR,hm2,kn,l9,l11,l12,l13,l14,l71,l72⟩
      have hx9:=kn.l 2 rfl
      refine Q5 ?_
      refine Qa ?_
      simp only[go_sem,l9,l11,l12,l13,l14,l71,l72,hx9,Ql]
      try intro _
      refine Qi (Qe rfl ?_ ?_)
      ·intro hc2
       have hge:(q.blocks.length:Int)≤r:=by simpa using hc2
       obtain⟨a,ha⟩:∃a:Nat,r=a:=⟨r.toNat,by omega⟩
       subst ha
       obtain⟨hal,hnx⟩:=AtOk.next hOn (by omega) hil hR (by omega)
       obtain⟨hR2,e,he,hdep⟩:=hnx _ (hB.2 a (by omega))
       have hab:a<idb.length:=by rw[hB.1];omega
       refine Qh ?_
       try simp only[go_sem]
       refine Qf ?_
       refine Qv ?_
       simp only[go_sem,hab,Qc,Qs _ _ hab]
       show ∃m,_
       refine⟨_,?_,idb.getD a 0,hR2,rfl,kn,rfl,rfl,rfl,rfl,rfl,rfl,rfl⟩
       rw[hm2,he,if_neg (by omega),if_neg (by omega)]
       simpa using hdep
      ·intro hc2
       have hlr:r<(q.blocks.length:Int):=by
        have:¬(q.blocks.length:Int)≤r:=by simpa using hc2
        omega
       have hrs:=AtOk.fin hOn hil hR hlr hA1
       have hbe:decide (r=ida.getD i 0)=true:=decide_eq_true hrs
       refine Qw ?_
       simp only[go_sem,X.next]
       refine Qa ?_
       simp only[go_sem,l9,l11,l12,l13,l14,l71,l72,hia,Qc,Qs _ _ hia,hbe]
       refine Qe rfl (fun h=>by simp at h) fun _=>?_
       refine Qh ?_
       try simp only[go_sem]
       exact hnr _ _ ⟨kn,rfl,rfl,rfl,rfl,rfl⟩
    ·rintro e2 H18 ⟨kn,l9,l11,l12,l71,l72⟩
     refine Qv ?_
     simp only[go_sem,l9,l11,l12,l71,l72]
     refine⟨Qr (by omega) (by omega),?_⟩
     show ∃m,_
     exact⟨q.blocks.length-(i+1),by omega,i+1,rfl,by omega,kn,rfl,rfl,rfl,rfl,rfl⟩
   ·intro hc1
    refine Qw ?_
    simp only[go_sem,X.next]
    refine Qa ?_
    simp only[go_sem]
    refine Qk ?_
    exact retT' _ _ rfl
end Go.AE.Y

namespace Go.AE.Y
open Go.ChangeShapes Go.WideShapes Go.ChangeAt Go.RowKit
def Qbhz (w:World)(a:Option Addr)(len cap:Nat)(zs:List Int):Prop:=
 (a=none∧len=0∧cap=0∧zs=[])∨
 ∃x,a=some x∧len≤cap∧zs.length=cap∧(∀i,i<zs.length→w.cell? (x.add i)=some (.int .u8 (zs.getD i 0)))∧∀n∈zs,(Lit.int .u8 n).wf=true
theorem Qbdc (w:World):Sat (fun _=>.none) ⟨fun b=>decide (b<w.heap.size),fun _=>none,fun _=>none⟩ w:=by
 refine⟨fun b hb=>⟨by simp;omega,rfl⟩,⟨0,fun _ _=>rfl⟩,fun b x h=>by simp at h,fun b l p h=>by simp at h,fun l=>trivial⟩
theorem Qbia {n:Int}(h:(Lit.int .u8 n).wf=true):((UInt8.ofNat n.toNat).toNat:Int)=n:=by
 simp only[Lit.wf,Bool.and_eq_true,decide_eq_true_eq]at h
 have a1:IntKind.min .u8=0:=by decide
 have a2:IntKind.max .u8=255:=by decide
 rw[a1,a2]at h
 rw[UInt8.toNat_ofNat']
 omega
theorem calls_of_acall {P:Program}{f:Nat}(h:∀bs:List UInt8,bs.length≤1048576→Qp P f [.c (.sl false 1 (Qbi bs))] (fun _=>.none) fun v _=>v=.c (.bool true))
  {a0:Option Addr} {len0 cap0:Nat} {z0:List Int} {w:World} (hr:Qbhz w a0 len0 cap0 z0) (hl:len0≤1048576) :
  Calls P f #[.slice a0 len0 cap0] w fun e w'=>e=.returned (.bool true)∧Below w.heap.size w w':=by
 have key:∃bs:List UInt8,bs.length=len0∧RepC w ⟨fun b=>decide (b<w.heap.size),fun _=>none,fun _=>none⟩ (.sl false 1 (Qbi bs)) (.slice a0 len0 cap0):=by
  rcases hr with ⟨rfl,rfl,rfl,rfl⟩|⟨x,rfl,hlc,hz,hcell,hwf⟩
  ·exact⟨[],rfl,.slnil _ _ _⟩
  ·obtain⟨b,off,spot⟩:=x
   have hbl:((z0.take len0).map fun n=>UInt8.ofNat n.toNat).length=len0:=by simp;omega
   by_cases h0:cap0=0
   ·subst h0
    have:len0=0:=by omega
    subst this
    exact⟨[],rfl,.slnil _ _ _⟩
   have hc0:=hcell 0 (by omega)
   have hspot:spot=none:=by simpa[Addr.add]using World.cell?_spot hc0
   subst hspot
   have hadd:∀i,(⟨b,off,none⟩:Addr).add i=⟨b,off+i,none⟩:=by
    intro i
    by_cases h:i=0 <;> simp[Addr.add,h]
   have hb:b<w.heap.size:=by
    rcases Nat.lt_or_ge b w.heap.size with h|h
    ·exact h
    ·simp[World.cell?,Addr.add,Array.getElem?_eq_none h]at hc0
   refine⟨_,hbl,?_⟩
   have hget:∀(i:Nat) (row:List C),(Qbi ((z0.take len0).map fun n=>UInt8.ofNat n.toNat))[i]? = some row→i<len0∧row=[.int .u8 (z0.getD i 0)]:=by
    intro i row hi
    have hlt:i<len0:=by
     rcases Nat.lt_or_ge i len0 with h|h
     ·exact h
     ·rw[List.getElem?_eq_none (by rw[Qap];omega)]at hi;simp at hi
    have hz0:i<z0.length:=by omega
    refine⟨hlt,?_⟩
    simp only[Qbi,List.getElem?_map,List.getElem?_take,if_pos hlt,List.getElem?_eq_getElem hz0,Option.map_some,Option.some.injEq]at hi
    rw[←hi,Qbia (hwf _ (List.getElem_mem hz0))]
    simp[List.getD_eq_getElem?_getD,hz0]
   have:=RepC.sl (w:=w) (g:=⟨fun b=>decide (b<w.heap.size),fun _=>none,fun _=>none⟩) false 1 (Qbi ((z0.take len0).map fun n=>UInt8.ofNat n.toNat)) b off cap0 (fun i _=>.int .u8 (z0.getD i 0))
    (by rw[Qap,hbl];simp only[LIM];omega) (by simp) (by rw[Qap,hbl];exact hlc) (by simpa using hb)
    (fun i row hi=>by rw[(hget i row hi).2];rfl)
    (fun i row j c hi hj=>by
     obtain⟨h1,rfl⟩:=hget i row hi
     have hj0:j=0:=by
      rcases Nat.eq_zero_or_pos j with h|h
      ·exact h
      ·rw[List.getElem?_eq_none (by simp;omega)]at hj;simp at hj
     subst hj0
     have:=hcell i (by omega)
     rw[hadd]at this
     simpa using this)
    (fun i row j c hi hj=>by
     obtain⟨h1,rfl⟩:=hget i row hi
     have hj0:j=0:=by
      rcases Nat.eq_zero_or_pos j with h|h
      ·exact h
      ·rw[List.getElem?_eq_none (by simp;omega)]at hj;simp at hj
     subst hj0
     simp at hj;subst hj
     exact .int _ _)
   rw[Qap,hbl]at this
   exact this
 obtain⟨bs,hbl,hrep⟩:=key
 have hc:=(h bs (by omega)).2 _ w [.slice a0 len0 cap0] (Qbdc w) rfl (fun j x u hj hu=>by
  cases j with
  |zero=>simp at hj hu;subst hj;subst hu;exact .c _ _ hrep
  |succ j=>simp at hj)
 refine hc.mono fun e w'=>?_
 rintro⟨v,x,H',g',rfl,rfl,hst,hv⟩
 have:v=.bool true:=by cases hv with|c _ _ h=>cases h;rfl
 subst this
 exact⟨rfl,hst.le.os,hst.le.tape,hst.le.output,hst.le.size,fun k hk=>(hst.le.per k (by simpa using hk)).2⟩
end Go.AE.Y

