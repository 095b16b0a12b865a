/- Part 5 of the proof: the engine, codes, walks and plain laws, each named where it stands. -/
import Derived.Test.YtdlbfkfpogdiiaaGreatDoorZD
import Derived.Below
import Derived.OpenShut
import Derived.ProofKit
import Derived.WideKeyElems2
open Nat (reduceEqDiff reduceAdd reduceLeDiff reduceLT)
set_option linter.unusedVariables false
set_option linter.unusedSimpArgs false
set_option maxRecDepth 4000
namespace Go.AE.Y
open Go.Proofs.Tryz
set_option maxHeartbeats 1000000 in
theorem Qago {R:Rdr}{gl k:Nat}{s:GS}{name:List UInt8}{params:Int}{H:Heap}{K:V→Heap→Prop}(hp0:0≤params)(hp3:params≤3)(hR:H R.l=R.o k)(hG:H gl=s.o R)(hne:R.l≠gl)(hs:s.ok k)(hF:FnsOk H R gl s)(hk:k+2001300≤2^30)
  (hK:∀(f:Fn) (s':GS) (H':Heap) (k':Nat),k<k'→k'≤k+2001300→Upd H H' [(R.l,R.o k'),(gl,s'.o R)]→s'.ok k'→s'.fns=s.fns→s'.ffl=s.ffl→f.params.length≤3→Qdu f.body→4 * k+Qh f.body≤4 * k'→K (.ag f.cells) H') :
  Qp prog Qm4 [.c (.ptr gl 0),.c (.str name),.c (.int .i64 params)] H K:=by
 obtain⟨np,rfl⟩:=Int.eq_ofNat_of_zero_le hp0
 refine Qw ?_
 refine Qb Qah Qaud ?_
 refine Qa ?_
 simp only[go_sem]
 intro x6 hx6 H1 h1
 have kn:=(Kn.start2 hR (R.o_ne k) hG (s.o_ne R) hne).al hx6 h1
 have hG1:=kn.e 1 rfl
 refine Qa ?_
 have etk:List.take np [[C.str [97]],[C.str [98]],[C.str [99]]]=Q2 (List.take np [[97],[98],[99]]):=by simp[Q2,List.map_take]
 simp only[go_sem,hG1,GS.o,etk]
 refine⟨⟨by omega,by omega⟩,fun H2 h2=>?_⟩
 have kn:Kn H H2 [(R.l,R.o k),(gl,GS.o { s with vars:=List.take np [[97],[98],[99]],vfl:=false } R)] [(x6,_)]:=kn.stE 1 rfl h2
 have hG2:=kn.e 1 rfl
 refine Qa ?_
 simp only[go_sem,hG2,GS.o]
 refine⟨Qu (by omega) (by omega),fun H3 h3=>?_⟩
 have kn:Kn H H3 [(R.l,R.o k),(gl,GS.o { s with vars:=List.take np [[97],[98],[99]],vfl:=false,next:=(np:Int)-1 } R)] [(x6,_)]:=kn.stE 1 rfl h3
 have hs1:GS.ok { s with vars:=List.take np [[97],[98],[99]],vfl:=false,next:=(np:Int)-1 } k:=
  ⟨by show -1≤(np:Int)-1;omega,by show (np:Int)-1≤_;omega,hs.l0,hs.l1,by show (List.take np _).length≤_;simp;omega,hs.f,hs.fn⟩
 have hvl:(List.take np [[97],[98],[99]]:List (List UInt8)).length≤3:=by simp;omega
 have hfn:GS.fns { s with vars:=List.take np [[97],[98],[99]],vfl:=false,next:=(np:Int)-1 }=s.fns:=rfl
 have hff:GS.ffl { s with vars:=List.take np [[97],[98],[99]],vfl:=false,next:=(np:Int)-1 }=s.ffl:=rfl
 have hvv:GS.vars { s with vars:=List.take np [[97],[98],[99]],vfl:=false,next:=(np:Int)-1 }=List.take np [[97],[98],[99]]:=rfl
 rw[←hvv]at hvl
 have hF1:FnsOk H R gl { s with vars:=List.take np [[97],[98],[99]],vfl:=false,next:=(np:Int)-1 }:=⟨hF.1,hF.2⟩
 generalize ({ s with vars:=List.take np [[97],[98],[99]],vfl:=false,next:=(np:Int)-1 }:GS)=s1 at *
 have hG3:=kn.e 1 rfl
 refine Qa ?_
 have hL:s1.vars.length≤LIM:=by simp only[LIM];omega
 simp only[go_sem,hG3,GS.o,Qq,Nat.zero_add,List.nil_append,hL]
 refine⟨.inl trivial,Qax _,fun y hy H4 h4=>?_⟩
 have kn:=kn.al hy h4
 simp only[go_sem,Q1p]
 intro x7 hx7 H5 h5
 have kn:=kn.al hx7 h5
 have hx75:=kn.l 2 rfl
 simp only[go_sem,Q1o,hx75]
 intro H6 h6
 have kn:Kn H H6 [(R.l,R.o k),(gl,s1.o R)] [(x6,_),(y,_),(x7,_)]:=kn.stL 2 rfl h6
 refine Qa ?_
 simp only[go_sem]
 refine Qa4p 3 _ _ _ _ _ _ 3 (by omega) (kn.e 0 rfl) (kn.e 1 rfl) hne hs1 (hF1.keep kn rfl rfl) (by omega) fun l c Lg s2 H7 k2 g1 g2 hu hgr hnew hs2 glf g3 g4 g5 g6 g7=>?_
 have kn0:=kn
 have kn:=kn.callEE 0 1 rfl rfl (by decide) hu (R.o_ne _) (GS.o_ne _ _)
 have kn:=kn0.addGr kn rfl rfl hgr hnew
 have hx77:=kn.l 2 rfl
 simp only[go_sem,Q1q,hx77]
 intro H8 h8
 have kn:Kn H H8 [(R.l,R.o k2),(gl,s2.o R)] ([(x6,.st [.str [],.sl true 1 [],.sl true 5 []]),(y,.vec 1 (Q2 s1.vars)),(x7,.st [.str name,.vsl y 1 0 s1.vars.length,c])]++Lg):=kn.stL 2 rfl h8
 have hG8:=kn.e 1 rfl
 refine Q4 ?_
 refine Qa ?_
 simp only[go_sem,hG8,GS.o]
 have hcow:=hgr.isOw
 have rest:∀(E1:Env) (hE6:lk 6 E1=V.c (C.ptr x6 0)) (hE7:lk 7 E1=V.c (C.ptr x7 0)) (l2:List St) (c2:C) (rws:List (List C)) (L2:List (Nat×Obj)) (s3:GS) (H9:Heap) (k3:Nat),k<k3→k3≤k+2001300→
   Kn H H9 [(R.l,R.o k3),(gl,s3.o R)] ([(x6,.st [.str [],.sl true 1 [],.sl true 5 []]),(y,.vec 1 (Q2 s1.vars)),(x7,.st [.str name,.vsl y 1 0 s1.vars.length,c2])]++L2)→Gr L2 5 rws c2→(∀H',FrzR H' (un H) rws (Qk l2))→
   s3.ok k3→s3.fns=s1.fns→s3.ffl=s1.ffl→Qdu l2→4 * k+Qh l2≤4 * k3→Q8 prog Qs6 (Qy Qvj (unK H K)) E1 H9:=by
  intro E1 hE6 hE7 l2 c2 rws L2 s3 H9 k3 e1 e2 kn hg2 hfr e3 e4 e5 e6 e7
  have hx69:=kn.l 0 rfl
  have hx79:=kn.l 2 rfl
  have hcow:=hg2.isOw
  refine Qa ?_
  simp only[go_sem,hE6,hE7,hx69,hx79,hcow]
  intro H10 h10
  have kn:=kn.stL 0 rfl h10
  have hx6a:=kn.l 0 rfl
  have hya:=kn.l 1 rfl
  refine Qi ?_
  simp only[go_sem,Qy,Q7,Qvj,List.mem_singleton,forall_eq,RS.op,hx6a,hcow]
  refine⟨(.ag (Fn.mk name s1.vars l2).cells),?_,hK _ s3 _ k3 e1 e2 kn.fin e3 (e4.trans hfn) (e5.trans hff) hvl e6 e7⟩
  refine FrzL.ag (.cons (Qg rfl) (.cons ?_ (.cons ?_ .nil)))
  ·exact Qahz (kn.un 1 rfl) hya (by simp[Q2]) (Qm8 (Qax _))
  ·exact hg2.frzR (B:=[_,_,_]) kn (hfr _)
 have tl:∀(b:Bool) (H9:Heap) (k3:Nat),k2≤k3→k3≤k2+1→(b=true→0<s2.left)→Kn H H9 [(R.l,R.o k3),(gl,s2.o R)] ([(x6,.st [.str [],.sl true 1 [],.sl true 5 []]),(y,.vec 1 (Q2 s1.vars)),(x7,.st [.str name,.vsl y 1 0 s1.vars.length,c])]++Lg)→
   Q8 prog (s_l3Gen_fn_7.seq Qs6) (Qy Qvj (unK H K)) [(0,V.c (C.ptr gl 0)),(6,V.c (C.ptr x6 0)),(7,V.c (C.ptr x7 0)),(42,.c (.bool b))] H9:=by
  intro b H9 k3 e1 e2 hb kn
  have hG9:=kn.e 1 rfl
  refine Qf (Qc rfl ?_ ?_)
  ·intro hc
   have hlp:=hb hc
   have hl1:=hs2.l1
   refine Qa ?_
   simp only[go_sem,hG9,GS.o]
   refine⟨Qu (by omega) (by omega),fun H10 h10=>?_⟩
   have kn:Kn H H10 [(R.l,R.o k3),(gl,GS.o { s2 with left:=s2.left-1 } R)] ([(x6,_),(y,_),(x7,_)]++Lg):=kn.stE 1 rfl h10
   have hs3:GS.ok { s2 with left:=s2.left-1 } k3:=⟨hs2.n0,by have:=hs2.n1;show s2.next≤_;omega,by show _≤s2.left-1;omega,by show s2.left-1≤100;omega,by have:=hs2.v;show s2.vars.length≤_;omega,hs2.f,hs2.fn⟩
   have hx7a:=kn.l 2 rfl
   refine Qeo ?_
   simp only[go_sem,hx7a,hcow]
   refine Qca 2 (by omega) (kn.e 0 rfl) (kn.e 1 rfl) hne hs3 (hF1.keep kn g3 g4) (by omega) fun x H11 k4 q1 q2 hu q3 q4=>?_
   have kn:=kn.callE 0 rfl hu (R.o_ne _)
   have hx7b:=kn.l 2 rfl
   simp only[go_sem,Q1s,hx7b,hcow,x.cells_len]
   refine kn.grow (B:=[_,_,_]) hgr (.mk' _ _ _ _) (by intro r hr;simp only[List.mem_singleton]at hr;subst hr;rfl) (by simp only[Qn,LIM,List.length_cons,List.length_nil];omega) fun y' H12 kn=>?_
   have hx7c:=kn.l 2 rfl
   simp only[go_sem,Q1r,hx7c]
   intro H13 h13
   have kn:=kn.stL 2 rfl h13
   refine rest _ (by simp[lk]) (by simp[lk]) (l++[St.mk 7 [] [x] [] []]) _ _ _ _ H13 k4 (by omega) (by omega) kn (.mk _ _ _ (by simp[Qn])) (fun H'=>?_) (hs3.mono (by omega)) g3 g4 (Qadu g6 ?_) ?_
   ·rw[←Qkg]
    refine .app (.same (Qan _)) ?_
    simp only[Qk,St.cells,Qv]
    repeat' first|exact FrzL.nil|exact FrzR.nil|exact Qg rfl|exact FrzL.same (Ex.noOw _)|exact FrzL.same (St.noOw _)|refine FrzL.cons ?_ ?_|refine FrzR.cons ?_ ?_|refine FrzR.sl ?_
   ·simp only[Qdu,St.ok,Qep];exact⟨⟨by simp,⟨q3,trivial⟩,trivial,trivial⟩,trivial⟩
   ·simp only[Qay,Qh,St.size,Ql];omega
  ·intro hc
   refine Qe ?_
   simp only[go_sem]
   exact rest _ (by simp[lk]) (by simp[lk]) l c _ Lg s2 H9 k3 (by omega) (by omega) kn hgr (fun H'=>.same (Qan _)) (hs2.mono (by omega)) g3 g4 g6 (by omega)
 refine⟨fun hb=>?_,fun hb=>?_⟩
 ·refine Qbt (kn.e 0 rfl) (by omega) fun v H9 hv hu=>?_
  have kn:=kn.callE 0 rfl hu (R.o_ne _)
  simp only[go_sem,Qn0,hb]
  exact tl _ H9 (k2+1) (by omega) (by omega) (fun _=>by simpa using hb) kn
 ·simp only[go_sem,Qn0,hb]
  exact tl false H8 k2 (by omega) (by omega) (fun h=>by simp at h) kn
end Go.AE.Y

namespace Go.AE.Y
open Go.Proofs.Tryz
structure PrOk (l:List Fn):Prop where
 pos:0<l.length
 par:∀f∈l,f.params.length≤3
 ok:∀f∈l,Qdu f.body
 size:Qo l≤2^34
 len:l.length≤4
end Go.AE.Y
namespace Go.AE
open Go.AE.Y
open Go.Proofs.Tryz
theorem Kn.perm4 {H0 H:Heap}{E:List (Nat×Obj)}{a b c d:Nat×Obj}(kn:Kn H0 H E [a,b,c,d]):Kn H0 H E [a,b,d]:=
 Kn.drop (A:=[a,b,d]) (B:=[c]) (kn.perm (.cons _ (.cons _ (.swap _ _ _))))
end Go.AE
namespace Go.AE.Y
open Go.Proofs.Tryz
set_option maxHeartbeats 2000000 in
theorem Qass {R:Rdr}{k:Nat}{H:Heap}{K:V→Heap→Prop}(hR:H R.l=R.o k)(hk:k+7000000≤2^30)
  (hK:∀(l:List Fn) (H':Heap) (k':Nat),k<k'→k'≤k+7000000→Upd H H' [(R.l,R.o k')]→PrOk l→K (.ag [.sl false 3 (Qr l)]) H') :
  Qp prog Q0t [.c (.ptr R.l 0)] H K:=by
 refine Qw ?_
 refine Qb Qah Qa2n ?_
 refine Qa ?_
 simp only[go_sem]
 intro x2 hx2 H1 h1
 have kn:=(Kn.start1 hR (R.o_ne k)).al hx2 h1
 refine Qa ?_
 simp only[go_sem]
 refine Qrl (ns:=[14,20,8,26]) (kn.e 0 rfl) (by omega) (by simp) fun v H2 hv hu=>?_
 have kn:=kn.callE 0 rfl hu (R.o_ne _)
 simp only[go_sem,Qab8]
 intro gl hgl H3 h3
 have kn:Kn H H3 [(R.l,R.o (k+1))] [(x2,.st [.sl true 3 []]),(gl,GS.o ⟨[],(.sl true 3 [],[]),[],true,0,v⟩ R)]:=kn.al hgl h3
 have hv26:0≤v∧v≤26:=by simp at hv;omega
 simp only[go_sem,Qab7]
 have hne:R.l≠gl:=kn.ne 0 1 rfl rfl
 refine Q4 ?_
 refine Qa ?_
 simp only[go_sem]
 refine Qrl (ns:=[0,1,1,2]) (kn.e 0 rfl) (by omega) (by simp) fun cnt H4 hcnt hu=>?_
 have kn:=kn.callE 0 rfl hu (R.o_ne _)
 have hc2:0≤cnt∧cnt≤2:=by simp at hcnt;omega
 simp only[go_sem,Qab9]
 obtain⟨M,hM⟩:∃M:Nat,M=2001301:=⟨_,rfl⟩
 refine Qf (Qd (Q0 (fun n e1 H1=>∃(j k4:Nat) (s:GS),n=cnt.toNat-j∧(j:Int)≤cnt∧s.fns.length=j∧k+2≤k4∧k4≤k+2+M * j∧s.ok k4∧(∀f∈s.fns,Qdu f.body)∧4 * k+Qo s.fns≤4 * k4∧
   Gr s.ffl.2 3 (Qr s.fns) s.ffl.1∧Kn H H1 [(R.l,R.o k4)] ([(x2,.st [.sl true 3 []]),(gl,s.o R)]++s.ffl.2)∧
   e1=[(0,.c (.ptr R.l 0)),(2,.c (.ptr x2 0)),(3,.c (.ptr gl 0)),(4,.c (.int .i64 (cnt-j)))]) cnt.toNat ?_ ?_))
 ·refine⟨0,k+2,⟨[],(.sl true 3 [],[]),[],true,0,v⟩,by omega,by omega,rfl,by omega,by omega,⟨?_,?_,?_,?_,by simp,by simp,by simp⟩,by simp,by simp only[Qo];omega,.nil 3,kn,by simp⟩
  ·show -1≤(0:Int);omega
  ·show (0:Int)≤_;omega
  ·show _≤v;omega
  ·show v≤100;omega
 ·rintro n e1 H1 ⟨j,k4,s,hn,hj,hfl,hk4,hk4',hs,hfok,hsz,hgr,kn,rfl⟩
  have hMj:M * j≤M * 2:=Nat.mul_le_mul_left _ (by omega)
  have hM1:M * (j+1)=M * j+M:=Nat.mul_succ _ _
  have hG1:=kn.l 1 rfl
  have hfow:=hgr.isOw
  have hflen:=hgr.lenC
  rw[Qm]at hflen
  refine Q4 ?_
  refine Qa ?_
  simp only[go_sem]
  refine Qf (Qc rfl ?_ ?_)
  ·intro hc
   have hi:(j:Int)<cnt:=by simp at hc;omega
   refine Qe ?_
   simp only[go_sem]
   refine Qf (Qd ?_)
   have hfok':=(hgr.okSl (B:=[_,_]) kn)
   have eg:List.getD [[C.str [102]],[C.str [103]],[C.str [104]]] s.fns.length []=[.str (List.getD [[102],[103],[104]] s.fns.length [])]:=Qaw [[102],[103],[104]] _ (by simp;omega)
   have hl3:s.fns.length<3:=by omega
   refine Qaz ?_
   simp only[go_sem,hG1,GS.o,hfow,hflen,eq_true hfok',eg,hl3]
   refine Qbt (kn.e 0 rfl) (by omega) fun p H2 hp hu=>?_
   have kn:Kn H H2 [(R.l,R.o (k4+1))] ([(x2,.st [.sl true 3 []]),(gl,s.o R)]++s.ffl.2):=kn.callE 0 rfl hu (R.o_ne _)
   rw[if_neg (by omega)]at hp
   have hG2:=kn.l 1 rfl
   have hfok2:=(hgr.okSl (B:=[_,_]) kn)
   simp only[go_sem,Qacc,hG2,GS.o,hfow,hflen,eq_true hfok2,eg,hl3]
   have hF:FnsOk H2 R gl s:=⟨hgr,fun q hq=>by
    have h1:=kn.get q (List.mem_append_right _ (List.mem_append_right _ hq))
    refine⟨h1.1,fun hh=>?_,fun hh=>?_⟩
    ·exact kn.usedE 0 rfl (hh▸kn.loc q (List.mem_append_right _ hq))
    ·have:=kn.dL
     rw[List.map_append]at this
     exact (List.nodup_append.1 this).2.2 gl (by simp) q.1 (Qbi hq) hh.symm⟩
   refine Qago hp.1 (by omega) (kn.e 0 rfl) (kn.l 1 rfl) hne (hs.mono (Nat.le_succ k4)) hF (by omega) fun f s2 H5 k5 g1 g2 hu hs2 g3 g4 g5 g6 g7=>?_
   have kn:=kn.callEL 0 1 rfl rfl hu (R.o_ne _) (GS.o_ne _ _)
   have kn:Kn H H5 [(R.l,R.o k5)] ([(x2,.st [.sl true 3 []]),(gl,s2.o R)]++s.ffl.2):=kn
   simp only[go_sem,Qacb]
   intro x5 hx5 H6 h6
   have kn:=kn.al hx5 h6
   have kn:=kn.perm (L':=[(x2,_),(gl,_),(x5,_)]++s.ffl.2) (by
    simp only[List.cons_append,List.nil_append]
    exact .cons _ (.cons _ List.perm_append_comm))
   have hG6:=kn.l 1 rfl
   have hx56:=kn.l 2 rfl
   have hfok6:=(hgr.okSl (B:=[_,_,_]) kn)
   simp only[go_sem,Qaca,hG6,hx56,GS.o,g4,hfow,hflen,eq_true hfok6,eg,hl3,Fn.cells]
   intro H7 h7
   have kn:Kn H H7 [(R.l,R.o k5)] ([(x2,_),(gl,_),(x5,_)]++s.ffl.2):=kn.stL 2 rfl h7
   have hG7:=kn.l 1 rfl
   have hx57:=kn.l 2 rfl
   refine Qeo ?_
   simp only[go_sem,hG7,hx57,GS.o,g4,hfow]
   refine kn.grow (B:=[_,_,_]) (new:=[f.cells]) hgr (.mk' _ _ _ _) (by simp[f.noOw]) (by simp only[Qm,LIM,List.length_cons,List.length_nil];omega) fun z H8 kn=>?_
   have hG8:=kn.l 1 rfl
   simp only[go_sem,Qacd,hG8,GS.o]
   intro H9 h9
   have kn:=kn.stL 1 rfl h9
   obtain⟨s9,hs9⟩:∃s9:GS,s9=GS.mk (s.fns++[f]) (C.vsl z 3 0 ((Qr s.fns).length+1),[(z,Obj.vec 3 (Qr s.fns++[f.cells]))]) s2.vars s2.vfl s2.next s2.left:=⟨_,rfl⟩
   have ho9:s9.o R=.st [C.ptr R.l 0,C.vsl z 3 0 ((Qr s.fns).length+1),C.sl s2.vfl 1 (Q2 s2.vars),C.int IntKind.i64 s2.next,C.int IntKind.i64 s2.left]:=by rw[hs9];rfl
   rw[←ho9]at kn
   have kn:Kn H H9 [(R.l,R.o k5)] [(x2,_),(gl,s9.o R),(x5,_),(z,_)]:=kn
   have kn:=kn.perm4
   refine Qs ?_
   simp only[go_sem,X.next]
   have hkb:k5≤k+2+M * (j+1):=by rw[hM1];omega
   refine⟨Qu (by omega) (by omega),cnt.toNat-(j+1),by omega,j+1,k5,s9,rfl,by omega,by simp[hs9,hfl],by omega,hkb,?_,?_,?_,?_,by rw[hs9]at kn⊢;exact kn,?_⟩
   ·subst hs9;refine⟨hs2.n0,hs2.n1,hs2.l0,hs2.l1,hs2.v,fun f' hf'=>?_,by simp;omega⟩
    rcases List.mem_append.1 hf' with h|h
    ·exact hs.f f' h
    ·simp at h;subst h;exact g5
   ·subst hs9;intro f' hf'
    rcases List.mem_append.1 hf' with h|h
    ·exact hfok f' h
    ·simp at h;subst h;exact g6
   ·subst hs9;simp only[Qkq,Qo];omega
   ·subst hs9;show Gr [(z,Obj.vec 3 (Qr s.fns++[f.cells]))] 3 (Qr (s.fns++[f])) _;rw[Qlr];exact .mk _ _ _ (by simp[Qm])
   ·have:cnt-((j+1:Nat):Int)=cnt-j-1:=by omega
    rw[this]
  ·intro hc
   refine Q1 ?_
   simp only[go_sem,X.next]
   have hkE:k4≤k+4002604:=by omega
   refine Qa ?_
   simp only[go_sem]
   refine Qrl (ns:=[0,1,2,1]) (kn.e 0 rfl) (by omega) (by simp) fun p H2 hp hu=>?_
   have kn:Kn H H2 [(R.l,R.o (k4+1))] ([(x2,.st [.sl true 3 []]),(gl,s.o R)]++s.ffl.2):=kn.callE 0 rfl hu (R.o_ne _)
   have hp2:0≤p∧p≤3:=by simp at hp;omega
   simp only[go_sem,Q5w]
   have hF:FnsOk H2 R gl s:=⟨hgr,fun q hq=>by
    have h1:=kn.get q (List.mem_append_right _ (List.mem_append_right _ hq))
    refine⟨h1.1,fun hh=>?_,fun hh=>?_⟩
    ·exact kn.usedE 0 rfl (hh▸kn.loc q (List.mem_append_right _ hq))
    ·have:=kn.dL
     rw[List.map_append]at this
     exact (List.nodup_append.1 this).2.2 gl (by simp) q.1 (Qbi hq) hh.symm⟩
   refine Qago hp2.1 hp2.2 (kn.e 0 rfl) (kn.l 1 rfl) hne (hs.mono (Nat.le_succ k4)) hF (by omega) fun f s2 H5 k5 g1 g2 hu hs2 g3 g4 g5 g6 g7=>?_
   have kn:=kn.callEL 0 1 rfl rfl hu (R.o_ne _) (GS.o_ne _ _)
   have kn:Kn H H5 [(R.l,R.o k5)] ([(x2,.st [.sl true 3 []]),(gl,s2.o R)]++s.ffl.2):=kn
   simp only[go_sem,Q5v]
   intro x6 hx6 H6 h6
   have kn:=kn.al hx6 h6
   have kn:=kn.perm (L':=[(x2,_),(gl,_),(x6,_)]++s.ffl.2) (by
    simp only[List.cons_append,List.nil_append]
    exact .cons _ (.cons _ List.perm_append_comm))
   have hx66:=kn.l 2 rfl
   simp only[go_sem,Q5u,hx66,Fn.cells]
   intro H7 h7
   have kn:Kn H H7 [(R.l,R.o k5)] ([(x2,_),(gl,_),(x6,_)]++s.ffl.2):=kn.stL 2 rfl h7
   have hG7:=kn.l 1 rfl
   have hx67:=kn.l 2 rfl
   have hfok7:=hgr.okSl (B:=[_,_,_]) kn
   have hrows7:=hgr.rowsOf (B:=[_,_,_]) kn
   have hesz:=hgr.elemSz
   have hL:s.fns.length≤LIM:=by simp only[LIM];omega
   refine Qaz ?_
   simp only[go_sem,hG7,hx67,GS.o,g4,hfow,hflen,eq_true hfok7,hrows7,hesz,hL,Nat.zero_add]
   refine⟨.inl trivial,Qbn _,fun y hy H8 h8=>?_⟩
   have kn:=kn.al hy h8
   have kn:=kn.perm (L':=([(x2,_),(gl,_),(x6,_)]++[(y,_)])++s.ffl.2) Qa7r
   have kn:=kn.drop
   have hx68:=kn.l 2 rfl
   have kn:Kn H H8 [(R.l,R.o k5)] [(x2,_),(gl,_),(x6,_),(y,_)]:=kn
   have hy8:=kn.l 3 rfl
   have etk:List.take s.fns.length (Qr s.fns)=Qr s.fns:=List.take_of_length_le (by rw[Qm];omega)
   simp only[go_sem,Q5z,hx68,hy8,Qm,etk]
   refine⟨by omega,by simp only[LIM];omega,fun z hz H9 h9=>?_⟩
   have kn:Kn H H9 [(R.l,R.o k5)] [(x2,_),(gl,_),(x6,_),(z,.vec 3 (Qr s.fns++[f.cells]))]:=kn.ap 3 rfl hz h9
   simp only[go_sem,Q5y]
   intro x7 hx7 H10 h10
   have kn:=kn.al hx7 h10
   have hG10:=kn.l 1 rfl
   have hx6a:=kn.l 2 rfl
   have hx7a:=kn.l 4 rfl
   have kn:Kn H H10 [(R.l,R.o k5)] [(x2,_),(gl,_),(x6,_),(z,_),(x7,_)]:=kn
   simp only[go_sem,Q5x,hG10,hx6a,hx7a,GS.o,g4,hfow]
   intro H11 h11
   have kn:=kn.stL 4 rfl h11
   have kn:Kn H H11 [(R.l,R.o k5)] ([(x2,.st [.sl true 3 []]),(x7,.st [.vsl z 3 0 (s.fns.length+1)])]++[(z,.vec 3 (Qr s.fns++[f.cells]))]):=
    (kn.perm (L':=([(x2,_),(x7,_)]++[(z,_)])++[(gl,_),(x6,_)]) (by
     simp only[List.set,List.cons_append,List.nil_append]
     refine .cons _ ?_
     refine .trans (.cons _ (.cons _ (.swap _ _ _))) ?_
     refine .trans (.cons _ (.swap _ _ _)) ?_
     refine .trans (.swap _ _ _) ?_
     refine .cons _ ?_
     refine .trans (.cons _ (.swap _ _ _)) ?_
     exact .swap _ _ _)).drop
   have hz11:=kn.l 2 rfl
   have hx711:=kn.l 1 rfl
   obtain⟨hfz,kn⟩:=kn.freeze 1 rfl (og':=.st [.sl false 3 (Qr (s.fns++[f]))]) (FrzKL.st (.cons rfl (by
    rw[←Qlr]
    exact Qahz (by simp) hz11 (by simp[Qm]) (Qm8 (noOw_app (Qbn _) (by simp[f.noOw])))) .nil)) (by simp)
   refine Q4 ?_
   refine c_gh (Qvg _ (fun t=>?_) hfz) (e':=[(2,V.c (C.ptr x2 0)),(7,V.c (C.ptr x7 0))]) ?_
   ·simp only[lk]
    split
    ·exact .c _ _ (.same _ rfl)
    ·split
     ·exact .c _ _ (.same _ rfl)
     ·exact .unk _
   generalize ((H11.frz fun m=>m == z).set x7 (Obj.st [C.sl false 3 (Qr (s.fns++[f]))]))=H12 at *
   have hx7b:=kn.l 1 rfl
   have hx2b:=kn.l 0 rfl
   have hpr:Qo (s.fns++[f])≤2^34:=by rw[Qkq];simp only[Qo];omega
   refine Qa ?_
   simp only[go_sem,hx7b]
   refine Qadz (by omega) fun b=>?_
   simp only[go_sem,Q50]
   refine Qf (Qc rfl ?_ ?_)
   ·intro hc
    refine Qa ?_
    simp only[go_sem,hx2b]
    intro H13 h13
    have kn:=kn.stL 0 rfl h13
    have hx2c:=kn.l 0 rfl
    refine Qi ?_
    simp only[go_sem,Qy,Q7,Qain,List.mem_singleton,forall_eq,RS.op,hx2c]
    refine⟨.ag [.sl false 3 (Qr [Fn.mk [109] [] [St.mk 3 [] [Ex.mk 1 1 [] []] [] []]])],FrzL.ag ?_,hK _ _ k5 (by omega) (by omega) kn.fin ⟨by simp,by simp,?_,?_,by simp⟩⟩
    ·simp only[Qr,List.map_cons,List.map_nil,Fn.cells,Qawm,Qk,St.cells,Qv,Ex.cells]
     repeat' first|exact FrzL.nil|exact FrzR.nil|exact Qg rfl|exact FrzL.same (Ex.noOw _)|exact FrzL.same (St.noOw _)|refine FrzL.cons ?_ ?_|refine FrzR.cons ?_ ?_|refine FrzR.sl ?_
    ·intro f hf
     simp at hf;subst hf
     simp[Qdu,St.ok,Qep,Ex.ok]
    ·simp[Qo,Qh,St.size,Ql,Ex.size]
   ·intro hc
    refine Qe ?_
    simp only[go_sem]
    refine Qa ?_
    simp only[go_sem,hx2b,hx7b]
    intro H13 h13
    have kn:=kn.stL 0 rfl h13
    have hx2c:=kn.l 0 rfl
    refine Qi ?_
    simp only[go_sem,Qy,Q7,Qain,List.mem_singleton,forall_eq,RS.op,hx2c]
    refine⟨.ag [.sl false 3 (Qr (s.fns++[f]))],FrzL.ag (.cons (Qg rfl) .nil),hK _ _ k5 (by omega) (by omega) kn.fin ⟨by simp,?_,?_,hpr,by simp;omega⟩⟩
    ·intro f' hf'
     rcases List.mem_append.1 hf' with h|h
     ·exact hs.f f' h
     ·simp at h;subst h;exact g5
    ·intro f' hf'
     rcases List.mem_append.1 hf' with h|h
     ·exact hfok f' h
     ·simp at h;subst h;exact g6
end Go.AE.Y

namespace Go.AE
variable {H0 H:Heap}{E B Lg:List (Nat×Obj)}{sz:Nat}{rows:List (List C)}{c:C}
def Gt (Lg:List (Nat×Obj))(sz:Nat)(rows:List (List C))(c:C):Prop:=(c=.sl true sz rows∧Lg=[])∨Gr Lg sz rows c
theorem Gt.isOw (h:Gt Lg sz rows c):c.isOw=false:=by
 rcases h with ⟨rfl,_⟩|h
 ·rfl
 ·exact h.isOw
theorem Gt.frz (h:Gt Lg sz rows c)(kn:Kn H0 H E (B++Lg))(hr:∀r∈rows,noOw r=true):FrzC H (un H0) c (.sl false sz rows):=by
 rcases h with ⟨rfl,_⟩|h
 ·exact (Y.FrzR.same hr).sl
 ·exact h.frz kn hr
theorem Kn.growT {K:V→Heap→Prop}{new:List (List C)}{b:C}(kn:Kn H0 H E (B++Lg))(hc:Gt Lg sz rows c)(hb:Slc H sz new b)(hn:new≠[])
  (h0:∀r∈rows,noOw r=true) (h1:∀r∈new,noOw r=true) (h2:rows.length+new.length≤LIM)
  (h:∀t Lg' H',Gr Lg' sz (rows++new) t→t.isOw=false→Kn H0 H' E (B++Lg')→K (.c t) H'):appQ H sz c b K:=by
 rcases hc with ⟨rfl,rfl⟩|hc
 ·refine⟨hb.ok,hb.sz,rfl,.inr (by rw[hb.rows];exact hn),?_,by rw[hb.len];exact h2,fun l hl H' hH'=>?_⟩
  ·rw[hb.rows]
   intro r hr
   rcases List.mem_append.1 hr with hr|hr
   ·exact h0 r hr
   ·exact h1 r hr
  ·rw[List.append_nil]at kn
   rw[hb.len]
   refine h _ [(l,.vec sz (rows++new))] H' (.mk l sz _ (by simp)) rfl ?_
   have:=kn.al hl hH'
   rwa [hb.rows]at this
 ·exact kn.growR hc hb h1 h2 h
theorem Kn.addNewE {H1:Heap}{L N:List (Nat×Obj)}(kn:Kn H0 H E L)(i:Nat){l:Nat}{o o':Obj}(h:E[i]? = some (l,o))(k2:Kn H H1 [(l,o')] N):Kn H0 H1 (E.set i (l,o')) (L++N):=by
 have hne:∀p∈E++L,H p.1≠.none:=fun p hp=>by obtain⟨a,b⟩:=kn.get p hp;rw[a];exact b
 have hl:H1 l=o'∧o'≠.none:=k2.get (l,o') (by simp)
 have hu:Upd H H1 [(l,o')]:=⟨fun p hp=>by simp at hp;subst hp;exact hl.1,fun m hm hx=>k2.chg m hm hx⟩
 have k3:=kn.callE i h hu hl.2
 refine⟨fun p hp=>?_,k3.ext,fun p hp=>?_,k3.dE,?_,k3.chg⟩
 ·rw[←List.append_assoc]at hp
  rcases List.mem_append.1 hp with hp|hp
  ·exact k3.get p hp
  ·exact k2.get p (List.mem_append_right _ hp)
 ·rcases List.mem_append.1 hp with hp|hp
  ·exact kn.loc p hp
  ·exact (kn.newFree (k2.loc p hp)).1
 ·rw[List.map_append]
  refine List.nodup_append.2 ⟨kn.dL,k2.dL,fun a ha b hb hab=>?_⟩
  obtain⟨p,hp,rfl⟩:=List.mem_map.1 ha
  obtain⟨q,hq,rfl⟩:=List.mem_map.1 hb
  exact hne p (List.mem_append_right _ hp) (by rw[hab];exact k2.loc q hq)
end Go.AE
namespace Go.AE.Y
open Go.Proofs.Tryz
def Ex.ct (x:Ex):List C:=[.int .i64 x.op,.int .i64 x.n,.str x.name,.sl true 4 (Qv x.kids)]
theorem Ex.frzT {H:Heap}{S:Nat→Bool}(x:Ex):FrzV H S (.ag [.int .i64 x.op,.int .i64 x.n,.str x.name,.sl true 4 (Qv x.kids)]) (.ag x.ct):=
 (FrzL.cons (.same _ rfl) (.cons (.same _ rfl) (.cons (.same _ rfl) (.cons (.same _ rfl) .nil)))).ag
theorem Qax6 {R:Rdr}{k:Nat}{fl:Bool}{ss:List (List UInt8)}{H:Heap}{K:V→Heap→Prop}(hH:H R.l=R.o k)(hk:k+2≤2^40)
  (hK:∀(x:Ex) (H':Heap) (k':Nat),k<k'→k'≤k+2→Upd H H' [(R.l,R.o k')]→x.ok→x.size=1→K (.ag x.ct) H') :
  Qp prog Qrc [.c (.ptr R.l 0),.c (.sl fl 1 (Q2 ss))] H K:=by
 refine Qw ?_
 refine Qb Qah Qas0 ?_
 refine Qa ?_
 simp only[go_sem]
 intro x hx H1 h1
 have kn:=(Kn.start1 hH (R.o_ne k)).al hx h1
 refine Q4 ?_
 refine Qa ?_
 simp only[go_sem,Qq]
 intro hl
 have rest:∀(b:Bool) (H2:Heap) (k2:Nat),k≤k2→k2≤k+1→Kn H H2 [(R.l,R.o k2)] [(x,.st [.int .i64 0,.int .i64 0,.str [],.sl true 4 []])]→(b=false→0<ss.length)→
   Q8 prog (s_l2Leaf_2.seq Q3v) (Qy Qnb (unK H K)) [(0,V.c (C.ptr R.l 0)),(1,V.c (C.sl fl 1 (Q2 ss))),(4,V.c (C.ptr x 0)),(12,V.c (.bool b))] H2:=by
  intro b H2 k2 hk1 hk2 kn hb
  refine Qf (Qc rfl ?_ ?_)
  ·intro hb'
   refine Qa ?_
   simp only[go_sem]
   refine Qrl (ns:=[0,1,2,3,5,7,15,16,100,255]) (kn.e 0 rfl) (by omega) (by simp) fun v H3 hv hu=>?_
   have kn:=kn.callE 0 rfl hu (R.o_ne _)
   have hx3:=kn.l 0 rfl
   simp only[go_sem,Qyu,hx3]
   intro H4 h4
   have kn:=kn.stL 0 rfl h4
   have hx4:=kn.l 0 rfl
   refine Qi ?_
   simp only[go_sem,Qy,Q7,Qnb,List.mem_singleton,forall_eq,RS.op,hx4]
   refine⟨_,(Ex.mk 1 v [] []).frzT,hK _ _ (k2+1) (by omega) (by omega) kn.fin ?_ ?_⟩
   ·simp[Ex.ok,Qep]
   ·simp[Ex.size,Ql]
  ·intro hb'
   refine Qe ?_
   simp only[go_sem]
   refine Qa ?_
   simp only[go_sem]
   refine of_c (kn.e 0 rfl) (by omega) (hb hb') fun v H3 hv hu=>?_
   have kn:=kn.callE 0 rfl hu (R.o_ne _)
   have hx3:=kn.l 0 rfl
   simp only[go_sem,Qyv,hx3]
   intro H4 h4
   have kn:=kn.stL 0 rfl h4
   have hx4:=kn.l 0 rfl
   refine Qi ?_
   simp only[go_sem,Qy,Q7,Qnb,List.mem_singleton,forall_eq,RS.op,hx4]
   refine⟨_,(Ex.mk 2 0 v []).frzT,hK _ _ (k2+1) (by omega) (by omega) kn.fin ?_ ?_⟩
   ·simp[Ex.ok,Qep]
   ·simp[Ex.size,Ql]
 refine⟨fun hb=>?_,fun hb=>?_⟩
 ·refine Qbt (kn.e 0 rfl) (by omega) fun v H2 hv hu=>?_
  have kn:=kn.callE 0 rfl hu (R.o_ne _)
  simp only[go_sem,Qj8]
  refine rest _ H2 (k+1) (by omega) (by omega) kn ?_
  intro h
  have:¬ss.length=0:=by simpa using hb
  omega
 ·have hb2:decide ((ss.length:Int)=0)=true:=by simpa using hb
  simp only[go_sem,Qj8,hb2]
  exact rest true H1 k (by omega) (by omega) kn (fun h=>by simp at h)
theorem Qax2 {R : Rdr} {fl : Bool} {ss : List (List UInt8)} (d : Nat) {k : Nat} {H : Heap} {K : V → Heap → Prop} (deep : Int) (hd : deep ≤ d) (hH : H R.l = R.o k) (hk : k + 6 * 2^d ≤ 2^40)
    (hK : ∀ (x : Ex) (H' : Heap) (k' : Nat), k < k' → k' + 3 ≤ k + 6 * 2^d → Upd H H' [(R.l, R.o k')] → x.ok → k + x.size ≤ k' → K (.ag x.ct) H') :
    Qp prog Qc0 [.c (.ptr R.l 0), .c (.sl fl 1 (Q2 ss)), .c (.int .i64 deep)] H K := by
  have hp1 : 1 ≤ 2^d := Nat.one_le_two_pow
  have hp0 : d < 2^d := Nat.lt_two_pow_self
  refine Qw ?_
  refine Qb Qah Qasx ?_
  refine Qa ?_
  simp only [go_sem]
  intro x hx H1 h1
  have kn := (Kn.start1 hH (R.o_ne k)).al hx h1
  refine Q4 ?_
  refine Qa ?_
  simp only [go_sem]
  have rest : ∀ (b : Bool) (H2 : Heap) (k2 : Nat), k ≤ k2 → k2 ≤ k + 1 → Kn H H2 [(R.l, R.o k2)] [(x, .st [.int .i64 0, .int .i64 0, .str [], .sl true 4 []])] → (b = false → 2 ≤ deep) →
      Q8 prog (s_l2Expr_2.seq Qyh) (Qy Qna (unK H K))
       [(0, V.c (C.ptr R.l 0)), (1, V.c (C.sl fl 1 (Q2 ss))), (2, .c (.int .i64 deep)), (6, V.c (C.ptr x 0)), (14, V.c (.bool b))] H2 := by
    intro b H2 k2 hk1 hk2 kn hb
    have fin : ∀ (op n : Int) (name : List UInt8) (kids : List Ex) (H3 : Heap) (k3 : Nat) (o : Obj), k < k3 → k3 + 3 ≤ k + 6 * 2^d → Kn H H3 [(R.l, R.o k3)] [(x, .st [.int .i64 op, .int .i64 n, .str name, .sl true 4 (Qv kids)])] →
        (op = 10 → kids.length = 2) → Qep kids → k + 1 + Ql kids ≤ k3 →
        Q7 Qna [(6, V.c (C.ptr x 0))] H3 (unK H K) := by
      intro op n name kids H3 k3 o g1 g2 kn g3 g4 g5
      have hx3 := kn.l 0 rfl
      simp only [go_sem, Q7, Qna, List.mem_singleton, forall_eq, RS.op, hx3]
      refine ⟨_, (Ex.mk op n name kids).frzT, hK _ _ k3 g1 g2 kn.fin ?_ ?_⟩
      · simp only [Ex.ok]; exact ⟨g3, g4⟩
      · simp only [Ex.size]; omega
    refine Qf (Qc rfl ?_ ?_)
    · intro hb'
      refine Qa ?_
      simp only [go_sem]
      refine Qax6 (kn.e 0 rfl) (by omega) fun y H3 k3 g1 g2 hu hok hsz => ?_
      have kn := kn.callE 0 rfl hu (R.o_ne _)
      have hx3 := kn.l 0 rfl
      simp only [go_sem, Qyi, hx3, Ex.ct]
      intro H4 h4
      have kn := kn.stL 0 rfl h4
      refine Qi ?_
      simp only [go_sem, Qy]
      refine fin _ _ _ _ _ k3 .none (by omega) (by omega) kn (Ex.ok_and hok) (Ex.ok_kids hok) ?_
      have := y.size_kids; omega
    · intro hb'
      have hdp := hb hb'
      have hp : 2^d = 2 * 2^(d-1) := by rw [← Nat.pow_succ']; congr 1; omega
      have hp2 : 1 ≤ 2^(d-1) := Nat.one_le_two_pow
      have ihd := fun {k H K} => @Q01 R fl ss (d-1) k H K
      generalize 2^(d-1) = e at *
      refine Qe ?_
      simp only [go_sem]
      refine Q4 ?_
      refine Qa ?_
      simp only [go_sem]
      refine Qbt (kn.e 0 rfl) (by omega) fun v H3 hv hu => ?_
      have kn := kn.callE 0 rfl hu (R.o_ne _)
      simp only [go_sem, Qyj]
      refine Qf (Qc rfl ?_ ?_)
      · intro hc
        refine Qa ?_
        simp only [go_sem]
        refine Qrl (ns := [11, 12, 11]) (kn.e 0 rfl) (by omega) (by simp) fun op H4 hop hu => ?_
        have kn := kn.callE 0 rfl hu (R.o_ne _)
        simp only [go_sem, Qyl]
        refine ⟨Qu (by omega) (by omega), ?_⟩
        refine ihd (deep - 1) (by omega) (kn.e 0 rfl) (by omega) fun y H5 k5 g1 g2 hu hok hsz => ?_
        have kn := kn.callE 0 rfl hu (R.o_ne _)
        have hx5 := kn.l 0 rfl
        simp only [go_sem, Qyk, hx5, y.cells_len]
        intro H6 h6
        have kn := kn.stL 0 rfl h6
        refine Qi ?_
        simp only [go_sem, Qy]
        refine fin op 0 [] [y] _ k5 .none (by omega) (by omega) kn (fun h => ?_) ⟨hok, trivial⟩ ?_
        · subst h; simp at hop
        · simp only [Ql]; omega
      · intro hc
        refine Qe ?_
        simp only [go_sem]
        refine Qa ?_
        simp only [go_sem]
        refine Qrl (ns := [3, 3, 4, 5, 6, 7, 8, 9, 10]) (kn.e 0 rfl) (by omega) (by simp) fun op H4 hop hu => ?_
        have kn := kn.callE 0 rfl hu (R.o_ne _)
        simp only [go_sem, Qym]
        refine Qa ?_
        simp only [go_sem]
        refine ⟨Qu (by omega) (by omega), ?_⟩
        refine ihd (deep - 1) (by omega) (kn.e 0 rfl) (by omega) fun y H5 k5 g1 g2 hu hok hsz => ?_
        have kn := kn.callE 0 rfl hu (R.o_ne _)
        simp only [go_sem, Qyo]
        refine ⟨Qu (by omega) (by omega), ?_⟩
        refine ihd (deep - 1) (by omega) (kn.e 0 rfl) (by omega) fun z H6 k6 g3 g4 hu hok2 hsz2 => ?_
        have kn := kn.callE 0 rfl hu (R.o_ne _)
        have hx5 := kn.l 0 rfl
        simp only [go_sem, Qyn, hx5, y.cells_len, z.cells_len]
        intro H7 h7
        have kn := kn.stL 0 rfl h7
        refine Qi ?_
        simp only [go_sem, Qy]
        refine fin op 0 [] [y, z] _ k6 .none (by omega) (by omega) kn (fun h => rfl) ⟨hok, hok2, trivial⟩ ?_
        simp only [Ql]; omega
  refine ⟨fun hb => ?_, fun hb => ?_⟩
  · refine Qbt (kn.e 0 rfl) (by omega) fun v H2 hv hu => ?_
    have kn := kn.callE 0 rfl hu (R.o_ne _)
    simp only [go_sem, Qj5]
    refine rest _ H2 (k + 1) (by omega) (by omega) kn ?_
    intro h
    have : ¬ deep < 2 := by simpa using hb
    omega
  · have hb2 : decide (deep < 2) = true := by simpa using hb
    simp only [go_sem, Qj5, hb2]
    exact rest true H1 k (by omega) (by omega) kn (fun h => by simp at h)
attribute [local go_sem] cond_true cond_false Bool.not_true Bool.not_false
variable {H H0 F:Heap}{K:V→Heap→Prop}{E B Lg:List (Nat×Obj)}
set_option maxHeartbeats 2000000 in
theorem Qah2 {R:Rdr}{k:Nat}{deep:Int}(hd:deep≤7)(hH:H R.l=R.o k)(hk:k+2000≤2^38)
  (hK:∀(x:Ex) (t:C) (Lk:List (Nat×Obj)) (H':Heap) (k':Nat),k<k'→k'≤k+1000→Gt Lk 4 (Qv x.kids) t→Kn H H' [(R.l,R.o k')] Lk→x.size≤2000→K (.ag [.int .i64 x.op,.int .i64 x.n,.str x.name,t]) H') :
  Qp prog Qva [.c (.ptr R.l 0),.c (.int .i64 deep)] H K:=by
 refine Qb Qah Qa5y ?_
 refine Qa ?_
 simp only[go_sem]
 intro x4 hx4 H1 h1
 have kn:=(Kn.start1 hH (R.o_ne k)).al hx4 h1
 refine Qa ?_
 simp only[go_sem]
 refine Qax2 (ss:=[[97],[98],[120],[103,111]]) 7 deep (by omega) (kn.e 0 rfl) (by omega) fun x H2 k2 g1 g2 hu hok hsz=>?_
 have kn:=kn.callE 0 rfl hu (R.o_ne _)
 have hxz:=hsz
 simp only[go_sem,Qagz,Ex.ct]
 intro x5 hx5 H3 h3
 have kn:=kn.al hx5 h3
 have g5:=kn.l 1 rfl
 simp only[go_sem,Qagy,g5]
 intro H4 h4
 have kn:=kn.stL 1 rfl h4
 refine Q4 ?_
 refine Qa ?_
 simp only[go_sem]
 refine Qbt (kn.e 0 rfl) (by omega) fun v H5 hv hu=>?_
 have kn:=kn.callE 0 rfl hu (R.o_ne _)
 have g5:=kn.l 1 rfl
 have g4:=kn.l 0 rfl
 simp only[go_sem,Qag0]
 refine Qf (Qc rfl ?_ ?_)
 ·intro hc
  refine Qa ?_
  simp only[go_sem,g5,g4]
  intro H6 h6
  have kn:=kn.stL 0 rfl h6
  have g4:=kn.l 0 rfl
  refine Qi ?_
  simp only[go_sem,AE.X.next,Qy,Q7,Qaik,List.mem_singleton,forall_eq,RS.op,g4]
  exact hK x _ [] _ (k2+1) (by omega) (by omega) (.inl ⟨rfl,rfl⟩) (Kn.drop (A:=[]) kn) (by omega)
 intro hc
 refine Qe ?_
 try simp only[go_sem]
 refine Qa ?_
 simp only[go_sem]
 refine of_c (ss:=[[102],[103],[97]]) (kn.e 0 rfl) (by omega) (by simp) fun nm H6 hv2 hu=>?_
 have kn:=kn.callE 0 rfl hu (R.o_ne _)
 simp only[go_sem,Qag2]
 intro x6 hx6 H7 h7
 have kn:=kn.al hx6 h7
 have g6:=kn.l 2 rfl
 simp only[go_sem,Qag1,g6]
 intro H8 h8
 have kn:=kn.stL 2 rfl h8
 refine Q4 ?_
 refine Qa ?_
 simp only[go_sem]
 refine Qbt (kn.e 0 rfl) (by omega) fun cnt H9 hcnt hu=>?_
 have kn:=kn.callE 0 rfl hu (R.o_ne _)
 rw[if_neg (by omega)]at hcnt
 obtain⟨cj,rfl⟩:=Int.eq_ofNat_of_zero_le hcnt.1
 simp only[go_sem,Qag3]
 refine Qf (Qd (Q0 (fun m e1 H1=>∃(j:Nat) (ks:List Ex) (Lk:List (Nat×Obj)) (t:C) (k3:Nat),m=j∧ks.length+j≤3∧k2+3≤k3∧k3+30 * j≤k2+103∧Gr Lk 4 (Qv ks) t∧Ql ks≤ks.length * 100∧
   Kn H H1 [(R.l,R.o k3)] ([(x4,exO 0 0 [] (.sl true 4 [])),(x5,exO x.op x.n x.name (.sl true 4 (Qv x.kids))),(x6,exO 13 0 nm t)]++Lk)∧
   e1=[(0,.c (.ptr R.l 0)),(4,.c (.ptr x4 0)),(5,.c (.ptr x5 0)),(6,.c (.ptr x6 0)),(7,.c (.int .i64 j))]) cj ?_ ?_))
 ·exact⟨cj,[],[],.sl true 4 [],k2+3,by omega,by simp;omega,by omega,by omega,.nil 4,by simp[Ql],kn,rfl⟩
 ·clear kn g6 g5 g4 h8 h7
  rintro m e1 H10 ⟨j,ks,Lk,t,k3,hm,hj,hk3,hk4,hgk,hks,kn,rfl⟩
  have hto:=hgk.isOw
  have g6:=kn.l 2 rfl
  refine Q4 ?_
  refine Qa ?_
  simp only[go_sem]
  refine Qf (Qc rfl ?_ ?_)
  ·intro hc2
   have hj0:0<j:=by simpa using hc2
   refine Qe ?_
   try simp only[go_sem]
   refine Qf (Qd ?_)
   refine Qeo ?_
   simp only[go_sem,g6,hto]
   refine Q01 (ss:=[[97],[98]]) 2 2 (by omega) (kn.e 0 rfl) (by omega) fun y H11 k4 g1 g2 hu hok2 hsz2=>?_
   have kn:=kn.callE 0 rfl hu (R.o_ne _)
   have g6:=kn.l 2 rfl
   simp only[go_sem,Qag5,g6,hto,y.cells_len]
   refine Kn.growR (B:=[_,_,_]) kn hgk (new:=[y.cells]) (.mk' _ true 4 _) (by simpa using y.noOw) (by simp only[Qj,List.length_cons,List.length_nil,LIM];omega) fun t' Lk' H12 hgk' hto' kn=>?_
   rw[Qd7]at hgk'
   have g6:=kn.l 2 rfl
   simp only[go_sem,Qag4,g6,hto']
   intro H13 h13
   have kn:=kn.stL 2 rfl h13
   try simp only[go_sem,AE.X.next]
   refine Qs ?_
   try simp only[go_sem,AE.X.next]
   refine⟨Qu (by omega) (by omega),j-1,by omega,j-1,ks++[y],Lk',t',k4,rfl,by simp;omega,by omega,by omega,hgk',?_,kn,?_⟩
   ·rw[Qcc];simp only[Ql,List.length_append,List.length_cons,List.length_nil];omega
   ·have:((j:Int)-1)=((j-1:Nat):Int):=by omega
    rw[this]
  ·intro hc2
   have g4:=kn.l 0 rfl
   have g5:=kn.l 1 rfl
   refine Q1 ?_
   simp only[go_sem,AE.X.next]
   refine Q4 ?_
   refine Qa ?_
   simp only[go_sem]
   refine Qbt (kn.e 0 rfl) (by omega) fun v3 H11 hv3 hu=>?_
   have kn:=kn.callE 0 rfl hu (R.o_ne _)
   have g4:=kn.l 0 rfl
   have g5:=kn.l 1 rfl
   have g6:=kn.l 2 rfl
   simp only[go_sem,Qaaj]
   refine Qf (Qc rfl ?_ ?_)
   ·intro hc3
    refine Qa ?_
    simp only[go_sem,g6,g4,hto]
    intro H12 h12
    have kn:Kn H H12 [(R.l,R.o (k3+1))] ([(x4,exO 13 0 nm t),(x5,exO x.op x.n x.name (.sl true 4 (Qv x.kids))),(x6,exO 13 0 nm t)]++Lk):=kn.stL 0 rfl h12
    have g4:=kn.l 0 rfl
    refine Qi ?_
    simp only[go_sem,AE.X.next,Qy,Q7,Qaik,List.mem_singleton,forall_eq,RS.op,g4,hto]
    refine hK (.mk 13 0 nm ks) t Lk _ (k3+1) (by omega) (by omega) (.inr hgk) (kn.sub (List.sublist_append_right _ _)) ?_
    simp only[Ex.size];omega
   ·intro hc3
    refine Qe ?_
    try simp only[go_sem]
    have f1:FrzC H11 (fun m=>(Lk.map Prod.fst).contains m) t (.sl false 4 (Qv ks)):=Gr.frzm hgk (fun p hp=>⟨(kn.get p (List.mem_append_right _ (List.mem_append_right _ hp))).1,Qa5e hp⟩) (FrzR.same (Qap _))
    have o5:=kn.frzS_out (p:=(x5,exO x.op x.n x.name (.sl true 4 (Qv x.kids)))) (by simp)
    have o6:=kn.frzS_out (p:=(x6,exO 13 0 nm t)) (by simp)
    have kz:=(kn.frzN.setL 1 (o':=exO x.op x.n x.name (.sl false 4 (Qv x.kids))) rfl (by nofun)).setL 2 (o':=exO 13 0 nm (.sl false 4 (Qv ks))) rfl (by nofun)
    have hfz:=((Qvf H11 (fun m=>(Lk.map Prod.fst).contains m)).set (o:=exO x.op x.n x.name (.sl false 4 (Qv x.kids))) o5 (by
     show FrzO H11 _ (H11 x5) _
     rw[g5];exact FrzKL.st (.same (.same (.same (.cons rfl (FrzR.same (Qap _)).sl .nil))))) ).set (o:=exO 13 0 nm (.sl false 4 (Qv ks))) o6 (by
     show FrzO H11 _ (H11 x6) _
     rw[g6];exact FrzKL.st (.same (.same (.same (.cons hto f1 .nil)))))
    refine c_gh (Qvg _ (Qaxq ?_) hfz) (e':=[(4,.c (.ptr x4 0)),(5,.c (.ptr x5 0)),(6,.c (.ptr x6 0))]) ?_
    ·intro p hp
     simp only[List.mem_cons,List.not_mem_nil,or_false]at hp
     rcases hp with rfl|rfl|rfl <;> exact .c _ _ (.same _ rfl)
    have g4:=kz.l 0 rfl
    have g5:=kz.l 1 rfl
    have g6:=kz.l 2 rfl
    refine Qa ?_
    simp only[go_sem,g4,g5,g6]
    intro H12 h12
    have kz:=kz.stL 0 rfl h12
    have g4:=kz.l 0 rfl
    refine Qi ?_
    simp only[go_sem,AE.X.next,Qy,Q7,Qaik,List.mem_singleton,forall_eq,RS.op,g4]
    refine hK (.mk 3 0 [] [x,.mk 13 0 nm ks]) _ [] _ (k3+1) (by omega) (by omega) (.inl ⟨?_,rfl⟩) (Kn.drop (A:=[]) kz) ?_
    ·show C.sl true 4 _=C.sl true 4 (Qv [x,.mk 13 0 nm ks])
     simp only[Qv,Ex.cells_eq];rfl
    ·simp only[Ex.size,Ql];omega
theorem Qa5r {R:Rdr}{k:Nat}{deep:Int}(hd:deep≤7)(hH:H R.l=R.o k)(hk:k+2000≤2^38)
  (hK:∀(x:Ex) (H':Heap) (k':Nat),k<k'→k'≤k+1000→Upd H H' [(R.l,R.o k')]→x.size≤2000→K (.ag x.cells) H') :
  Qp prog Qva [.c (.ptr R.l 0),.c (.int .i64 deep)] H K:=by
 refine Qw (Qah2 hd hH hk fun x t Lk H' k' h1 h2 hg kn hsz=>?_)
 have:=hK x (H'.frz (un H)) k' h1 h2 kn.fin hsz
 rw[x.cells_eq]at this
 exact⟨_,(FrzL.cons (Qg rfl) (.cons (Qg rfl) (.cons (Qg rfl) (.cons (hg.frz (B:=[]) kn (Qap _)) .nil)))).ag,this⟩
set_option maxHeartbeats 2000000 in
theorem Qa2a {R:Rdr}{k:Nat}(hH:H R.l=R.o k)(hk:k+8000≤2^38)
  (hK:∀(x:Ex) (H':Heap) (k':Nat),k<k'→k'≤k+3000→Upd H H' [(R.l,R.o k')]→x.size≤4000→K (.ag x.cells) H') :
  Qp prog Q8n [.c (.ptr R.l 0)] H K:=by
 refine Qw ?_
 refine Qb Qah Qa2j ?_
 refine Qa ?_
 simp only[go_sem]
 intro x2 hx2 H1 h1
 have kn:=(Kn.start1 hH (R.o_ne k)).al hx2 h1
 refine Qa ?_
 simp only[go_sem]
 refine Qah2 (by omega) (kn.e 0 rfl) (by omega) fun x t Lk H2 k2 g1 g2 hg k2n hsz=>?_
 have hto:=hg.isOw
 have kn:Kn H H2 [(R.l,R.o k2)] ([(x2,exO 0 0 [] (.sl true 4 []))]++Lk):=kn.addNewE 0 rfl k2n
 simp only[go_sem,Qaam,hto]
 intro x3 hx3 H3 h3
 have kn:Kn H H3 [(R.l,R.o k2)] ([(x2,exO 0 0 [] (.sl true 4 [])),(x3,exO 0 0 [] (.sl true 4 []))]++Lk):=(kn.al hx3 h3).perm (.cons _ (List.perm_append_comm (l₁:=Lk)))
 have g3:=kn.l 1 rfl
 simp only[go_sem,Qaal,g3,hto]
 intro H4 h4
 have kn:Kn H H4 [(R.l,R.o k2)] ([(x2,exO 0 0 [] (.sl true 4 [])),(x3,exO x.op x.n x.name t)]++Lk):=kn.stL 1 rfl h4
 refine Q4 ?_
 refine Qa ?_
 simp only[go_sem]
 refine Qbt (kn.e 0 rfl) (by omega) fun v H5 hv hu=>?_
 have kn:Kn H H5 [(R.l,R.o (k2+1))] ([(x2,exO 0 0 [] (.sl true 4 [])),(x3,exO x.op x.n x.name t)]++Lk):=kn.callE 0 rfl hu (R.o_ne _)
 simp only[go_sem]
 have fin:∀(y:Ex) (t:C) (Lk:List (Nat×Obj)) (H6:Heap) (e6:Env) (k6:Nat),Gt Lk 4 (Qv y.kids) t→y.size≤4000→k<k6→k6≤k+3000→Kn H H6 [(R.l,R.o k6)] ([(x2,exO 0 0 [] (.sl true 4 [])),(x3,exO y.op y.n y.name t)]++Lk)→lk 2 e6=.c (.ptr x2 0)→lk 3 e6=.c (.ptr x3 0)→
   Q8 prog Qaak (Qy Qail (unK H K)) e6 H6:=by
  intro y t Lk H6 e6 k6 hg hsz a1 a2 kn f2 f3
  have hto:=hg.isOw
  have g2:=kn.l 0 rfl
  have g3:=kn.l 1 rfl
  refine Qa ?_
  simp only[go_sem,f2,f3,g2,g3,hto]
  intro H7 h7
  have kn:=kn.stL 0 rfl h7
  have g2:=kn.l 0 rfl
  refine Qi ?_
  simp only[go_sem,Qy,Q7,Qail,List.mem_singleton,forall_eq,RS.op,g2,hto]
  have:=hK y _ k6 a1 a2 kn.fin hsz
  rw[y.cells_eq]at this
  exact⟨_,(FrzL.cons (Qg rfl) (.cons (Qg rfl) (.cons (Qg rfl) (.cons (hg.frz (B:=[_,_]) kn (Qap _)) .nil)))).ag,this⟩
 have hxs:=x.size_kids
 refine Qf (Qd ?_)
 refine Qa ?_
 simp only[go_sem]
 have g3:=kn.l 1 rfl
 refine Qc rfl ?_ ?_
 ·intro hc
  refine Qs ?_
  simp only[go_sem]
  refine Qrl (ns:=[-1,256,3]) (kn.e 0 rfl) (by omega) (by simp) fun w H6 hw hu=>?_
  have kn:=kn.callE 0 rfl hu (R.o_ne _)
  have g3:=kn.l 1 rfl
  simp only[go_sem,Qaan,g3,hto]
  intro H7 h7
  have kn:=kn.stL 1 rfl h7
  try simp only[go_sem,AE.X.next]
  exact fin (.mk x.op w x.name x.kids) t Lk _ _ (k2+1+1) hg (by simp only[Ex.size];omega) (by omega) (by omega) kn rfl rfl
 intro hc
 refine Qa ?_
 simp only[go_sem]
 refine Qc rfl ?_ ?_
 ·intro hc
  refine Qs ?_
  simp only[go_sem]
  refine of_c (ss:=[[],[100,111],[65],[97,98,99,100,101],[113]]) (kn.e 0 rfl) (by omega) (by simp) fun w H6 hw hu=>?_
  have kn:=kn.callE 0 rfl hu (R.o_ne _)
  have g3:=kn.l 1 rfl
  simp only[go_sem,Qaao,g3,hto]
  intro H7 h7
  have kn:=kn.stL 1 rfl h7
  try simp only[go_sem,AE.X.next]
  exact fin (.mk x.op x.n w x.kids) t Lk _ _ (k2+1+1) hg (by simp only[Ex.size];omega) (by omega) (by omega) kn rfl rfl
 intro hc
 refine Qa ?_
 simp only[go_sem]
 refine Qc rfl ?_ ?_
 ·intro hc
  refine Qs ?_
  simp only[go_sem]
  refine Qrl (ns:=[0,14,-1,5,11]) (kn.e 0 rfl) (by omega) (by simp) fun w H6 hw hu=>?_
  have kn:=kn.callE 0 rfl hu (R.o_ne _)
  have g3:=kn.l 1 rfl
  simp only[go_sem,Qaap,g3,hto]
  intro H7 h7
  have kn:=kn.stL 1 rfl h7
  try simp only[go_sem,AE.X.next]
  exact fin (.mk w x.n x.name x.kids) t Lk _ _ (k2+1+1) hg (by simp only[Ex.size];omega) (by omega) (by omega) kn rfl rfl
 intro hc
 refine Qa ?_
 simp only[go_sem]
 refine Qc rfl ?_ ?_
 ·intro hc
  refine Qeo ?_
  simp only[go_sem,g3,hto]
  refine Qasq (ss:=[]) (kn.e 0 rfl) (by omega) fun y H6 k6 b1 b2 hu hok hys=>?_
  have kn:=kn.callE 0 rfl hu (R.o_ne _)
  have g3:=kn.l 1 rfl
  have hkl:=Qan6 x.kids
  simp only[go_sem,Qaar,g3,hto,y.cells_len]
  refine Kn.growT (B:=[_,_]) kn hg (new:=[y.cells]) (.mk' _ true 4 _) (by simp) (Qap _) (by simpa using y.noOw) (by simp only[Qj,List.length_cons,List.length_nil,LIM];omega) fun t' Lk' H7 hg' hto' kn=>?_
  rw[Qd7]at hg'
  have g3:=kn.l 1 rfl
  simp only[go_sem,Qaaq,g3,hto']
  intro H8 h8
  have kn:=kn.stL 1 rfl h8
  try simp only[go_sem,AE.X.next]
  exact fin (.mk x.op x.n x.name (x.kids++[y])) t' Lk' _ _ k6 (.inr hg') (by simp only[Ex.size,Qcc,Ql];omega) (by omega) (by omega) kn rfl rfl
 intro hc
 refine Qa ?_
 simp only[go_sem]
 refine Qc rfl ?_ ?_
 ·intro hc
  refine Qs ?_
  simp only[go_sem]
  have kn:=Kn.drop (A:=[(x2,exO 0 0 [] (.sl true 4 [])),(x3,exO x.op x.n x.name t)]) kn
  refine Qah2 (by omega) (kn.e 0 rfl) (by omega) fun y t2 Lk2 H6 k6 b1 b2 hg2 k2n hsz2=>?_
  have hto2:=hg2.isOw
  have kn:Kn H H6 [(R.l,R.o k6)] ([(x2,exO 0 0 [] (.sl true 4 [])),(x3,exO x.op x.n x.name t)]++Lk2):=kn.addNewE 0 rfl k2n
  have g3:=kn.l 1 rfl
  simp only[go_sem,Qaas,g3,hto,hto2]
  intro H7 h7
  have kn:Kn H H7 [(R.l,R.o k6)] ([(x2,exO 0 0 [] (.sl true 4 [])),(x3,exO y.op y.n y.name t2)]++Lk2):=kn.stL 1 rfl h7
  try simp only[go_sem,AE.X.next]
  exact fin y t2 Lk2 _ _ k6 hg2 (by omega) (by omega) (by omega) kn rfl rfl
 ·intro hc
  refine Qe ?_
  try simp only[go_sem,AE.X.next]
  exact fin x t Lk _ _ (k2+1) hg (by omega) (by omega) (by omega) kn rfl rfl
end Go.AE.Y

namespace Go.AE
variable {H0 H:Heap}{E B Lg:List (Nat×Obj)}{sz:Nat}{rows rows':List (List C)}{c c':C}{S:Nat→Bool}
def Fz (Lg:List (Nat×Obj))(c c':C):Prop:=c.isOw=false∧∀(H:Heap) (S:Nat→Bool),(∀p∈Lg,H p.1=p.2∧S p.1=true)→FrzC H S c c'
theorem Fz.same (h:c.isOw=false):Fz [] c c:=⟨h,fun H S _=>.same _ h⟩
def PR (rows rows':List (List C)):Prop:=(∀r∈rows,noOw r=true)∧∀(H:Heap) (S:Nat→Bool),Y.FrzR H S rows rows'
theorem PR.app {a b a' b':List (List C)}(h:PR a a')(k:PR b b'):PR (a++b) (a'++b'):=⟨Y.noOw_app h.1 k.1,fun H S=>(h.2 H S).app (k.2 H S)⟩
theorem PR.len (h:PR rows rows'):rows.length=rows'.length:=((h.2 (fun _=>.none) fun _=>false).spec.1).symm
theorem PR.fz (h:PR rows rows')(hg:Gr Lg sz rows c):Fz Lg c (.sl false sz rows'):=⟨hg.isOw,fun H S hm=>Gr.frzm hg hm (h.2 H S)⟩
theorem PR.sl (h:PR rows rows')(fl:Bool):Fz [] (.sl fl sz rows) (.sl false sz rows'):=⟨rfl,fun H S _=>(h.2 H S).sl⟩
theorem Qar9 {r r':List C}:∀{rows rows':List (List C)} (i:Nat),Y.FrzR H S rows rows'→FrzL H S r r'→Y.FrzR H S (rows.set i r) (rows'.set i r')
 |_,_,_,.nil,_=>.nil
 |_,_,0,.cons h t,k=>.cons k t
 |_,_,i+1,.cons h t,k=>.cons h (Qar9 i t k)
end Go.AE
namespace Go.AE.Y
attribute [local go_sem] cond_true cond_false Bool.not_true Bool.not_false
open Go.Proofs.Tryz
variable {H H0 F:Heap}{K:V→Heap→Prop}{E B Lg:List (Nat×Obj)}
theorem PR.sts (l:List St):PR (Qk l) (Qk l):=⟨Qan l,fun H S=>FrzR.same (Qan l)⟩
theorem Qro:∀(l:List Fn) (i:Nat) (f:Fn),Qo (l.set i f)≤Qo l+Qh f.body
 |[],i,f=>by simp[Qo]
 |x::r,0,f=>by simp only[List.set_cons_zero,Qo];omega
 |x::r,i+1,f=>by have:=Qro r i f;simp only[List.set_cons_succ,Qo];omega
theorem Qay5 {op:Int}{nm:List UInt8}{a:C}{ars:List Ex}(ha:a.isOw=false)(hf:∀(H:Heap) (S:Nat→Bool),FrzC H S a (.sl false 4 (Qv ars))) :
  PR [[.int .i64 op,.str nm,a,.sl true 5 [],.sl true 5 []]] (Qk [.mk op nm ars [] []]):=by
 refine⟨fun r hr=>by simp only[List.mem_singleton]at hr;subst hr;simp only[noOw,List.all_cons,List.all_nil,Q00,Qvi,Q8s,ha];rfl,fun H S=>?_⟩
 simp only[Qk,St.cells_eq,St.op,St.name,St.args,St.body,St.els]
 exact .cons (.cons (Qg rfl) (.cons (Qg rfl) (.cons (hf H S) (.cons FrzR.nil.sl (.cons FrzR.nil.sl .nil))))) .nil
abbrev a0C:C:=.sl true 4 [[.int .i64 1,.int .i64 0,.str [],.sl true 4 []]]
theorem Qaoq (n:Int)(H:Heap)(S:Nat→Bool):FrzC H S (.sl true 4 [[.int .i64 1,.int .i64 n,.str [],.sl true 4 []]]) (.sl false 4 (Qv [.mk 1 n [] []])):=by
 simp only[Qv,Ex.cells_eq,Ex.op,Ex.n,Ex.name,Ex.kids]
 exact (FrzR.cons (.cons (Qg rfl) (.cons (Qg rfl) (.cons (Qg rfl) (.cons FrzR.nil.sl .nil)))) .nil).sl
set_option maxHeartbeats 8000000 in
theorem Qa2f {R:Rdr}{k:Nat}(hH:H R.l=R.o k)(hk:k+7100000≤2^30)
  (hK:∀(l:List Fn) (H':Heap) (k':Nat),k<k'→k'≤k+7010000→Upd H H' [(R.l,R.o k')]→Qo l≤2^36→K (.ag [.sl false 3 (Qr l)]) H') :
  Qp prog Q8p [.c (.ptr R.l 0)] H K:=by
 refine Qw ?_
 refine Qb Qah Qa2m ?_
 refine Qa ?_
 simp only[go_sem]
 intro x2 hx2 H1 h1
 have kn:=(Kn.start1 hH (R.o_ne k)).al hx2 h1
 refine Qa ?_
 simp only[go_sem]
 refine Qass (kn.e 0 rfl) (by omega) fun l H2 k2 g1 g2 hu hpr=>?_
 have kn:=kn.callE 0 rfl hu (R.o_ne _)
 have hpos:=hpr.pos
 have hl4:=hpr.len
 have hsz:=hpr.size
 have e1:(l.length:Int)-1=((l.length-1:Nat):Int):=by omega
 have hl1:l.length-1<l.length:=by omega
 obtain⟨f,hfe⟩:∃f,l[l.length-1]=f:=⟨_,rfl⟩
 have hfm:f∈l:=by rw[←hfe];exact List.getElem_mem hl1
 have hfs:=Qaq hfm
 have hfl:=Qby f.body
 have hfp:=hpr.par f hfm
 simp only[go_sem,Qaa0]
 intro x3 hx3 H3 h3
 have kn:=kn.al hx3 h3
 have g3:=kn.l 1 rfl
 simp only[go_sem,Qaaz,g3]
 intro H4 h4
 have kn:=kn.stL 1 rfl h4
 have g3:=kn.l 1 rfl
 refine Qa ?_
 simp only[go_sem,g3,e1,hl1,Qm,Q6 _ _ hl1,hfe,Fn.cells]
 try intro _
 refine⟨Qu (by omega) (by omega),?_⟩
 intro x4 hx4 H5 h5
 have kn:=kn.al hx4 h5
 have g4:=kn.l 2 rfl
 simp only[go_sem,Qaa1,g4]
 intro H6 h6
 have kn:=kn.stL 2 rfl h6
 refine Q4 ?_
 refine Qa ?_
 simp only[go_sem]
 refine Qbt (kn.e 0 rfl) (by omega) fun v H7 hv hu=>?_
 have kn:Kn H H7 [(R.l,R.o (k2+1))] ([(x2,.st [.sl true 3 []]),(x3,.st [.sl false 3 (Qr l)]),(x4,fnO f)]++[]):=kn.callE 0 rfl hu (R.o_ne _)
 simp only[go_sem]
 have fin:∀(nm:List UInt8) (ps:List (List UInt8)) (body:List St) (pc bc:C) (Lp Lb:List (Nat×Obj)) (H8:Heap) (e8:Env) (k8:Nat),Fz Lp pc (.sl false 1 (Q2 ps))→Fz Lb bc (.sl false 5 (Qk body))→Qh body≤Qh f.body+100000→k<k8→k8≤k+7010000→
   Kn H H8 [(R.l,R.o k8)] ([(x2,.st [.sl true 3 []]),(x3,.st [.sl false 3 (Qr l)]),(x4,.st [.str nm,pc,bc])]++(Lp++Lb))→lk 2 e8=.c (.ptr x2 0)→lk 3 e8=.c (.ptr x3 0)→lk 4 e8=.c (.ptr x4 0)→
   Q8 prog Qaay (Qy Q1b (unK H K)) e8 H8:=by
  intro nm ps body pc bc Lp Lb H8 e8 k8 hp hb hbs a1 a2 kn f2 f3 f4
  have hpo:=hp.1
  have hbo:=hb.1
  have g3:=kn.l 1 rfl
  refine Qa ?_
  simp only[go_sem,f2,f3,f4,g3,Qm,hpo,hbo]
  refine⟨.inl trivial,Qbn _,by simp only[LIM];omega,fun z hz H9 h9=>?_⟩
  have kn:Kn H H9 [(R.l,R.o k8)] ([(x2,.st [.sl true 3 []]),(x3,.st [.sl false 3 (Qr l)]),(x4,.st [.str nm,pc,bc]),(z,.vec 3 ([]++Qr l))]++(Lp++Lb)):=(kn.al hz h9).perm (.cons _ (.cons _ (.cons _ (List.perm_append_comm (l₁:=Lp++Lb)))))
  have gz:=kn.l 3 rfl
  have g4:=kn.l 2 rfl
  simp only[go_sem,Q5t,f2,f3,f4]
  refine Qa ?_
  simp only[go_sem,gz,g4,e1,hl1,hpo,hbo,Qm,Q6 _ _ hl1,hfe,Fn.cells,List.nil_append,Nat.zero_add]
  try intro _
  refine⟨Qu (by omega) (by omega),?_⟩
  intro H10 h10
  have kn:Kn H H10 [(R.l,R.o k8)] ([(x2,.st [.sl true 3 []]),(x3,.st [.sl false 3 (Qr l)]),(x4,.st [.str nm,pc,bc]),(z,.vec 3 ((Qr l).set (l.length-1) [.str nm,pc,bc]))]++(Lp++Lb)):=kn.stL 3 rfl h10
  have g2:=kn.l 0 rfl
  have gz:=kn.l 3 rfl
  refine Qa ?_
  simp only[go_sem,g2]
  intro H11 h11
  have kn:Kn H H11 [(R.l,R.o k8)] ([(x2,.st [.vsl z 3 0 l.length]),(x3,.st [.sl false 3 (Qr l)]),(x4,.st [.str nm,pc,bc]),(z,.vec 3 ((Qr l).set (l.length-1) [.str nm,pc,bc]))]++(Lp++Lb)):=kn.stL 0 rfl h11
  have g2:=kn.l 0 rfl
  have gz:=kn.l 3 rfl
  refine Qi ?_
  simp only[go_sem,Qy,Q7,Q1b,List.mem_singleton,forall_eq,RS.op,g2]
  have hun:∀p∈Lp++Lb,H11 p.1=p.2∧un H p.1=true:=fun p hp=>⟨(kn.get p (List.mem_append_right _ (List.mem_append_right _ hp))).1,Qod (kn.loc p (List.mem_append_right _ hp))⟩
  have hfr:FrzR H11 (un H) ((Qr l).set (l.length-1) [.str nm,pc,bc]) (Qr (l.set (l.length-1) ⟨nm,ps,body⟩)):=by
   have:Qr (l.set (l.length-1) ⟨nm,ps,body⟩)=(Qr l).set (l.length-1) (Fn.cells ⟨nm,ps,body⟩):=by simp[Qr,List.map_set]
   rw[this]
   exact Qar9 _ (FrzR.same (Qbn l)) (.cons (Qg rfl) (.cons (hp.2 _ _ fun p hp=>hun p (List.mem_append_left _ hp)) (.cons (hb.2 _ _ fun p hp=>hun p (List.mem_append_right _ hp)) .nil)))
  have hps:=Qro l (l.length-1) ⟨nm,ps,body⟩
  refine⟨_,(FrzL.cons (FrzR.vsl (Qod (kn.free 3 rfl)) ?_ ?_ hfr) .nil).ag,hK _ _ k8 a1 a2 kn.fin ?_⟩
  ·exact gz
  ·simp[Qm]
  ·simp only at hps
   omega
 have fz0:Fz [] (.sl false 1 (Q2 f.params)) (.sl false 1 (Q2 f.params)):=.same rfl
 have fzb:Fz [] (.sl false 5 (Qk f.body)) (.sl false 5 (Qk f.body)):=.same rfl
 have g4:=kn.l 2 rfl
 refine Qf (Qd ?_)
 refine Qa ?_
 simp only[go_sem]
 refine Qc rfl (fun hc=>?_) (fun hc=>?_)
 ·refine Qs ?_
  simp only[go_sem]
  refine of_c (ss:=[[102],[100,111],[],[103]]) (kn.e 0 rfl) (by omega) (by simp) fun w H8 hw hu=>?_
  have kn:=kn.callE 0 rfl hu (R.o_ne _)
  have g4:=kn.l 2 rfl
  simp only[go_sem,Qaa2,g4]
  intro H9 h9
  have kn:=kn.stL 2 rfl h9
  try simp only[go_sem,AE.X.next]
  exact fin w f.params f.body _ _ [] [] _ _ (k2+1+1) fz0 fzb (by omega) (by omega) (by omega) kn rfl rfl rfl
 refine Qa ?_
 simp only[go_sem]
 refine Qc rfl (fun hc=>?_) (fun hc=>?_)
 ·refine Qs ?_
  simp only[go_sem,g4,Qq]
  refine⟨.inl trivial,Qax _,by simp only[LIM];omega,fun z hz H8 h8=>?_⟩
  have kn:=kn.al hz h8
  have hg0:Gr [(z,.vec 1 ([]++Q2 f.params))] 1 (Q2 f.params) (.vsl z 1 0 (0+f.params.length)):=Gr.mk z 1 (Q2 f.params) (by rw[Qq];omega)
  generalize C.vsl z 1 0 (0+f.params.length)=cz at hg0⊢
  have hczo:=hg0.isOw
  simp only[go_sem,Qaa5,hczo]
  refine of_c (ss:=[[97],[120],[105,102]]) (kn.e 0 rfl) (by omega) (by simp) fun w H9 hw hu=>?_
  have kn:Kn H H9 [(R.l,R.o (k2+1+1))] ([(x2,.st [.sl true 3 []]),(x3,.st [.sl false 3 (Qr l)]),(x4,fnO f)]++[(z,.vec 1 ([]++Q2 f.params))]):=kn.callE 0 rfl hu (R.o_ne _)
  simp only[go_sem,Qaa4,hczo]
  refine Kn.growR (B:=[_,_,_]) (rows:=Q2 f.params) kn hg0 (new:=[[.str w]]) (.mk' _ true 1 _) (by simp[noOw,C.isOw]) (by simp only[Qq,List.length_cons,List.length_nil,LIM];omega) fun t Lt H10 hgt hto kn=>?_
  rw[Qob]at hgt
  have g4:=kn.l 2 rfl
  simp only[go_sem,Qaa3,g4,hto]
  intro H11 h11
  have kn:=kn.stL 2 rfl h11
  try simp only[go_sem,AE.X.next]
  refine fin f.name (f.params++[w]) f.body t _ Lt [] _ _ (k2+1+1) ⟨hto,fun H S hm=>Gr.frzm hgt hm (FrzR.same (Qax _))⟩ fzb (by omega) (by omega) (by omega) ?_ rfl rfl rfl
  rw[List.append_nil];exact kn
 refine Qa ?_
 simp only[go_sem]
 refine Qc rfl (fun hc=>?_) (fun hc=>?_)
 ·refine Qs ?_
  simp only[go_sem,g4,Qn]
  refine⟨.inl trivial,Qan _,by simp only[LIM];omega,fun z hz H8 h8=>?_⟩
  have kn:=kn.al hz h8
  have hg0:Gr [(z,.vec 5 ([]++Qk f.body))] 5 (Qk f.body) (.vsl z 5 0 (0+f.body.length)):=Gr.mk z 5 (Qk f.body) (by rw[Qn];omega)
  generalize C.vsl z 5 0 (0+f.body.length)=cz at hg0⊢
  have hczo:=hg0.isOw
  simp only[go_sem,Qaa8,hczo]
  refine Qa2a (kn.e 0 rfl) (by omega) fun x H9 k9 b1 b2 hu hxs=>?_
  have kn:Kn H H9 [(R.l,R.o k9)] ([(x2,.st [.sl true 3 []]),(x3,.st [.sl false 3 (Qr l)]),(x4,fnO f)]++[(z,.vec 5 ([]++Qk f.body))]):=kn.callE 0 rfl hu (R.o_ne _)
  simp only[go_sem,Qaa7,x.cells_len,hczo]
  have hpr:=(PR.sts f.body).app (Qay5 (op:=3) (nm:=[]) (a:=.sl true 4 [x.cells]) (ars:=[x]) rfl fun H S=>by
   simp only[Qv];exact (FrzR.cons (.same x.noOw) .nil).sl)
  refine Kn.growR (B:=[_,_,_]) (rows:=Qk f.body) kn hg0 (new:=[[.int .i64 3,.str [],.sl true 4 [x.cells],.sl true 5 [],.sl true 5 []]]) (.mk' _ true 5 _) (by simp[noOw,C.isOw]) (by simp only[Qn,List.length_cons,List.length_nil,LIM];omega) fun t Lt H10 hgt hto kn=>?_
  have g4:=kn.l 2 rfl
  simp only[go_sem,Qaa6,g4,hto]
  intro H11 h11
  have kn:=kn.stL 2 rfl h11
  try simp only[go_sem,AE.X.next]
  have hfz:=hpr.fz hgt
  rw[Qkg]at hfz
  exact fin f.name f.params (f.body++[.mk 3 [] [x] [] []]) _ t [] Lt _ _ k9 fz0 hfz (by simp only[Qay,Qh,St.size,Ql];omega) (by omega) (by omega) kn rfl rfl rfl
 refine Qa ?_
 simp only[go_sem]
 refine Qc rfl (fun hc=>?_) (fun hc=>?_)
 ·refine Qs ?_
  simp only[go_sem,g4,Qn]
  refine⟨.inl trivial,Qan _,by simp only[LIM];omega,fun z hz H8 h8=>?_⟩
  have kn:=kn.al hz h8
  have hg0:Gr [(z,.vec 5 ([]++Qk f.body))] 5 (Qk f.body) (.vsl z 5 0 (0+f.body.length)):=Gr.mk z 5 (Qk f.body) (by rw[Qn];omega)
  generalize C.vsl z 5 0 (0+f.body.length)=cz at hg0⊢
  have hczo:=hg0.isOw
  simp only[go_sem,Q5i,hczo]
  refine Qbt (kn.e 0 rfl) (by omega) fun op H9 hop hu=>?_
  have kn:=kn.callE 0 rfl hu (R.o_ne _)
  simp only[go_sem,Q5h,hczo]
  refine of_c (ss:=[[],[97],[122,122]]) (kn.e 0 rfl) (by omega) (by simp) fun w H10 hw hu=>?_
  have kn:=kn.callE 0 rfl hu (R.o_ne _)
  simp only[go_sem,Q5g,hczo]
  refine Qa5r (by omega) (kn.e 0 rfl) (by omega) fun x H11 k9 b1 b2 hu hxs=>?_
  have kn:Kn H H11 [(R.l,R.o k9)] ([(x2,.st [.sl true 3 []]),(x3,.st [.sl false 3 (Qr l)]),(x4,fnO f)]++[(z,.vec 5 ([]++Qk f.body))]):=kn.callE 0 rfl hu (R.o_ne _)
  simp only[go_sem,Q5f,x.cells_len,hczo]
  have hpr:=(PR.sts f.body).app (Qay5 (op:=op) (nm:=w) (a:=.sl true 4 [x.cells]) (ars:=[x]) rfl fun H S=>by
   simp only[Qv];exact (FrzR.cons (.same x.noOw) .nil).sl)
  refine Kn.growR (B:=[_,_,_]) (rows:=Qk f.body) kn hg0 (new:=[[.int .i64 op,.str w,.sl true 4 [x.cells],.sl true 5 [],.sl true 5 []]]) (.mk' _ true 5 _) (by simp[noOw,C.isOw]) (by simp only[Qn,List.length_cons,List.length_nil,LIM];omega) fun t Lt H12 hgt hto kn=>?_
  have g4:=kn.l 2 rfl
  simp only[go_sem,Q5e,g4,hto]
  intro H13 h13
  have kn:=kn.stL 2 rfl h13
  try simp only[go_sem,AE.X.next]
  have hfz:=hpr.fz hgt
  rw[Qkg]at hfz
  exact fin f.name f.params (f.body++[.mk op w [x] [] []]) _ t [] Lt _ _ k9 fz0 hfz (by simp only[Qay,Qh,St.size,Ql];omega) (by omega) (by omega) kn rfl rfl rfl
 refine Qa ?_
 simp only[go_sem]
 refine Qc rfl (fun hc=>?_) (fun hc=>?_)
 ·refine Qa ?_
  simp only[go_sem]
  intro x5 hx5 H8 h8
  have kn:=kn.al hx5 h8
  have g5:=kn.l 3 rfl
  simp only[go_sem,Q5j,g5]
  intro H9 h9
  have kn:=kn.stL 3 rfl h9
  refine Q4 ?_
  refine Qa ?_
  simp only[go_sem]
  refine Qbt (kn.e 0 rfl) (by omega) fun cnt H10 hcnt hu=>?_
  have kn:=kn.callE 0 rfl hu (R.o_ne _)
  rw[if_neg (by omega)]at hcnt
  obtain⟨cj,rfl⟩:=Int.eq_ofNat_of_zero_le hcnt.1
  simp only[go_sem,Q5k]
  refine Qf (Qd (Q0 (fun m e1 H1=>∃(j:Nat) (op:Int) (b:C) (bl:List St) (k9:Nat),m=j∧j≤4∧k2+2≤k9∧k9+j≤k2+6∧b.isOw=false∧(∀(H:Heap) (S:Nat→Bool),FrzC H S b (.sl false 5 (Qk bl)))∧Qh bl+3 * j≤12∧
   Kn H H1 [(R.l,R.o k9)] [(x2,.st [.sl true 3 []]),(x3,.st [.sl false 3 (Qr l)]),(x4,fnO f),(x5,.st [.int .i64 op,.str [],a0C,b,.sl true 5 []])]∧
   e1=[(0,.c (.ptr R.l 0)),(2,.c (.ptr x2 0)),(3,.c (.ptr x3 0)),(4,.c (.ptr x4 0)),(5,.c (.ptr x5 0)),(6,.c (.int .i64 j))]) cj ?_ ?_))
  ·exact⟨cj,6,.sl true 5 [],[],k2+2,by omega,by omega,by omega,by omega,rfl,fun H S=>FrzR.nil.sl,by simp only[Qh];omega,kn,rfl⟩
  ·clear kn g5 h9 h8
   rintro m e1 H11 ⟨j,op,b,bl,k9,hm,hj,hk9,hk10,hbo,hbf,hbs,kn,rfl⟩
   have g5:=kn.l 3 rfl
   have g4:=kn.l 2 rfl
   refine Q4 ?_
   refine Qa ?_
   simp only[go_sem]
   have hrowf:∀(H:Heap) (S:Nat→Bool),FrzL H S [.int .i64 op,.str [],a0C,b,.sl true 5 []] (St.mk op [] [.mk 1 0 [] []] bl []).cells:=fun H S=>by
    simp only[St.cells_eq,St.op,St.name,St.args,St.body,St.els]
    exact .cons (Qg rfl) (.cons (Qg rfl) (.cons (Qaoq 0 H S) (.cons (hbf H S) (.cons FrzR.nil.sl .nil))))
   refine Qf (Qc rfl (fun hc2=>?_) (fun hc2=>?_))
   ·have hj0:0<j:=by simpa using hc2
    refine Qe ?_
    try simp only[go_sem]
    refine Qf (Qd ?_)
    refine Qeo ?_
    simp only[go_sem,g5,hbo]
    refine Qrl (ns:=[5,6]) (kn.e 0 rfl) (by omega) (by simp) fun w H12 hw hu=>?_
    have kn:=kn.callE 0 rfl hu (R.o_ne _)
    have g5:=kn.l 3 rfl
    simp only[go_sem,Q5l,g5,hbo]
    intro H13 h13
    have kn:=kn.stL 3 rfl h13
    try simp only[go_sem,AE.X.next]
    refine Qs ?_
    try simp only[go_sem,AE.X.next]
    refine⟨Qu (by omega) (by omega),j-1,by omega,j-1,w,.sl true 5 [[.int .i64 op,.str [],a0C,b,.sl true 5 []]],[.mk op [] [.mk 1 0 [] []] bl []],k9+1,rfl,by omega,by omega,by omega,rfl,fun H S=>?_,?_,kn,?_⟩
    ·simp only[Qk];exact (FrzR.cons (hrowf H S) .nil).sl
    ·simp only[Qh,St.size,Ql,Ex.size];omega
    ·have:((j:Int)-1)=((j-1:Nat):Int):=by omega
     rw[this]
   ·refine Q1 ?_
    simp only[go_sem,AE.X.next]
    refine Qeo ?_
    simp only[go_sem,g5,g4,hbo,Qn]
    refine⟨.inl trivial,Qan _,by simp only[LIM];omega,fun z hz H12 h12=>?_⟩
    have kn:Kn H H12 [(R.l,R.o k9)] ([(x2,.st [.sl true 3 []]),(x3,.st [.sl false 3 (Qr l)]),(x4,fnO f),(x5,.st [.int .i64 op,.str [],a0C,b,.sl true 5 []])]++[(z,.vec 5 ([]++Qk f.body))]):=kn.al hz h12
    have g5:=kn.l 3 rfl
    have hg0:Gr [(z,.vec 5 ([]++Qk f.body))] 5 (Qk f.body) (.vsl z 5 0 (0+f.body.length)):=Gr.mk z 5 (Qk f.body) (by rw[Qn];omega)
    generalize C.vsl z 5 0 (0+f.body.length)=cz at hg0⊢
    have hczo:=hg0.isOw
    simp only[go_sem,Q5n,g5,hbo,hczo]
    have hpr:PR (Qk f.body++[[.int .i64 op,.str [],a0C,b,.sl true 5 []]]) (Qk f.body++Qk [.mk op [] [.mk 1 0 [] []] bl []]):=(PR.sts f.body).app ⟨fun r hr=>by simp only[List.mem_singleton]at hr;subst hr;simp only[noOw,List.all_cons,List.all_nil,Q00,Qvi,Q8s,hbo];rfl,fun H S=>by simp only[Qk];exact .cons (hrowf H S) .nil⟩
    refine Kn.growR (B:=[_,_,_,_]) (rows:=Qk f.body) kn hg0 (new:=[[.int .i64 op,.str [],a0C,b,.sl true 5 []]]) (.mk' _ true 5 _) (fun r hr=>by simp only[List.mem_singleton]at hr;subst hr;simp only[noOw,List.all_cons,List.all_nil,Q00,Qvi,Q8s,hbo];rfl) (by simp only[Qn,List.length_cons,List.length_nil,LIM];omega) fun t Lt H13 hgt hto kn=>?_
    have g4:=kn.l 2 rfl
    simp only[go_sem,Q5m,g4,hto]
    intro H14 h14
    have kn:=kn.stL 2 rfl h14
    try simp only[go_sem,AE.X.next]
    have hfz:=hpr.fz hgt
    rw[Qkg]at hfz
    refine fin f.name f.params (f.body++[.mk op [] [.mk 1 0 [] []] bl []]) _ t [] Lt _ _ k9 fz0 hfz (by simp only[Qay,Qh,St.size,Ql,Ex.size];omega) (by omega) (by omega) (kn.sub ?_) rfl rfl rfl
    exact .cons_cons _ (.cons_cons _ (.cons_cons _ (.cons _ (List.Sublist.refl _))))
 refine Qa ?_
 simp only[go_sem]
 refine Qc rfl (fun hc=>?_) (fun hc=>?_)
 ·have g2:=kn.l 0 rfl
  refine Qa ?_
  simp only[go_sem,g2]
  intro H8 h8
  have kn:=kn.stL 0 rfl h8
  have g2:=kn.l 0 rfl
  refine Qi ?_
  simp only[go_sem,AE.X.next,Qy,Q7,Q1b,List.mem_singleton,forall_eq,RS.op,g2]
  exact⟨_,(FrzL.cons FrzR.nil.sl .nil).ag,hK [] _ (k2+1) (by omega) (by omega) kn.fin (by simp[Qo])⟩
 refine Qa ?_
 simp only[go_sem]
 refine Qc rfl (fun hc=>?_) (fun hc=>?_)
 ·refine Qa ?_
  simp only[go_sem]
  refine Qrl (ns:=[20,40,41]) (kn.e 0 rfl) (by omega) (by simp) fun cnt H8 hcnt hu=>?_
  have kn:=kn.callE 0 rfl hu (R.o_ne _)
  have hc41:0≤cnt∧cnt≤41:=by
   simp only[List.mem_cons,List.not_mem_nil,or_false]at hcnt
   omega
  obtain⟨cj,rfl⟩:=Int.eq_ofNat_of_zero_le hc41.1
  simp only[go_sem,Q5o]
  refine Qd (Q0 (fun m e1 H1=>∃(j:Nat) (b:C) (rows:List (List C)) (body:List St) (Lb:List (Nat×Obj)),m=j∧j≤41∧PR rows (Qk body)∧(b=.sl false 5 rows∧Lb=[]∨Gr Lb 5 rows b)∧Qh body+3 * j≤Qh f.body+123∧
   Kn H H1 [(R.l,R.o (k2+1+1))] ([(x2,.st [.sl true 3 []]),(x3,.st [.sl false 3 (Qr l)]),(x4,.st [.str f.name,.sl false 1 (Q2 f.params),b])]++Lb)∧
   e1=[(2,.c (.ptr x2 0)),(3,.c (.ptr x3 0)),(4,.c (.ptr x4 0)),(7,.c (.int .i64 j))]) cj ?_ ?_)
  ·exact⟨cj,.sl false 5 (Qk f.body),Qk f.body,f.body,[],rfl,by omega,PR.sts _,.inl ⟨rfl,rfl⟩,by omega,kn,rfl⟩
  ·clear kn g4
   rintro m e1 H9 ⟨j,b,rows,body,Lb,hm,hj,hpr,hb,hbs,kn,rfl⟩
   have hbo:b.isOw=false:=by
    rcases hb with ⟨rfl,_⟩|hb
    ·rfl
    ·exact hb.isOw
   have hbl:=Qby body
   have hrl:=hpr.len
   rw[Qn]at hrl
   have hsb:Slc H9 5 rows b:=by
    rcases hb with ⟨rfl,_⟩|hb
    ·exact .mk' _ false 5 _
    ·exact Gr.slc2 hb kn
   have hokb:=eq_true hsb.ok
   have hszb:=hsb.sz
   have hrwb:=hsb.rows
   have hlnb:=hsb.len
   have g4:=kn.l 2 rfl
   refine Q4 ?_
   refine Qa ?_
   simp only[go_sem]
   refine Qf (Qc rfl (fun hc2=>?_) (fun hc2=>?_))
   ·have hj0:0<j:=by simpa using hc2
    refine Qe ?_
    try simp only[go_sem]
    refine Qf (Qd ?_)
    refine Qs ?_
    simp only[go_sem,g4,hbo,hokb,hszb,hrwb,hlnb]
    refine⟨.inl trivial,hpr.1,by simp only[LIM];omega,fun z hz H10 h10=>?_⟩
    have kn:=kn.al hz h10
    have kn:Kn H H10 [(R.l,R.o (k2+1+1))] ([(x2,.st [.sl true 3 []]),(x3,.st [.sl false 3 (Qr l)]),(x4,.st [.str f.name,.sl false 1 (Q2 f.params),b])]++[(z,.vec 5 ([]++rows))]):=kn.sub (by
     rw[List.append_assoc]
     exact List.Sublist.append (List.Sublist.refl _) (List.sublist_append_right _ _))
    have hg0:Gr [(z,.vec 5 ([]++rows))] 5 (rows) (.vsl z 5 0 (0+rows.length)):=Gr.mk z 5 (rows) (by omega)
    generalize C.vsl z 5 0 (0+rows.length)=cz at hg0⊢
    have hczo:=hg0.isOw
    simp only[go_sem,Q5q,hczo]
    have hpr2:=hpr.app (Qay5 (op:=3) (nm:=[]) (a:=.sl true 4 [[.int .i64 1,.int .i64 j,.str [],.sl true 4 []]]) (ars:=[.mk 1 j [] []]) rfl fun H S=>Qaoq j H S)
    rw[Qkg]at hpr2
    refine Kn.growR (B:=[_,_,_]) (rows:=rows) kn hg0 (new:=[[.int .i64 3,.str [],.sl true 4 [[.int .i64 1,.int .i64 j,.str [],.sl true 4 []]],.sl true 5 [],.sl true 5 []]]) (.mk' _ true 5 _) (by simp[noOw,C.isOw]) (by simp only[List.length_cons,List.length_nil,LIM];omega) fun t Lt H11 hgt hto kn=>?_
    have g4:=kn.l 2 rfl
    simp only[go_sem,Q5p,g4,hto,hbo,hczo]
    intro H12 h12
    have kn:=kn.stL 2 rfl h12
    try simp only[go_sem,AE.X.next]
    refine Qs ?_
    try simp only[go_sem,AE.X.next]
    refine⟨Qu (by omega) (by omega),j-1,by omega,j-1,t,_,body++[.mk 3 [] [.mk 1 j [] []] [] []],Lt,rfl,by omega,hpr2,.inr hgt,?_,kn,?_⟩
    ·simp only[Qay,Qh,St.size,Ql,Ex.size];omega
    ·have:((j:Int)-1)=((j-1:Nat):Int):=by omega
     rw[this]
   ·refine Q1 ?_
    simp only[go_sem,AE.X.next]
    have hfz:Fz Lb b (.sl false 5 (Qk body)):=by
     rcases hb with ⟨rfl,rfl⟩|hb
     ·exact hpr.sl false
     ·exact hpr.fz hb
    exact fin f.name f.params body _ b [] Lb _ _ (k2+1+1) fz0 hfz (by omega) (by omega) (by omega) kn rfl rfl rfl
 refine Qa ?_
 simp only[go_sem]
 refine Qc rfl (fun hc=>?_) (fun hc=>?_)
 ·have g3:=kn.l 1 rfl
  have g2:=kn.l 0 rfl
  have h0:(0:Nat)<l.length:=hpos
  refine Qaz ?_
  simp only[go_sem,g3,h0,Int.le_refl,Qm,Q6 _ _ h0,Fn.take3,Fn.allOw,Fn.cells_len]
  refine⟨.inl trivial,Qbn _,by simp only[LIM];omega,fun z hz H8 h8=>?_⟩
  have kn:Kn H H8 [(R.l,R.o (k2+1))] ([(x2,.st [.sl true 3 []]),(x3,.st [.sl false 3 (Qr l)]),(x4,fnO f)]++[(z,.vec 3 ([]++Qr l))]):=kn.al hz h8
  have g3:=kn.l 1 rfl
  have hg0:Gr [(z,.vec 3 ([]++Qr l))] 3 (Qr l) (.vsl z 3 0 (0+l.length)):=Gr.mk z 3 (Qr l) (by rw[Qm];omega)
  generalize C.vsl z 3 0 (0+l.length)=cz at hg0⊢
  have hczo:=hg0.isOw
  simp only[go_sem,Q5s,g3,h0,Int.le_refl,hczo,Qm,Q6 _ _ h0,Fn.take3,Fn.allOw,Fn.cells_len]
  refine Kn.growR (B:=[_,_,_]) (rows:=Qr l) kn hg0 (new:=[l[0].cells]) (.mk' _ true 3 _) (by simp[Fn.noOw]) (by simp only[Qm,List.length_cons,List.length_nil,LIM];omega) fun t Lt H9 hgt hto kn=>?_
  rw[Qlr]at hgt
  have g2:=kn.l 0 rfl
  simp only[go_sem,Q5r,g2,hto,hczo]
  intro H10 h10
  have kn:=kn.stL 0 rfl h10
  have g2:=kn.l 0 rfl
  refine Qi ?_
  simp only[go_sem,AE.X.next,Qy,Q7,Q1b,List.mem_singleton,forall_eq,RS.op,g2,hto]
  refine⟨_,(FrzL.cons (hgt.frz (B:=[_,_,_]) kn (Qbn _)) .nil).ag,hK (l++[l[0]]) _ (k2+1) (by omega) (by omega) kn.fin ?_⟩
  have:=Qaq (List.getElem_mem h0)
  simp only[Qi5,Qo];omega
 ·refine Qe ?_
  try simp only[go_sem,AE.X.next]
  exact fin f.name f.params f.body _ _ [] [] _ _ (k2+1) fz0 fzb (by omega) (by omega) (by omega) kn rfl rfl rfl
end Go.AE.Y

namespace Go.AE.Y
open Go.Proofs.Tryz
def Qag9:List Item:=[sJ 1 3 8]
def Qaha:List Item:=eI 3 (.alloc [.sl true 3 []])::Qag9
def Qahb:List Item:=[cJ 11 .gtr 10 2]
def Qa0h:SC:=cT 11 (sR [tJ 12 1 3,sJ 1 2 12] [2] .ret) .skip
def Qahc:List Item:=[cJ 15 .eql 14 0]
def Qahd:List Item:=[sJ 1 2 17]
def Qa0i:SC:=cT 15 (sR (mJ 16 0::aJ 17 Q8p [.t 16]::Qahd) [2] .ret) .skip
def Qahe:List Item:=[sJ 1 3 19]
def Qahf:List Item:=[hJ 21 20,iJ 27 3 21 26,mJ 4 27]
def Qa0j:SC:=cT 33 (sR [tJ 34 1 3,sJ 1 2 34] [2] .ret) .skip
def Qacs:List Item:=[hJ 38 37,iJ 46 5 38 45,mJ 5 46]
def Qact:List Item:=[sJ 4 6 50]
def Qacu:List Item:=fI 50 (.bld [.int .i64 0,.int .i64 0,.str [],.sl true 4 []] [(0,1,kI 2),(2,1,.t 49)])::eI 6 (.alloc [.int .i64 0,.int .i64 0,.str [],.sl true 4 []])::Qact
def Qacv:List Item:=[fI 58 (.bld [.int .i64 0,.int .i64 0,.str [],.sl true 4 []] [(0,1,kI 1),(1,1,kI 1)]),fI 59 (.bsl 4 [.t 58]),fI 60 (.bld [.int .i64 0,.int .i64 0,.str [],.sl true 4 []] [(0,1,kI 13),(2,1,.t 57),(3,1,.t 59)]),sJ 4 6 60]
def Qacw:List Item:=[kJ 72 68,fJ 73 1 72,sJ 1 73 71]
def Qav3:SC:=cT 67 (.reg (mJ 68 5::mJ 69 0::fI 70 (.bsl 1 [.k (.c (.str [97])),.k (.c (.str [98])),.k (.c (.str [122,122])),.k (.c (.str [99])),.k (.c (.str [100]))])::aJ 71 Qav [.t 69,.t 70]::Qacw) [2,3]) .skip
def Qav4:SC:=sR [tJ 74 1 3,sJ 1 2 74] [2] .ret
def Qacx:List Item:=[kJ 89 77,fJ 90 2 89,sJ 1 90 88]
def Qacy:List Item:=hJ 81 80::xJ 88 5 81 87::Qacx
def Qav5:SC:=sR [tJ 91 1 3,sJ 1 2 91] [2] .ret
def Qav6:SC:=cT 75 (.seq (.dreg 15 [0,1,2,3,4,5,6,7,8,9,10,4,11,12,13,14] ( mJ 77 4::mJ 78 4::kJ 79 78::fJ 80 2 79::lJ 81 80::mJ 82 4::kJ 83 82::fJ 84 2 83::lJ 85 84::fI 86 (.sli 5 (.t 85) none (some (kI 1)))::aJ 87 Qge [.t 86]::Qacy) [2,3]) Qav5) .skip
def Qav7:SC:=cT 61 (.seq (sR [mJ 63 5,kJ 64 63,fJ 65 1 64,lJ 66 65,fI 67 (.bin 0 .neq (.t 66) (.k (.c (.str []))))] [0,2,3,5,67] Qav3) Qav4) (sR [cJ 76 .eql 52 2,mJ 75 76] [2,3,4,5,6,75] Qav6)
def Qav8:SC:=cT 53 (.reg (mJ 55 0::fI 56 (.bsl 1 [.k (.c (.str [102])),.k (.c (.str [103])),.k (.c (.str [109])),.k (.c (.str [113]))])::aJ 57 Qav [.t 55,.t 56]::Qacv) [2,3,5,6]) (sR [cJ 62 .eql 52 1,mJ 61 62] [0,2,3,4,5,6,52,61] Qav7)
def Qav9:SC:=.block 0 (sR [cJ 54 .eql 52 0,mJ 53 54] [0,2,3,4,5,6,52,53] Qav8)
def Qawa:SC:=cT 96 (.dreg 7 [0,1,2,3,4,5,6] ( mJ 97 5::kJ 98 97::fJ 99 2 98::lJ 100 99::tJ 101 4 6::fI 102 (.iad 4 (.t 100) (kI 0))::sJ 4 102 101::[]) [2,3]) .skip
def Qawb:SC:=sR [tJ 103 1 3,sJ 1 2 103] [2] .ret
def Qag8:SC:=.seq (.seq (.seq .gh (.reg [mJ 92 5,kJ 93 92,fJ 94 0 93,lJ 95 94,cJ 96 .neq 95 8] [2,3,5,6,96])) Qawa) Qawb
def Qawc:SC:=.seq (sR [mJ 51 0,aJ 52 Qt [.t 51,kI 4]] [0,2,3,4,5,6,52] Qav9) Qag8
def Qawd:SC:=sR (mJ 47 0::fI 48 (.bsl 1 [.k (.c (.str [122,122])),.k (.c (.str [97])),.k (.c (.str [98])),.k (.c (.str [99])),.k (.c (.str [100]))])::aJ 49 Qav [.t 47,.t 48]::Qacu) [0,2,3,4,5,6] Qawc
def Qawe:SC:=.seq (.dreg 13 [0,1,2,3,4,5,6,7,8,9,10,3,11,12] ( mJ 35 4::kJ 36 35::fJ 37 2 36::lJ 38 37::mJ 39 0::mJ 40 4::kJ 41 40::fJ 42 2 41::lJ 43 42::nJ 44 43::aJ 45 Qt [.t 39,.t 44]::Qacs) [0,2,3,4,5]) Qawd
def Qawf:SC:=.seq (sR [mJ 28 4,kJ 29 28,fJ 30 2 29,lJ 31 30,nJ 32 31,cJ 33 .eql 32 0] [0,2,3,4,33] Qa0j) Qawe
def Qawg:SC:=.seq (.dreg 9 [0,1,2,3,4,5,6,1,7,8] ( fJ 20 0 3::lJ 21 20::mJ 22 0::fJ 23 0 3::lJ 24 23::nJ 25 24::aJ 26 Qt [.t 22,.t 25]::Qahf) [0,2,3,4]) Qawf
def Qawh:SC:=sR (tJ 18 1 3::aJ 19 Qrd [.t 18]::Qahe) [0,2,3] Qawg
def Qawi:SC:=.seq (sR (mJ 13 0::aJ 14 Qt [.t 13,kI 6]::Qahc) [0,2,3,15] Qa0i) Qawh
def Qawj:SC:=.seq (sR (mJ 9 0::aJ 10 Qt [.t 9,kI 5]::Qahb) [0,2,3,11] Qa0h) Qawi
def Qawk:SC:=sR (mJ 7 0::aJ 8 Q0t [.t 7]::Qaha) [0,2,3] Qawj
def Qa6b:SC:=sR [eI 2 (.alloc [.sl true 3 []])] [0,2] Qawk
def Q21:List RS:=[.cell 2 1 true]
theorem Qa50:mFn prog Q8q 1 104 Qa6b Q21=true:=by kernel_rfl
end Go.AE.Y

namespace Go.AE
variable {H0 H H':Heap}{E L:List (Nat×Obj)}
theorem Kn.neM (kn:Kn H0 H E L){a b:Nat}{oa ob:Obj}(h1:(a,oa)∈L)(h2:(b,ob)∈L)(h:oa≠ob):a≠b:=fun e=>by
 subst e
 exact h ((kn.get _ (List.mem_append_right _ h1)).1.symm.trans (kn.get _ (List.mem_append_right _ h2)).1)
theorem Kn.upd1 (kn:Kn H0 H E L){x:Nat}{o o':Obj}(hm:(x,o)∈L)(h1:H'=H.set x o')(ho:o'≠.none:=by nofun):∃L',Kn H0 H' E L'∧(x,o')∈L'∧∀p∈L,p.1≠x→p∈L':=by
 obtain⟨i,hi⟩:=List.getElem?_of_mem hm
 refine⟨L.set i (x,o'),kn.stL i hi h1 ho,?_,fun p hp hne=>?_⟩
 ·have hlt:=(List.getElem?_eq_some_iff.1 hi).1
  exact List.mem_iff_getElem?.2 ⟨i,by rw[List.getElem?_set];simp[hlt]⟩
 ·obtain⟨j,hj⟩:=List.getElem?_of_mem hp
  refine List.mem_iff_getElem?.2 ⟨j,?_⟩
  rw[List.getElem?_set]
  have:i≠j:=fun e=>by
   subst e
   rw[hi]at hj
   exact hne (by rw[←Option.some.inj hj])
  rw[if_neg this];exact hj
theorem Kn.stMid {P A B Q:List (Nat×Obj)}{x:Nat}{o o':Obj}(kn:Kn H0 H E ((P++(A++(x,o)::B))++Q))(h1:H'=H.set x o')(ho:o'≠.none:=by nofun):Kn H0 H' E ((P++(A++(x,o')::B))++Q):=by
 have e:∀o,(P++(A++(x,o)::B))++Q=(P++A)++(x,o)::(B++Q):=fun o=>by simp
 rw[e]at kn⊢
 exact kn.stM h1 ho
theorem Kn.lastM {A B:List (Nat×Obj)}{x:Nat×Obj}(kn:Kn H0 H E (A++x::B)):Kn H0 H E ((A++B)++[x]):=
 kn.perm (List.perm_middle.trans (List.perm_append_singleton x (A++B)).symm)
theorem Kn.getL (kn:Kn H0 H E L){x:Nat}{o:Obj}(hm:(x,o)∈L):H x=o:=(kn.get _ (List.mem_append_right _ hm)).1
end Go.AE
namespace Go.AE.Y
attribute [local go_sem] cond_true cond_false Bool.not_true Bool.not_false
open Go.Proofs.Tryz
variable {H H0 F:Heap}{K:V→Heap→Prop}{E B Lg:List (Nat×Obj)}
theorem Gr.vec {sz:Nat}{rows:List (List C)}{c:C}(h:Gr Lg sz rows c):∀p∈Lg,∃z r,p.2=Obj.vec z r:=by
 rcases h with ⟨_,_,rfl⟩|⟨y,_,rfl⟩
 ·simp
 ·intro p hp;simp only[List.mem_singleton]at hp;subst hp;exact⟨_,_,rfl⟩
theorem OFn.vec {u:OFn}(h:u.ok):∀p∈u.lg,∃z r,p.2=Obj.vec z r:=by
 intro p hp
 rcases List.mem_append.1 hp with hp|hp
 ·exact Gr.vec h.p p hp
 ·rcases List.mem_append.1 hp with hp|hp
  ·obtain⟨o,ho,hp⟩:=List.mem_flatMap.1 hp
   exact Gr.vec (h.o o ho) p hp
  ·exact Gr.vec h.b p hp
theorem Qaxr {α:Type}{l:List α}{i:Nat}(h:i<l.length)(d:α):l.getD i d=l[i]:=by simp[List.getD_eq_getElem?_getD,h]
theorem Q8i:∀(l:List Ex) (i:Nat) (x:Ex),Ql (l.set i x)≤Ql l+x.size
 |[],i,x=>by simp[Ql]
 |y::r,0,x=>by simp only[List.set_cons_zero,Ql];omega
 |y::r,i+1,x=>by have:=Q8i r i x;simp only[List.set_cons_succ,Ql];omega
def obU (z:Nat)(us:List OFn):List (Nat×Obj):=us.flatMap OFn.lg++[(z,.vec 3 (us.map OFn.row))]
theorem Qa53 {z:Nat}{us:List OFn}(h:∀u∈us,u.ok):∀p∈obU z us,∃s r,p.2=Obj.vec s r:=by
 intro p hp
 rcases List.mem_append.1 hp with hp|hp
 ·obtain⟨u,hu,hp⟩:=List.mem_flatMap.1 hp
  exact OFn.vec (h u hu) p hp
 ·simp only[List.mem_singleton]at hp;subst hp;exact⟨_,_,rfl⟩
theorem Qank {α:Type}{l:List α}{i:Nat}(h:i<l.length){a:α}(ha:l[i]=a):∃l1 l2,l=l1++a::l2∧l1.length=i:=by
 refine⟨l.take i,l.drop (i+1),?_,by rw[List.length_take];omega⟩
 rw[←ha,List.getElem_cons_drop,List.take_append_drop]
theorem Qa0n {α:Type}(l1 l2:List α)(a b:α){i:Nat}(hi:l1.length=i):(l1++a::l2).set i b=l1++b::l2:=by
 subst hi;simp
theorem Q88 (z:Nat)(us1 us2:List OFn)(u:OFn):obU z (us1++u::us2)=us1.flatMap OFn.lg++(u.lg++(us2.flatMap OFn.lg++[(z,.vec 3 (us1.map OFn.row++u.row::us2.map OFn.row))])):=by
 simp[obU]
theorem Qayd (u:OFn)(o1 o2:List OSt)(o:OSt)(h:u.os=o1++o::o2):u.lg=u.pl++(o1.flatMap OSt.al++(o.al++(o2.flatMap OSt.al++u.bl))):=by
 simp[OFn.lg,h]
set_option maxHeartbeats 8000000 in
theorem Qa2h {R:Rdr}{k:Nat}(hH:H R.l=R.o k)(hk:k+15000000≤2^30)
  (hK:∀(l:List Fn) (H':Heap) (k':Nat),k<k'→Upd H H' [(R.l,R.o k')]→Qo l≤2^36→K (.ag [.sl false 3 (Qr l)]) H') :
  Qp prog Q8q [.c (.ptr R.l 0)] H K:=by
 refine Qw ?_
 refine Qb Qah Qa50 ?_
 refine Qa ?_
 simp only[go_sem]
 intro x2 hx2 H1 h1
 have kn:=(Kn.start1 hH (R.o_ne k)).al hx2 h1
 refine Qa ?_
 simp only[go_sem]
 refine Qass (kn.e 0 rfl) (by omega) fun l H2 k2 g1 g2 hu hpr=>?_
 have kn:=kn.callE 0 rfl hu (R.o_ne _)
 have hpos:=hpr.pos
 have hl4:=hpr.len
 have hsz:=hpr.size
 simp only[go_sem,Qaha]
 intro x3 hx3 H3 h3
 have kn:=kn.al hx3 h3
 have g3:=kn.l 1 rfl
 simp only[go_sem,Qag9,g3]
 intro H4 h4
 have kn:=kn.stL 1 rfl h4
 refine Q4 ?_
 refine Qa ?_
 simp only[go_sem]
 refine Qbt (kn.e 0 rfl) (by omega) fun v H5 hv hu=>?_
 have kn:=kn.callE 0 rfl hu (R.o_ne _)
 have g3:=kn.l 1 rfl
 have g2':=kn.l 0 rfl
 simp only[go_sem,Qahb]
 refine Qf (Qc rfl (fun hc=>?_) (fun hc=>?_))
 ·refine Qa ?_
  simp only[go_sem,g3,g2']
  intro H6 h6
  have kn:=kn.stL 0 rfl h6
  have g2':=kn.l 0 rfl
  refine Qi ?_
  simp only[go_sem,AE.X.next,Qy,Q7,Q21,List.mem_singleton,forall_eq,RS.op,g2']
  exact⟨_,(FrzL.cons (FrzR.same (Qbn _)).sl .nil).ag,hK l _ (k2+1) (by omega) kn.fin (by omega)⟩
 refine Qe ?_
 try simp only[go_sem]
 refine Q4 ?_
 refine Qa ?_
 simp only[go_sem]
 refine Qbt (kn.e 0 rfl) (by omega) fun v2 H6 hv2 hu=>?_
 have kn:=kn.callE 0 rfl hu (R.o_ne _)
 simp only[go_sem,Qahc]
 refine Qf (Qc rfl (fun hc=>?_) (fun hc=>?_))
 ·refine Qa ?_
  simp only[go_sem]
  refine Qa2f (kn.e 0 rfl) (by omega) fun l2 H7 k7 b1 b2 hu hs2=>?_
  have kn:=kn.callE 0 rfl hu (R.o_ne _)
  have g2':=kn.l 0 rfl
  simp only[go_sem,Qahd,g2']
  intro H8 h8
  have kn:=kn.stL 0 rfl h8
  have g2':=kn.l 0 rfl
  refine Qi ?_
  simp only[go_sem,AE.X.next,Qy,Q7,Q21,List.mem_singleton,forall_eq,RS.op,g2']
  exact⟨_,(FrzL.cons (FrzR.same (Qbn _)).sl .nil).ag,hK l2 _ k7 (by omega) kn.fin (by omega)⟩
 refine Qe ?_
 try simp only[go_sem]
 have g3:=kn.l 1 rfl
 refine Qa ?_
 simp only[go_sem,g3]
 refine Qakj (l:=l) rfl (.mk' _ false 3 _) (by omega) (fun f hf=>by have:=hpr.par f hf;omega) fun us t Lz H7 hux huo hz hto k2n=>?_
 have hul:us.length=l.length:=by rw[←hux,List.length_map]
 obtain⟨z,rfl,rfl⟩:∃z,t=.vsl z 3 0 us.length∧Lz=[(z,.vec 3 (us.map OFn.row))]:=by
  rcases hz with ⟨_,h,_⟩|⟨y,h1,h2⟩
  ·have:=congrArg List.length h
   rw[List.length_map,List.length_nil]at this;omega
  ·exact⟨y,by rw[h1,List.length_map],h2⟩
 have kn:=kn.addNew k2n
 have g3:=kn.l 1 rfl
 simp only[go_sem,Qahe,g3]
 intro H8 h8
 have kn:Kn H H8 [(R.l,R.o (k2+1+1))] ([(x2,.st [.sl true 3 []]),(x3,.st [.vsl z 3 0 us.length])]++obU z us):=kn.stL 1 rfl h8
 have fin:∀(us':List OFn) (L8:List (Nat×Obj)) (H8 H9:Heap) (k8:Nat),(∀u∈us',u.ok)→us'.length=us.length→Qo (us'.map OFn.f)≤2^36→k<k8→Kn H H8 [(R.l,R.o k8)] L8→(x2,.st [.sl true 3 []])∈L8→(∀p∈obU z us',p∈L8)→H9=H8.set x2 (.st [.vsl z 3 0 us.length])→
   Qy Q21 (unK H K) .ret [(2,.c (.ptr x2 0))] H9:=by
  intro us' L8 H8 H9 k8 hu' hl' hs' hkk kn hm2 hmem h9
  obtain⟨L9,kn9,hx29,hoth⟩:=kn.upd1 hm2 h9
  have g2:=kn9.getL hx29
  simp only[go_sem,Qy,Q7,Q21,List.mem_singleton,forall_eq,RS.op,g2]
  have hin:∀p∈obU z us',p∈L9:=fun p hp=>hoth p (hmem p hp) fun e=>by
   obtain⟨s,r,he⟩:=Qa53 hu' p hp
   obtain⟨p1,p2⟩:=p
   simp only at he e
   exact kn.neM (hmem _ hp) hm2 (by rw[he];nofun) e
  have hf:=Qas3 (H:=H9) (S:=un H) hu' (Gr.mk (n:=us.length) z 3 (us'.map OFn.row) (by rw[List.length_map];omega)) fun p hp=>⟨(kn9.get p (List.mem_append_right _ (hin p hp))).1,Qod (kn9.loc p (hin p hp))⟩
  exact⟨_,(FrzL.cons hf .nil).ag,hK _ _ k8 hkk kn9.fin hs'⟩
 have gz:H8 z=.vec 3 (us.map OFn.row):=kn.getL (by simp[obU])
 have g3:=kn.l 1 rfl
 refine Qaz ?_
 simp only[go_sem,g3,gz,List.length_map,Nat.zero_add,Nat.le_refl]
 try intro _
 refine Qbt (kn.e 0 rfl) (by omega) fun iv H9 hiv hu=>?_
 have kn:Kn H H9 [(R.l,R.o (k2+1+1+1))] ([(x2,.st [.sl true 3 []]),(x3,.st [.vsl z 3 0 us.length])]++obU z us):=kn.callE 0 rfl hu (R.o_ne _)
 rw[if_neg (by omega)]at hiv
 obtain⟨i,rfl⟩:=Int.eq_ofNat_of_zero_le hiv.1
 have hi:i<us.length:=by omega
 have gz:H9 z=.vec 3 (us.map OFn.row):=kn.getL (by simp[obU])
 have g3:=kn.l 1 rfl
 have htk:(us.map OFn.row).take us.length=us.map OFn.row:=List.take_of_length_le (by rw[List.length_map];exact Nat.le_refl _)
 obtain⟨u,hue⟩:∃u,us[i]=u:=⟨_,rfl⟩
 have hum:u∈us:=by rw[←hue];exact List.getElem_mem hi
 have hur:=huo u hum
 have hpo:=hur.p.isOw
 have hbo:=hur.b.isOw
 have hrow:(us.map OFn.row).getD i []=[.str u.f.name,u.pc,u.bc]:=by rw[Qaxr (by rw[List.length_map];exact hi),List.getElem_map,hue];rfl
 simp only[go_sem,Qahf,g3,gz,hi,List.length_map,Nat.zero_add,Nat.le_refl]
 have hsb:Slc H9 5 (u.os.map OSt.row) u.bc:=by
  have hm:∀p∈u.bl,H9 p.1=p.2:=fun p hp=>kn.getL (List.mem_append_right _ (List.mem_append_left _ (List.mem_flatMap.2 ⟨u,hum,List.mem_append_right _ (List.mem_append_right _ hp)⟩)))
  have hb:=hur.b
  refine⟨?_,hb.elemSz,?_,hb.lenC⟩
  ·rcases hb with ⟨h1,h2,h3⟩|⟨y,h1,h2⟩
   ·rw[h1];trivial
   ·have:=hm (y,.vec 5 (u.os.map OSt.row)) (by rw[h2];simp)
    rw[h1];simp only[okSl];simp only[this];simp
  ·rcases hb with ⟨h1,h2,h3⟩|⟨y,h1,h2⟩
   ·rw[h1,h2];rfl
   ·have:=hm (y,.vec 5 (u.os.map OSt.row)) (by rw[h2];simp)
    rw[h1];simp only[rowsOf];simp only[this,List.drop_zero,List.take_length]
 have hokb:=eq_true hsb.ok
 have hlnb:=hsb.len
 rw[List.length_map]at hlnb
 refine Q4 ?_
 refine Qa ?_
 simp only[go_sem,gz,hi,htk,hrow,hpo,hbo,hokb,hlnb,List.length_map,Nat.zero_add,Nat.le_refl]
 try intro hlim
 have hsz1:∀us':List OFn,us'.map OFn.f=l→Qo (us'.map OFn.f)≤2^36:=fun us' h=>by rw[h];omega
 refine Qf (Qc rfl (fun hc=>?_) (fun hc=>?_))
 ·have g2:=kn.l 0 rfl
  refine Qa ?_
  simp only[go_sem,g3,g2]
  intro H10 h10
  refine Qi ?_
  try simp only[go_sem,AE.X.next]
  exact fin us _ _ _ (k2+1+1+1) huo rfl (hsz1 us hux) (by omega) kn (by simp) (fun p hp=>List.mem_append_right _ hp) h10
 have hone:0<u.os.length:=by
  have h:¬((u.os.length:Int)=0):=by simpa using hc
  omega
 obtain⟨y,hbc,hbl⟩:∃y,u.bc=.vsl y 5 0 u.os.length∧u.bl=[(y,.vec 5 (u.os.map OSt.row))]:=by
  rcases hur.b with ⟨_,h,_⟩|⟨y,h1,h2⟩
  ·have:=congrArg List.length h
   rw[List.length_map,List.length_nil]at this;omega
  ·exact⟨y,by rw[h1,List.length_map],h2⟩
 have hym:(y,Obj.vec 5 (u.os.map OSt.row))∈obU z us:=List.mem_append_left _ (List.mem_flatMap.2 ⟨u,hum,List.mem_append_right _ (List.mem_append_right _ (by rw[hbl];simp))⟩)
 have hrowb:=hrow
 rw[hbc]at hrow
 refine Qe ?_
 try simp only[go_sem]
 have gy:H9 y=.vec 5 (u.os.map OSt.row):=kn.getL (List.mem_append_right _ hym)
 refine Qaz ?_
 simp only[go_sem,gz,gy,hi,htk,hrow,hpo,List.length_map,Nat.zero_add,Nat.le_refl]
 try intro _
 refine Qbt (kn.e 0 rfl) (by omega) fun jv H10 hjv hu=>?_
 have kn:Kn H H10 [(R.l,R.o (k2+1+1+1+1))] ([(x2,.st [.sl true 3 []]),(x3,.st [.vsl z 3 0 us.length])]++obU z us):=kn.callE 0 rfl hu (R.o_ne _)
 rw[if_neg (by omega)]at hjv
 obtain⟨j,rfl⟩:=Int.eq_ofNat_of_zero_le hjv.1
 have hj:j<u.os.length:=by omega
 have gz:H10 z=.vec 3 (us.map OFn.row):=kn.getL (by simp[obU])
 have gy:H10 y=.vec 5 (u.os.map OSt.row):=kn.getL (List.mem_append_right _ hym)
 have htky:(u.os.map OSt.row).take u.os.length=u.os.map OSt.row:=List.take_of_length_le (by rw[List.length_map];exact Nat.le_refl _)
 obtain⟨o,hoe⟩:∃o,u.os[j]=o:=⟨_,rfl⟩
 have hom:o∈u.os:=by rw[←hoe];exact List.getElem_mem hj
 have hook:=hur.o o hom
 have hao:=Gr.isOw hook
 have horow:(u.os.map OSt.row).getD j []=[.int .i64 o.x.op,.str o.x.name,o.ac,.sl false 5 (Qk o.x.body),.sl false 5 (Qk o.x.els)]:=by rw[Qaxr (by rw[List.length_map];exact hj),List.getElem_map,hoe];rfl
 simp only[go_sem,Qacs,gz,gy,hi,hj,htk,hrow,hpo,List.length_map,Nat.zero_add,Nat.le_refl]
 refine Qa ?_
 simp only[go_sem]
 refine of_c (ss:=[[122,122],[97],[98],[99],[100]]) (kn.e 0 rfl) (by omega) (by simp) fun w H11 hw hu=>?_
 have kn:Kn H H11 [(R.l,R.o (k2+1+1+1+1+1))] ([(x2,.st [.sl true 3 []]),(x3,.st [.vsl z 3 0 us.length])]++obU z us):=kn.callE 0 rfl hu (R.o_ne _)
 simp only[go_sem,Qacu]
 intro x6 hx6 H12 h12
 have kn:=kn.al hx6 h12
 have g6:H12 x6=.st [.int .i64 0,.int .i64 0,.str [],.sl true 4 []]:=kn.getL (by simp)
 simp only[go_sem,Qact,g6]
 intro H13 h13
 have kn:Kn H H13 [(R.l,R.o (k2+1+1+1+1+1))] (([(x2,.st [.sl true 3 []]),(x3,.st [.vsl z 3 0 us.length])]++obU z us)++(x6,.st [.int .i64 2,.int .i64 0,.str w,.sl true 4 []])::[]):=by
  refine Kn.stM (A:=[(x2,.st [.sl true 3 []]),(x3,.st [.vsl z 3 0 us.length])]++obU z us) kn h13
 refine Q4 ?_
 refine Qa ?_
 simp only[go_sem]
 refine Qbt (kn.e 0 rfl) (by omega) fun q H14 hq hu=>?_
 have kn:Kn H H14 [(R.l,R.o (k2+1+1+1+1+1+1))] (([(x2,.st [.sl true 3 []]),(x3,.st [.vsl z 3 0 us.length])]++obU z us)++(x6,.st [.int .i64 2,.int .i64 0,.str w,.sl true 4 []])::[]):=kn.callE 0 rfl hu (R.o_ne _)
 simp only[go_sem]
 have hfl:∀f':Fn,Qo ((us.map OFn.f).set i f')≤2^34+Qh f'.body:=fun f'=>by
  have:=Qro (us.map OFn.f) i f'
  rw[hux]at this⊢
  omega
 have hub:Qh u.f.body≤2^34:=by
  have:u.f∈l:=by rw[←hux];exact List.mem_map_of_mem hum
  have:=Qaq this
  omega
 have hobs:o.x.size≤Qh u.f.body:=by
  have:o.x∈u.f.body:=by rw[←hur.x];exact List.mem_map_of_mem hom
  exact Qak this
 obtain⟨us1,us2,hus,hi1⟩:=Qank hi hue
 obtain⟨o1,o2,hos,hj1⟩:=Qank hj hoe
 have hP:Qo (us1.map OFn.f)+Qh u.f.body+Qo (us2.map OFn.f)≤2^34:=by
  have h1:l=us1.map OFn.f++u.f::us2.map OFn.f:=by rw[←hux,hus];simp
  rw[h1,Qi5]at hsz
  simp only[Qo]at hsz
  omega
 have hSz:Qh (o1.map OSt.x)+o.x.size+Qh (o2.map OSt.x)=Qh u.f.body:=by
  have h1:u.f.body=o1.map OSt.x++o.x::o2.map OSt.x:=by rw[←hur.x,hos];simp
  rw[h1,Qay];simp only[Qh];omega
 have hok':∀u':OFn,u'.ok→∀v∈us1++u'::us2,v.ok:=by
  intro u' hu' v hv
  rcases List.mem_append.1 hv with hv|hv
  ·exact huo v (by rw[hus];exact List.mem_append_left _ hv)
  ·rcases List.mem_cons.1 hv with rfl|hv
   ·exact hu'
   ·exact huo v (by rw[hus];exact List.mem_append_right _ (List.mem_cons_of_mem _ hv))
 have hlen':∀u':OFn,(us1++u'::us2).length=us.length:=fun u'=>by rw[hus];simp
 have hps':∀u':OFn,Qh u'.f.body≤2^35→Qo ((us1++u'::us2).map OFn.f)≤2^36:=fun u' h=>by
  rw[List.map_append,List.map_cons,Qi5]
  simp only[Qo];omega
 have hoo:∀v∈o1++o2,v.ok:=fun v hv=>hur.o v (by
  rw[hos]
  rcases List.mem_append.1 hv with hv|hv
  ·exact List.mem_append_left _ hv
  ·exact List.mem_append_right _ (List.mem_cons_of_mem _ hv))
 have hargs:0<o.x.args.length:=by
  have h1:o.x∈u.f.body:=by rw[←hur.x];exact List.mem_map_of_mem hom
  have h2:u.f∈l:=by rw[←hux];exact List.mem_map_of_mem hum
  have:=Qa0x (hpr.ok _ h2) _ h1
  rw[St.ok_eq]at this
  exact this.1
 have last:∀(op n:Int) (nm:List UInt8) (ks:C) (kk:List Ex) (H14:Heap) (e14:Env) (k14:Nat),k<k14→Kn H H14 [(R.l,R.o k14)] (([(x2,.st [.sl true 3 []]),(x3,.st [.vsl z 3 0 us.length])]++obU z us)++(x6,.st [.int .i64 op,.int .i64 n,.str nm,ks])::[])→ks.isOw=false→
   (∀(H:Heap) (S:Nat→Bool),FrzC H S ks (.sl false 4 (Qv kk)))→Ql kk≤10→
   lk 2 e14=.c (.ptr x2 0)→lk 3 e14=.c (.ptr x3 0)→lk 5 e14=.c (.ep (.vsl y 5 0 u.os.length) 5 j 0)→lk 6 e14=.c (.ptr x6 0)→Q8 prog Qag8 (Qy Q21 (unK H K)) e14 H14:=by
  intro op n nm ks kk H14 e14 k14 hk14 kn hko hkf hks f2 f3 f5 f6
  have g6:H14 x6=.st [.int .i64 op,.int .i64 n,.str nm,ks]:=kn.getM
  have kz:=Kn.frzN (Lg:=[]) (B:=([(x2,.st [.sl true 3 []]),(x3,.st [.vsl z 3 0 us.length])]++obU z us)++(x6,.st [.int .i64 op,.int .i64 n,.str nm,ks])::[]) (by rw[List.append_nil];exact kn)
  have kz:=kz.stM (o':=.st [.int .i64 op,.int .i64 n,.str nm,.sl false 4 (Qv kk)]) rfl
  have hfz:=(Qvf H14 (fun m=>(([]:List (Nat×Obj)).map Prod.fst).contains m)).set (l:=x6) (o:=.st [.int .i64 op,.int .i64 n,.str nm,.sl false 4 (Qv kk)]) rfl (by
   rw[g6];exact FrzKL.st (.same (.same (.same (.cons hko (hkf _ _) .nil)))))
  obtain⟨H15,hH15⟩:∃H15,((H14.frz (fun m=>(([]:List (Nat×Obj)).map Prod.fst).contains m)).set x6 (.st [.int .i64 op,.int .i64 n,.str nm,.sl false 4 (Qv kk)]))=H15:=⟨_,rfl⟩
  rw[hH15]at kz hfz
  refine Q4 ?_
  refine Q4 ?_
  refine c_gh (Qvg _ (Qaxq ?_) hfz) (e':=[(2,.c (.ptr x2 0)),(3,.c (.ptr x3 0)),(5,.c (.ep (.vsl y 5 0 u.os.length) 5 j 0)),(6,.c (.ptr x6 0))]) ?_
  ·intro p hp
   simp only[List.mem_cons,List.not_mem_nil,or_false]at hp
   rcases hp with rfl|rfl|rfl|rfl
   ·simp only[f2];exact .c _ _ (.same _ rfl)
   ·simp only[f3];exact .c _ _ (.same _ rfl)
   ·simp only[f5];exact .c _ _ (.same _ rfl)
   ·simp only[f6];exact .c _ _ (.same _ rfl)
  have gy:H15 y=.vec 5 (u.os.map OSt.row):=kz.getL (List.mem_append_left _ (List.mem_append_right _ hym))
  have g6:H15 x6=.st [.int .i64 op,.int .i64 n,.str nm,.sl false 4 (Qv kk)]:=kz.getM
  have g2:=kz.l 0 rfl
  have g3:=kz.l 1 rfl
  refine Qa ?_
  simp only[go_sem,gy,hj,htky,horow,hao,List.length_map,Nat.zero_add,Nat.le_refl]
  refine Qf (Qc rfl (fun hc=>?_) (fun hc=>?_))
  ·obtain⟨ya,hac,hal⟩:∃ya,o.ac=.vsl ya 4 0 o.x.args.length∧o.al=[(ya,.vec 4 (Qv o.x.args))]:=by
    rcases (show Gr o.al 4 (Qv o.x.args) o.ac from hook)with ⟨_,h,_⟩|⟨y,h1,h2⟩
    ·have:=congrArg List.length h
     rw[Qj,List.length_nil]at this;omega
    ·exact⟨y,by rw[h1,Qj],h2⟩
   have hA:obU z us=(us1.flatMap OFn.lg++(u.pl++o1.flatMap OSt.al))++(ya,.vec 4 (Qv o.x.args))::((o2.flatMap OSt.al++u.bl)++(us2.flatMap OFn.lg++[(z,.vec 3 (us1.map OFn.row++u.row::us2.map OFn.row))])):=by
    conv=>lhs;rw[hus]
    rw[Q88,Qayd u o1 o2 o hos,hal]
    simp only[List.append_assoc,List.cons_append,List.nil_append]
   have gya:H15 ya=.vec 4 (Qv o.x.args):=kz.getL (List.mem_append_left _ (List.mem_append_right _ (by rw[hA];simp)))
   have hg0:=Qac o.x.args 0 hargs
   rw[Ex.cells_eq]at hg0
   rw[hac]at horow
   refine Qeo ?_
   simp only[go_sem,gy,g6,gya,hj,htky,horow,hac,hargs,hg0,Qj,List.length_map,Int.le_refl,Nat.zero_add,Nat.le_refl]
   intro H16 h16
   try simp only[go_sem,AE.X.next]
   obtain⟨x',hx'⟩:∃x':St,x'=.mk o.x.op o.x.name (o.x.args.set 0 (.mk op n nm kk)) o.x.body o.x.els:=⟨_,rfl⟩
   obtain⟨o',ho'⟩:∃o':OSt,o'=⟨x',o.ac,[(ya,.vec 4 (Qv x'.args))]⟩:=⟨_,rfl⟩
   obtain⟨u',hu'⟩:∃u':OFn,u'=⟨⟨u.f.name,u.f.params,o1.map OSt.x++x'::o2.map OSt.x⟩,u.pc,u.pl,o1++o'::o2,u.bc,u.bl⟩:=⟨_,rfl⟩
   have hxs:Qv x'.args=(Qv o.x.args).set 0 [.int .i64 op,.int .i64 n,.str nm,.sl false 4 (Qv kk)]:=by
    rw[hx'];simp only[St.args,Qq8,List.map_set,Ex.cells_eq,Ex.op,Ex.n,Ex.name,Ex.kids]
   have hrow':o'.row=o.row:=by rw[ho',hx'];rfl
   have hok0:o'.ok:=by
    rw[ho']
    show Gr _ 4 (Qv x'.args) o.ac
    rw[hac]
    exact Gr.mk (n:=o.x.args.length) ya 4 (Qv x'.args) (by rw[hxs,List.length_set,Qj])
   have huok:u'.ok:=by
    rw[hu']
    refine⟨hur.p,fun v hv=>?_,?_,by rw[List.map_append,List.map_cons,ho']⟩
    ·rcases List.mem_append.1 hv with hv|hv
     ·exact hoo v (List.mem_append_left _ hv)
     ·rcases List.mem_cons.1 hv with rfl|hv
      ·exact hok0
      ·exact hoo v (List.mem_append_right _ hv)
    ·have hb:=hur.b
     rw[hos]at hb
     show Gr u.bl 5 ((o1++o'::o2).map OSt.row) u.bc
     rw[List.map_append,List.map_cons,hrow']
     rw[List.map_append,List.map_cons]at hb
     exact hb
   have hA2:obU z (us1++u'::us2)=(us1.flatMap OFn.lg++(u.pl++o1.flatMap OSt.al))++(ya,.vec 4 (Qv x'.args))::((o2.flatMap OSt.al++u.bl)++(us2.flatMap OFn.lg++[(z,.vec 3 (us1.map OFn.row++u.row::us2.map OFn.row))])):=by
    rw[Q88,Qayd u' o1 o2 o' (by rw[hu']),ho',hu']
    simp only[List.append_assoc,List.cons_append,List.nil_append,OFn.row]
   have kz2:Kn H H16 [(R.l,R.o k14)] (([(x2,.st [.sl true 3 []]),(x3,.st [.vsl z 3 0 us.length])]++obU z (us1++u'::us2))++(x6,.st [.int .i64 op,.int .i64 n,.str nm,.sl false 4 (Qv kk)])::[]):=by
    rw[hA2,hxs]
    rw[hA]at kz
    exact kz.stMid h16
   have g2:=kz2.l 0 rfl
   have g3:=kz2.l 1 rfl
   refine Qa ?_
   simp only[go_sem,g2,g3]
   intro H17 h17
   refine Qi ?_
   refine fin (us1++u'::us2) _ _ _ k14 (hok' u' huok) (hlen' u') (hps' u' ?_) hk14 kz2 (by simp) (fun p hp=>List.mem_append_left _ (List.mem_append_right _ hp)) h17
   have he:=Q8i o.x.args 0 (.mk op n nm kk)
   have hse:=o.x.size_eq
   rw[hu']
   simp only[Qay,Qh]
   rw[hx']
   simp only[St.size,Ex.size]at he⊢
   omega
  ·refine Qe ?_
   try simp only[go_sem,AE.X.next]
   refine Qa ?_
   simp only[go_sem,g2,g3]
   intro H17 h17
   refine Qi ?_
   exact fin us _ _ _ k14 huo rfl (hsz1 us hux) hk14 kz (by simp) (fun p hp=>List.mem_append_left _ (List.mem_append_right _ hp)) h17
 have gz:H14 z=.vec 3 (us.map OFn.row):=kn.getL (by simp[obU])
 have gy:H14 y=.vec 5 (u.os.map OSt.row):=kn.getL (List.mem_append_left _ (List.mem_append_right _ hym))
 have g2:=kn.l 0 rfl
 have g3:=kn.l 1 rfl
 refine Qf (Qd ?_)
 refine Qa ?_
 simp only[go_sem]
 refine Qc rfl (fun hc0=>?_) (fun hc0=>?_)
 ·refine Qs ?_
  simp only[go_sem]
  refine of_c (ss:=[[102],[103],[109],[113]]) (kn.e 0 rfl) (by omega) (by simp) fun w2 H15 hw2 hu=>?_
  have kn:Kn H H15 [(R.l,R.o (k2+1+1+1+1+1+1+1))] (([(x2,.st [.sl true 3 []]),(x3,.st [.vsl z 3 0 us.length])]++obU z us)++(x6,.st [.int .i64 2,.int .i64 0,.str w,.sl true 4 []])::[]):=kn.callE 0 rfl hu (R.o_ne _)
  have g6:H15 x6=.st [.int .i64 2,.int .i64 0,.str w,.sl true 4 []]:=kn.getM
  simp only[go_sem,Qacv,g6]
  intro H16 h16
  have kn:=kn.stM h16
  try simp only[go_sem,AE.X.next]
  exact last 13 0 w2 _ [.mk 1 1 [] []] _ _ _ (by omega) kn rfl (Qaoq 1) (by simp[Ql,Ex.size]) rfl rfl rfl rfl
 refine Qa ?_
 simp only[go_sem]
 refine Qc rfl (fun hc1=>?_) (fun hc1=>?_)
 ·refine Q4 ?_
  refine Qa ?_
  simp only[go_sem,gy,hj,htky,horow,hao,List.length_map,Nat.zero_add,Nat.le_refl]
  refine Qf (Qc rfl (fun hcn=>?_) (fun hcn=>?_))
  ·refine Qs ?_
   simp only[go_sem]
   refine of_c (ss:=[[97],[98],[122,122],[99],[100]]) (kn.e 0 rfl) (by omega) (by simp) fun w2 H15 hw2 hu=>?_
   have kn:Kn H H15 [(R.l,R.o (k2+1+1+1+1+1+1+1))] (([(x2,.st [.sl true 3 []]),(x3,.st [.vsl z 3 0 us.length])]++obU z us)++(x6,.st [.int .i64 2,.int .i64 0,.str w,.sl true 4 []])::[]):=kn.callE 0 rfl hu (R.o_ne _)
   have gy:H15 y=.vec 5 (u.os.map OSt.row):=kn.getL (List.mem_append_left _ (List.mem_append_right _ hym))
   simp only[go_sem,Qacw,gy,hj,htky,horow,hao,List.length_map,Nat.zero_add,Nat.le_refl]
   intro H16 h16
   try simp only[go_sem,AE.X.next]
   obtain⟨x',hx'⟩:∃x':St,x'=.mk o.x.op w2 o.x.args o.x.body o.x.els:=⟨_,rfl⟩
   obtain⟨o',ho'⟩:∃o':OSt,o'=⟨x',o.ac,o.al⟩:=⟨_,rfl⟩
   obtain⟨u',hu'⟩:∃u':OFn,u'=⟨⟨u.f.name,u.f.params,o1.map OSt.x++x'::o2.map OSt.x⟩,u.pc,u.pl,o1++o'::o2,u.bc,[(y,.vec 5 ((o1++o'::o2).map OSt.row))]⟩:=⟨_,rfl⟩
   have hrow':o'.row=[.int .i64 o.x.op,.str w2,o.ac,.sl false 5 (Qk o.x.body),.sl false 5 (Qk o.x.els)]:=by rw[ho',hx'];rfl
   have hok0:o'.ok:=by
    rw[ho',hx'];exact hook
   have hrs:(u.os.map OSt.row).set j [.int .i64 o.x.op,.str w2,o.ac,.sl false 5 (Qk o.x.body),.sl false 5 (Qk o.x.els)]=(o1++o'::o2).map OSt.row:=by
    rw[←hrow',←List.map_set,hos,Qa0n o1 o2 o o' hj1]
   have huok:u'.ok:=by
    rw[hu']
    refine⟨hur.p,fun v hv=>?_,?_,by rw[List.map_append,List.map_cons,ho']⟩
    ·rcases List.mem_append.1 hv with hv|hv
     ·exact hoo v (List.mem_append_left _ hv)
     ·rcases List.mem_cons.1 hv with rfl|hv
      ·exact hok0
      ·exact hoo v (List.mem_append_right _ hv)
    ·show Gr [(y,.vec 5 ((o1++o'::o2).map OSt.row))] 5 ((o1++o'::o2).map OSt.row) u.bc
     rw[hbc]
     exact Gr.mk (n:=u.os.length) y 5 _ (by rw[hos];simp)
   have hA:obU z us=(us1.flatMap OFn.lg++(u.pl++u.os.flatMap OSt.al))++(y,.vec 5 (u.os.map OSt.row))::(us2.flatMap OFn.lg++[(z,.vec 3 (us1.map OFn.row++u.row::us2.map OFn.row))]):=by
    conv=>lhs;rw[hus]
    rw[Q88,OFn.lg,hbl]
    simp only[List.append_assoc,List.cons_append,List.nil_append]
   have hal:(o1++o'::o2).flatMap OSt.al=u.os.flatMap OSt.al:=by
    rw[hos,ho'];simp
   have hA2:obU z (us1++u'::us2)=(us1.flatMap OFn.lg++(u.pl++u.os.flatMap OSt.al))++(y,.vec 5 ((o1++o'::o2).map OSt.row))::(us2.flatMap OFn.lg++[(z,.vec 3 (us1.map OFn.row++u.row::us2.map OFn.row))]):=by
    rw[Q88,hu']
    simp only[OFn.lg,OFn.row,hal,List.append_assoc,List.cons_append,List.nil_append]
   have kz2:Kn H H16 [(R.l,R.o (k2+1+1+1+1+1+1+1))] (([(x2,.st [.sl true 3 []]),(x3,.st [.vsl z 3 0 us.length])]++obU z (us1++u'::us2))++(x6,.st [.int .i64 2,.int .i64 0,.str w,.sl true 4 []])::[]):=by
    rw[hA2,←hrs]
    rw[hA]at kn
    exact kn.stMid h16
   have g2:=kz2.l 0 rfl
   have g3:=kz2.l 1 rfl
   refine Qa ?_
   simp only[go_sem,g2,g3]
   intro H17 h17
   refine Qi ?_
   try simp only[go_sem,AE.X.next]
   refine fin (us1++u'::us2) _ _ _ _ (hok' u' huok) (hlen' u') (hps' u' ?_) (by omega) kz2 (by simp) (fun p hp=>List.mem_append_left _ (List.mem_append_right _ hp)) h17
   have hse:=o.x.size_eq
   rw[hu']
   simp only[Qay,Qh]
   rw[hx']
   simp only[St.size]
   omega
  ·refine Qe ?_
   try simp only[go_sem,AE.X.next]
   refine Qa ?_
   simp only[go_sem,g2,g3]
   intro H17 h17
   refine Qi ?_
   try simp only[go_sem,AE.X.next]
   exact fin us _ _ _ _ huo rfl (hsz1 us hux) (by omega) kn (by simp) (fun p hp=>List.mem_append_left _ (List.mem_append_right _ hp)) h17
 refine Qa ?_
 simp only[go_sem]
 refine Qc rfl (fun hc2=>?_) (fun hc2=>?_)
 ·have hsl:sliC none (some 1) u.bc=.vsl y 5 0 1:=by rw[hbc];simp[sliC]
  have hokb:okSl H14 u.bc=True:=by rw[hbc];simp[okSl,gy]
  have hszb:u.bc.elemSz=5:=by rw[hbc];rfl
  have h1m:((1:Int)≤(u.os.length:Int))=True:=eq_true (by omega)
  refine Qaz ?_
  simp only[go_sem,gz,hi,htk,hrowb,hpo,hbo,hokb,hlnb,hszb,hsl,h1m,bnds,Option.map_none,Option.map_some,Option.getD_none,Option.getD_some,List.length_map,Nat.zero_add,Nat.le_refl]
  have hbx:(u.os.take 1).map OSt.x=u.f.body.take 1:=by rw[←hur.x,List.map_take]
  have hrx:(u.os.map OSt.row).take 1=(u.os.take 1).map OSt.row:=by rw[List.map_take]
  have hsz1':=Qa3 u.f.body 1
  have hsl1:Slc H14 5 ((u.os.take 1).map OSt.row) (.vsl y 5 0 1):=by
   rw[←hrx]
   refine⟨by simp only[okSl,gy,List.length_map];exact⟨trivial,by omega⟩,rfl,by simp[rowsOf,gy],?_⟩
   simp only[Qasu,List.length_take,List.length_map];omega
  have hrd:SRd H14 ((u.os.take 1).map OSt.row) ((u.os.take 1).map OSt.x):=SRd.os (fun v hv=>hur.o v (List.mem_of_mem_take hv)) fun p hp=>by
   obtain⟨v,hv,hp⟩:=List.mem_flatMap.1 hp
   exact kn.getL (List.mem_append_left _ (List.mem_append_right _ (List.mem_append_left _ (List.mem_flatMap.2 ⟨u,hum,List.mem_append_right _ (List.mem_append_left _ (List.mem_flatMap.2 ⟨v,List.mem_of_mem_take hv,hp⟩))⟩))))
  refine⟨⟨by omega,by omega⟩,?_⟩
  refine Qa78 (Qh ((u.os.take 1).map OSt.x)) ((u.os.take 1).map OSt.x) _ (.vsl y 5 0 1) H14 _ (Nat.le_refl _) (by rw[hbx];omega) rfl hsl1 hrd fun os2 t2 Lb H15 hx2 ho2 hz2 k2n=>?_
  have hlen2:os2.length≤1:=by
   have:=congrArg List.length hx2
   rw[List.length_map,List.length_map,List.length_take]at this
   omega
  have hto2:=hz2.isOw
  have hA:obU z us=(us1.flatMap OFn.lg++(u.pl++u.os.flatMap OSt.al))++(y,.vec 5 (u.os.map OSt.row))::(us2.flatMap OFn.lg++[(z,.vec 3 (us.map OFn.row))]):=by
   conv=>lhs;rw[hus]
   rw[Q88,OFn.lg,hbl]
   have:us.map OFn.row=us1.map OFn.row++u.row::us2.map OFn.row:=by rw[hus];simp
   rw[this]
   simp only[List.append_assoc,List.cons_append,List.nil_append]
  have kn:=kn.addNew k2n
  have gz:H15 z=.vec 3 (us.map OFn.row):=kn.getL (by simp[obU])
  rw[hA]at kn
  have kn:Kn H H15 [(R.l,R.o (k2+1+1+1+1+1+1))] ((([(x2,.st [.sl true 3 []]),(x3,.st [.vsl z 3 0 us.length])]++(us1.flatMap OFn.lg++(u.pl++u.os.flatMap OSt.al)))++(us2.flatMap OFn.lg++(z,.vec 3 (us.map OFn.row))::((x6,.st [.int .i64 2,.int .i64 0,.str w,.sl true 4 []])::(os2.flatMap OSt.al++Lb))))++u.bl):=by
   rw[hbl]
   refine Kn.lastM ?_
   simpa only[List.append_assoc,List.cons_append,List.nil_append]using kn
  simp only[go_sem,Qacy,gz,hi,htk,hrowb,hpo,hbo,List.length_map,Nat.zero_add,Nat.le_refl]
  have hubl:u.os.length≤Qh u.f.body:=by
   have:=Qby u.f.body
   rw[←hur.x,List.length_map]at this
   rw[←hur.x];exact this
  refine kn.growR hur.b (Gr.slc2 hz2 k2n) (fun r hr=>by
   obtain⟨v,hv,rfl⟩:=List.mem_map.1 hr
   exact OSt.noOw (ho2 v hv)) (by simp only[List.length_map,LIM];omega) fun t3 L3 H16 hg3 hto3 kn=>?_
  have gz:H16 z=.vec 3 (us.map OFn.row):=kn.getL (by simp)
  simp only[go_sem,Qacx,gz,hi,htk,hrowb,hpo,hto3,List.length_map,Nat.zero_add,Nat.le_refl]
  intro H17 h17
  try simp only[go_sem,AE.X.next]
  obtain⟨u',hu'⟩:∃u':OFn,u'=⟨⟨u.f.name,u.f.params,u.f.body++u.f.body.take 1⟩,u.pc,u.pl,u.os++os2,t3,L3⟩:=⟨_,rfl⟩
  have huok:u'.ok:=by
   rw[hu']
   refine⟨hur.p,fun v hv=>?_,?_,by rw[List.map_append,hur.x,hx2,hbx]⟩
   ·rcases List.mem_append.1 hv with hv|hv
    ·exact hur.o v hv
    ·exact ho2 v hv
   ·show Gr L3 5 ((u.os++os2).map OSt.row) t3
    rw[List.map_append];exact hg3
  have hrs:(us.map OFn.row).set i [.str u.f.name,u.pc,t3]=(us1++u'::us2).map OFn.row:=by
   have:[.str u.f.name,u.pc,t3]=u'.row:=by rw[hu'];rfl
   rw[this,←List.map_set]
   conv=>lhs;rw[hus,Qa0n us1 us2 u u' hi1]
  rw[hrs]at h17
  have kn:Kn H H16 [(R.l,R.o (k2+1+1+1+1+1+1))] (([(x2,.st [.sl true 3 []]),(x3,.st [.vsl z 3 0 us.length])]++((us1.flatMap OFn.lg++(u.pl++u.os.flatMap OSt.al))++us2.flatMap OFn.lg))++(z,.vec 3 (us.map OFn.row))::((x6,.st [.int .i64 2,.int .i64 0,.str w,.sl true 4 []])::((os2.flatMap OSt.al++Lb)++L3))):=by
   simpa only[List.append_assoc,List.cons_append,List.nil_append]using kn
  have kn:=kn.stM h17
  have g2:=kn.l 0 rfl
  have g3:=kn.l 1 rfl
  refine Qa ?_
  simp only[go_sem,g2,g3]
  intro H18 h18
  refine Qi ?_
  try simp only[go_sem,AE.X.next]
  refine fin (us1++u'::us2) _ _ _ _ (hok' u' huok) (hlen' u') (hps' u' ?_) (by omega) kn (by simp) (fun p hp=>?_) h18
  ·rw[hu']
   simp only[Qay]
   omega
  ·rcases List.mem_append.1 hp with hp|hp
   ·obtain⟨v,hv,hpv⟩:=List.mem_flatMap.1 hp
    rcases List.mem_append.1 hv with hv|hv
    ·have:p∈us1.flatMap OFn.lg:=List.mem_flatMap.2 ⟨v,hv,hpv⟩
     simp[this]
    ·rcases List.mem_cons.1 hv with rfl|hv
     ·rw[hu']at hpv
      simp only[OFn.lg,List.flatMap_append,List.mem_append]at hpv
      rcases hpv with h|(h|h)|h
      ·simp only[List.mem_append,List.mem_cons,h,true_or,or_true]
      ·simp only[List.mem_append,List.mem_cons,h,true_or,or_true]
      ·simp only[List.mem_append,List.mem_cons,h,true_or,or_true]
      ·simp only[List.mem_append,List.mem_cons,h,true_or,or_true]
     ·have:p∈us2.flatMap OFn.lg:=List.mem_flatMap.2 ⟨v,hv,hpv⟩
      simp only[List.mem_append,List.mem_cons,this,true_or,or_true]
   ·simp only[List.mem_singleton]at hp
    subst hp
    simp
 ·refine Qe ?_
  try simp only[go_sem,AE.X.next]
  exact last 2 0 w _ [] _ _ _ (by omega) kn rfl (fun H S=>FrzR.nil.sl) (by simp[Ql]) rfl rfl rfl rfl
end Go.AE.Y

namespace Go.AE.Y
attribute [local go_sem] cond_true cond_false Bool.not_true Bool.not_false
attribute [local instance] Classical.propDecidable
open Go.Proofs.Tryz
variable {H:Heap}{K:V→Heap→Prop}{bs:List UInt8}
theorem Q0n {fl:Bool}(hK:∀(l:List Fn) H',Upd H H' []→Qo l≤2^36→K (.ag [.sl false 3 (Qr l)]) H') :
  Qp prog Qcl [.c (.sl fl 1 (Qbv bs))] H K:=by
 refine Qw ?_
 refine Qb Qah Qrk ?_
 refine Qa ?_
 simp only[go_sem]
 intro x2 hx2 H1 h1
 have kn:=(Kn.start0 H).al hx2 h1
 refine Qa ?_
 simp only[go_sem]
 refine Qax8 fun R H2 hR h2=>?_
 have kn:=kn.al hR h2 (R.o_ne 0)
 simp only[go_sem,Qel]
 refine Qa2h (kn.l 1 rfl) (by omega) fun l H3 k2 hk2 hu hsz=>?_
 have kn:=kn.callL 1 rfl hu (R.o_ne _)
 have hx2:=kn.l 0 rfl
 simp only[go_sem,Qek,hx2]
 intro H4 h4
 have kn:=kn.stL 0 rfl h4
 have hx2:=kn.l 0 rfl
 refine Qi ?_
 simp only[go_sem,Qy,Q7,Qg8,List.mem_singleton,forall_eq,RS.op,hx2]
 exact⟨_,(FrzL.cons (FrzR.same (Qbn _)).sl .nil).ag,hK l _ kn.fin hsz⟩
theorem Qan3 {fns:List Fn}(hb:Qlm fns=true)(hs:Qo fns≤2^36) :
  Q19 fns=Qb3 fns∧Qo (Qb3 fns)≤2^36∧Qlm (Qb3 fns)=true∧Q19 (Qb3 fns)=Qb3 fns∧Q2w (Qb3 fns)=0∧
  (Q6g fns).length=(Qb3 fns).length∧(Q6g (Qb3 fns)).length=(Qb3 fns).length∧(Qb3 fns).length≤4:=by
 have h:=fine_iff.1 hb
 have h2:=Q18 h
 have hb2:=fine_iff.2 h2
 refine⟨by rw[Q19,if_pos hb],by have:=Qagh h;omega,hb2,by rw[Q19,if_pos hb2,Qan2 h],by simpa[Qlm]using hb2,by rw[Q6g,if_pos hb,Qdl],by rw[Q6g,if_pos hb2,Qak7 h,List.length_range,Qdl],h2.len.2⟩
set_option maxHeartbeats 8000000 in
theorem FnDropUnneeded_c (g:GK H)(hK:∀H',K (.c (.bool true)) H'):Qp prog Qhv [.c (.sl false 1 (Qbv bs))] H K:=by
 have g0:=g
 refine Qb Qah Qxs ?_
 have retT':∀(e:Env) (H':Heap),lk 2 e=.c (.bool true)→Qy Qd1 K .ret e H':=by
  intro e H' h2
  simp only[go_sem,Qy,Q7,Qd1,List.mem_singleton,forall_eq,RS.op,h2]
  exact hK H'
 refine Qa ?_
 simp only[go_sem]
 refine Q4 ?_
 refine Qa ?_
 simp only[go_sem,Qbf]
 intro _
 refine Qf (Qc rfl (fun hc=>?_) (fun hc=>?_))
 ·refine Qa ?_
  simp only[go_sem]
  refine Qi ?_
  exact retT' _ _ rfl
 refine Qe ?_
 try simp only[go_sem]
 refine Qa ?_
 simp only[go_sem]
 refine Q0n fun fns H1 hu hsz=>?_
 have kn:=(Kn.start0 H).call0 hu
 simp only[go_sem,Qfy]
 intro x3 hx3 H2 h2
 have kn:=kn.al hx3 h2
 have hx3:=kn.l 0 rfl
 simp only[go_sem,Qfx,hx3]
 intro H3 h3
 have kn:Kn H H3 [] [(x3,.st [.sl false 3 (Qr fns)])]:=kn.stL 0 rfl h3
 have hx3:=kn.l 0 rfl
 refine Qa ?_
 simp only[go_sem,hx3]
 refine Qasm hsz (g0.kn kn) fun H4 hu=>?_
 have kn:=kn.call0 hu
 simp only[go_sem,Qf1,List.getD_cons_zero,List.getD_cons_succ]
 intro x4 hx4 H5 h5
 have kn:=kn.al hx4 h5
 have hx4:=kn.l 1 rfl
 simp only[go_sem,Qf0,hx4]
 intro H6 h6
 have kn:Kn H H6 [] [(x3,.st [.sl false 3 (Qr fns)]),(x4,.st [.sl false 3 (Qr (Q19 fns))])]:=kn.stL 1 rfl h6
 have hx3:=kn.l 0 rfl
 simp only[go_sem,Qfz]
 refine Qa ?_
 simp only[go_sem,hx3]
 refine Qa3h hsz fun H7 hu=>?_
 have kn:=kn.call0 hu
 simp only[go_sem,Qf4,List.getD_cons_zero,List.getD_cons_succ]
 intro x6 hx6 H8 h8
 have kn:=kn.al hx6 h8
 have hx6:=kn.l 2 rfl
 simp only[go_sem,Qf3,hx6]
 intro H9 h9
 have kn:Kn H H9 [] [(x3,.st [.sl false 3 (Qr fns)]),(x4,.st [.sl false 3 (Qr (Q19 fns))]),(x6,.st [.sl false 3 (Qr (Q19 fns))])]:=kn.stL 2 rfl h9
 have hx4:=kn.l 1 rfl
 have hx6:=kn.l 2 rfl
 simp only[go_sem,Qf2]
 refine Q4 ?_
 cases hg:Qlm fns with
 |false=>
  refine Qa ?_
  simp only[go_sem,hx4,hx6]
  refine Qhs ?_
  have hx4:=kn.l 1 rfl
  have hx6:=kn.l 2 rfl
  simp only[go_sem,Qcm]
  refine Qf (Qc rfl ?_ ?_)
  ·intro _
   refine Qa ?_
   simp only[go_sem,hx4,hx6]
   refine Qhs ?_
   simp only[go_sem,Qfl]
   refine Qi ?_
   exact retT' _ _ rfl
  ·intro h;simp at h
 |true=>
  obtain⟨f1,f2,f3,f4,f5,f6,f7,f8⟩:=Qan3 hg hsz
  rw[f1]at kn hx4 hx6
  refine Qa ?_
  simp only[go_sem,hx4,hx6]
  refine Qhs ?_
  have hx4:=kn.l 1 rfl
  simp only[go_sem,Qcm]
  refine Qf (Qc rfl (fun h=>by simp at h) (fun _=>?_))
  refine Qe ?_
  try simp only[go_sem]
  refine Qa ?_
  simp only[go_sem,hx4]
  refine Qasm f2 (g0.kn kn) fun H10 hu=>?_
  rw[f4,f3]
  have kn:=kn.call0 hu
  simp only[go_sem,Qfo,List.getD_cons_zero,List.getD_cons_succ]
  intro x8 hx8 H11 h11
  have kn:=kn.al hx8 h11
  have hx8:=kn.l 3 rfl
  simp only[go_sem,Qfn,hx8]
  intro H12 h12
  have kn:Kn H H12 [] [(x3,.st [.sl false 3 (Qr fns)]),(x4,.st [.sl false 3 (Qr (Qb3 fns))]),(x6,.st [.sl false 3 (Qr (Qb3 fns))]),(x8,.st [.sl false 3 (Qr (Qb3 fns))])]:=kn.stL 3 rfl h12
  have hx4:=kn.l 1 rfl
  have hx8:=kn.l 3 rfl
  simp only[go_sem,Qfm]
  refine Qaz ?_
  simp only[go_sem,hx4,hx8]
  refine Q6e fun H13 hu=>?_
  have kn:=kn.call0 hu
  have hx4:=kn.l 1 rfl
  simp only[go_sem,Qfs,hx4]
  refine Qakc (by omega) (g0.kn kn) fun H14 hu=>?_
  rw[f5]
  have kn:=kn.call0 hu
  have hx3:=kn.l 0 rfl
  have hx4:=kn.l 1 rfl
  simp only[go_sem,Qfr,hx3,hx4]
  refine⟨fun _=>?_,fun h=>by simp at h⟩
  refine Qrg hsz (g0.kn kn) fun H15 hu=>?_
  have kn:=kn.call0 hu
  have hx4:=kn.l 1 rfl
  simp only[go_sem,Qfq,hx4]
  refine⟨fun _=>?_,fun h=>by simp[Qas,Qm,f6]at h⟩
  refine Qrg f2 (g0.kn kn) fun H16 hu=>?_
  have kn:=kn.call0 hu
  have hx4:=kn.l 1 rfl
  simp only[go_sem,Qfp,hx4]
  refine Qi ?_
  refine retT' _ _ ?_
  simp[Qas,Qm,f6,f7]
  try simp[lk]
end Go.AE.Y

namespace Go.AE.Y
open Go.ChangeShapes Go.WideShapes Go.ChangeAt Go.RowKit
def Qaww (w:World)(a:Option Addr)(len cap:Nat)(zs:List Int):Prop:=
 (a=none∧len=0∧cap=0∧zs=[])∨
 ∃x,a=some x∧len≤cap∧zs.length=cap∧(∀i,i<zs.length→w.cell? (x.add i)=some (.int .u8 (zs.getD i 0)))∧∀n∈zs,(Lit.int .u8 n).wf=true
theorem Qa4q {n:Int}(h:(Lit.int .u8 n).wf=true):((UInt8.ofNat n.toNat).toNat:Int)=n:=by
 simp only[Lit.wf,Bool.and_eq_true,decide_eq_true_eq]at h
 have a1:IntKind.min .u8=0:=by decide
 have a2:IntKind.max .u8=255:=by decide
 rw[a1,a2]at h
 rw[UInt8.toNat_ofNat']
 omega
theorem Q8d {P:Program}{f:Nat}{H0:Heap}{g0:G}(h:∀bs:List UInt8,bs.length≤1048576→Qp P f [.c (.sl false 1 (Qbv bs))] H0 fun v _=>v=.c (.bool true))
  {a0:Option Addr} {len0 cap0:Nat} {z0:List Int} {w:World} (hg:∀b,b<w.heap.size→g0.per b=true) (hs:Sat H0 g0 w) (hr:Qaww w a0 len0 cap0 z0) (hl:len0≤1048576) :
  Calls P f #[.slice a0 len0 cap0] w fun e w'=>e=.returned (.bool true)∧Below w.heap.size w w':=by
 have key:∃bs:List UInt8,bs.length=len0∧RepC w g0 (.sl false 1 (Qbv bs)) (.slice a0 len0 cap0):=by
  rcases hr with ⟨rfl,rfl,rfl,rfl⟩|⟨x,rfl,hlc,hz,hcell,hwf⟩
  ·exact⟨[],rfl,.slnil _ _ _⟩
  ·obtain⟨b,off,spot⟩:=x
   have hbl:((z0.take len0).map fun n=>UInt8.ofNat n.toNat).length=len0:=by simp;omega
   by_cases h0:cap0=0
   ·subst h0
    have:len0=0:=by omega
    subst this
    exact⟨[],rfl,.slnil _ _ _⟩
   have hc0:=hcell 0 (by omega)
   have hspot:spot=none:=by simpa[Addr.add]using World.cell?_spot hc0
   subst hspot
   have hadd:∀i,(⟨b,off,none⟩:Addr).add i=⟨b,off+i,none⟩:=by
    intro i
    by_cases h:i=0 <;> simp[Addr.add,h]
   have hb:b<w.heap.size:=by
    rcases Nat.lt_or_ge b w.heap.size with h|h
    ·exact h
    ·simp[World.cell?,Addr.add,Array.getElem?_eq_none h]at hc0
   refine⟨_,hbl,?_⟩
   have hget:∀(i:Nat) (row:List C),(Qbv ((z0.take len0).map fun n=>UInt8.ofNat n.toNat))[i]? = some row→i<len0∧row=[.int .u8 (z0.getD i 0)]:=by
    intro i row hi
    have hlt:i<len0:=by
     rcases Nat.lt_or_ge i len0 with h|h
     ·exact h
     ·rw[List.getElem?_eq_none (by rw[Qbf];omega)]at hi;simp at hi
    have hz0:i<z0.length:=by omega
    refine⟨hlt,?_⟩
    simp only[Qbv,List.getElem?_map,List.getElem?_take,if_pos hlt,List.getElem?_eq_getElem hz0,Option.map_some,Option.some.injEq]at hi
    rw[←hi,Qa4q (hwf _ (List.getElem_mem hz0))]
    simp[List.getD_eq_getElem?_getD,hz0]
   have:=RepC.sl (w:=w) (g:=g0) false 1 (Qbv ((z0.take len0).map fun n=>UInt8.ofNat n.toNat)) b off cap0 (fun i _=>.int .u8 (z0.getD i 0))
    (by rw[Qbf,hbl];simp only[LIM];omega) (by simp) (by rw[Qbf,hbl];exact hlc) (hg _ hb)
    (fun i row hi=>by rw[(hget i row hi).2];rfl)
    (fun i row j c hi hj=>by
     obtain⟨h1,rfl⟩:=hget i row hi
     have hj0:j=0:=by
      rcases Nat.eq_zero_or_pos j with h|h
      ·exact h
      ·rw[List.getElem?_eq_none (by simp;omega)]at hj;simp at hj
     subst hj0
     have:=hcell i (by omega)
     rw[hadd]at this
     simpa using this)
    (fun i row j c hi hj=>by
     obtain⟨h1,rfl⟩:=hget i row hi
     have hj0:j=0:=by
      rcases Nat.eq_zero_or_pos j with h|h
      ·exact h
      ·rw[List.getElem?_eq_none (by simp;omega)]at hj;simp at hj
     subst hj0
     simp at hj;subst hj
     exact .int _ _)
   rw[Qbf,hbl]at this
   exact this
 obtain⟨bs,hbl,hrep⟩:=key
 have hc:=(h bs (by omega)).2 _ w [.slice a0 len0 cap0] hs rfl (fun j x u hj hu=>by
  cases j with
  |zero=>simp at hj hu;subst hj;subst hu;exact .c _ _ hrep
  |succ j=>simp at hj)
 refine hc.mono fun e w'=>?_
 rintro (⟨v,x,H',g',rfl,rfl,hst,hv⟩|⟨v,H',g',_,h,_⟩)
 rotate_left
 ·cases h
 have:v=.bool true:=by cases hv with|c _ _ h=>cases h;rfl
 subst this
 exact⟨rfl,hst.le.os,hst.le.tape,hst.le.output,hst.le.size,fun k hk=>(hst.le.per k (hg _ hk)).2⟩
def signL:List (Int×List UInt8×Int):=[(3,[43],3),(4,[45],3),(5,[42],4),(6,[47],4),(7,[37],4),(8,[60],2),(9,[61],2),(10,[38],1)]
def kC (t:Int×List UInt8×Int):C:=.int .i64 t.1
def rC (t:Int×List UInt8×Int):List C:=[.str t.2.1,.int .i64 t.2.2]
def kvV (t:Int×List UInt8×Int):Value×Value:=(.int .i64 t.1,.agg #[.string ⟨t.2.1.toArray⟩,.int .i64 t.2.2])
def eC (t:Int×List UInt8×Int):C×V:=(kC t,.ag (rC t))
structure Tabs (w:World):Prop where
 keys:∀(j:Nat) (s:List UInt8),keysL[j]? = some s→w.cell? ⟨Qe6,j,none⟩=some (.string ⟨s.toArray⟩)
 sign:∃b ms clock ts,w.cell? ⟨Qau,0,none⟩=some (.map (some b))∧w.heap[b]? = some (.map ms clock)∧Go.MapKept.Stamped ms clock∧List.Perm ts signL∧
  ms.toList.map (fun m=>(m.key,m.val))=ts.map kvV
def gh5 (w:World):G:=⟨fun b=>decide (b<w.heap.size),fun _=>none,fun l=>if l=Qe6 then some (Qe6,9,0)else if l=Qau then some (Qau,1,0)else none⟩
def hp5 (ts:List (Int×List UInt8×Int)):Heap:=fun l=>if l=Qe6 then .gl Qe6 (keysL.map C.str)else if l=Qau then .gl Qau [.cm true (ts.map kC) (ts.map rC)]else .none
theorem Qat3 {op:Int}:∀{l1 l2:List (Int×List UInt8×Int)},l1.Perm l2→(l2.map (·.1)).Nodup→Qdm (.int .i64 op) (l1.map eC)=Qdm (.int .i64 op) (l2.map eC):=by
 intro l1 l2 hp
 induction hp with
 |nil=>intro _;rfl
 |cons x h ih=>
  intro hn
  simp only[List.map_cons,List.nodup_cons]at hn
  simp only[List.map_cons,Qdm,ih hn.2]
 |swap x y l=>
  intro hn
  simp only[List.map_cons,List.nodup_cons,List.mem_cons,not_or]at hn
  simp only[List.map_cons,Qdm,eC,kC,Qd0,decide_eq_true_eq]
  by_cases h1:op=y.1
  ·have h2:¬op=x.1:=fun e=>hn.1.1 (e.symm.trans h1)
   rw[if_pos h1,if_neg h2,if_pos h1]
  ·by_cases h2:op=x.1
   ·rw[if_neg h1,if_pos h2,if_pos h2]
   ·rw[if_neg h1,if_neg h2,if_neg h2,if_neg h1]
 |trans h1 h2 ih1 ih2=>
  intro hn
  exact (ih1 ((h2.map _).nodup_iff.2 hn)).trans (ih2 hn)
theorem Qa1u {ts:List (Int×List UInt8×Int)}(hp:ts.Perm signL):GK (hp5 ts):=by
 refine⟨rfl,ts.map kC,ts.map rC,rfl,fun op=>?_⟩
 have e:((ts.map kC).zip (ts.map rC)).map (fun e=>(e.1,V.ag e.2))=ts.map eC:=by
  rw[List.zip_map',List.map_map];rfl
 rw[e]
 refine⟨?_,?_⟩
 ·intro x hx
  obtain⟨t,_,rfl⟩:=List.mem_map.1 hx
  exact⟨_,rfl⟩
 ·rw[Qat3 hp (by decide)]
  simp only[signL,List.map_cons,List.map_nil,Qdm,eC,kC,rC,Qd0,decide_eq_true_eq,levN]
  by_cases h3:op=3
  ·subst h3;exact⟨_,rfl⟩
  by_cases h4:op=4
  ·subst h4;exact⟨_,rfl⟩
  by_cases h5:op=5
  ·subst h5;exact⟨_,rfl⟩
  by_cases h6:op=6
  ·subst h6;exact⟨_,rfl⟩
  by_cases h7:op=7
  ·subst h7;exact⟨_,rfl⟩
  by_cases h8:op=8
  ·subst h8;exact⟨_,rfl⟩
  by_cases h9:op=9
  ·subst h9;exact⟨_,rfl⟩
  by_cases h10:op=10
  ·subst h10;exact⟨_,rfl⟩
  exact⟨[],by simp[h3,h4,h5,h6,h7,h8,h9,h10]⟩
theorem Qawl {w:World}{ts:List (Int×List UInt8×Int)}{b:Nat}{ms:Array MapEntry}{clock:Nat}(hk:∀(j:Nat) (s:List UInt8),keysL[j]? = some s→w.cell? ⟨Qe6,j,none⟩=some (.string ⟨s.toArray⟩))
  (hc:w.cell? ⟨Qau,0,none⟩=some (.map (some b))) (hb:w.heap[b]? = some (.map ms clock)) (hst:Go.MapKept.Stamped ms clock) (hp:ts.Perm signL)
  (hm:ms.toList.map (fun m=>(m.key,m.val))=ts.map kvV):Sat (hp5 ts) (gh5 w) w:=by
 have szof:∀{a:Addr} {v:Value},w.cell? a=some v→a.block<w.heap.size:=by
  intro a v h
  rcases Nat.lt_or_ge a.block w.heap.size with h'|h'
  ·exact h'
  ·simp[World.cell?,Array.getElem?_eq_none h']at h
 have h1:Qe6<w.heap.size:=szof (hk 0 _ rfl)
 have h2:Qau<w.heap.size:=szof hc
 have h3:b<w.heap.size:=by
  rcases Nat.lt_or_ge b w.heap.size with h'|h'
  ·exact h'
  ·simp[Array.getElem?_eq_none h']at hb
 have hlen:ms.size=ts.length:=by
  have:=congrArg List.length hm
  simpa using this
 have hl8:ts.length=8:=hp.length_eq
 have hget:∀(i:Nat) (m:MapEntry),ms[i]? = some m→∃t,ts[i]? = some t∧t∈signL∧m.key=.int .i64 t.1∧m.val=.agg #[.string ⟨t.2.1.toArray⟩,.int .i64 t.2.2]:=by
  intro i m h
  have h':(ms.toList.map (fun m=>(m.key,m.val)))[i]? = some (m.key,m.val):=by
   rw[List.getElem?_map,Array.getElem?_toList,h];rfl
  rw[hm,List.getElem?_map]at h'
  cases ht:ts[i]? with
  |none=>rw[ht]at h';cases h'
  |some t=>
   rw[ht]at h'
   simp only[Option.map_some,Option.some.injEq,kvV,Prod.mk.injEq]at h'
   exact⟨t,rfl,(hp.mem_iff).1 (List.mem_of_getElem? ht),h'.1.symm,h'.2.symm⟩
 refine⟨fun b hb=>⟨by simp[gh5];omega,rfl⟩,⟨3,fun l hl=>by simp only[gh5];rw[if_neg (by simp only[Qe6];omega),if_neg (by simp only[Qau];omega)]⟩,fun b x h=>by simp[gh5]at h,fun b l p h=>by simp[gh5]at h,fun l=>?_⟩
 by_cases e1:l=Qe6
 ·subst e1
  refine⟨9,fun j=>.string ⟨(keysL.getD j []).toArray⟩,by simp[gh5],by simpa[gh5]using h1,fun j c h=>?_,fun j c h=>?_⟩
  ·rw[List.getElem?_map]at h
   cases hs:keysL[j]? with
   |none=>rw[hs]at h;cases h
   |some s=>
    show _=some (Value.string ⟨(keysL.getD j []).toArray⟩)
    rw[hk j s hs,List.getD_eq_getElem?_getD,hs];rfl
  ·rw[List.getElem?_map]at h
   cases hs:keysL[j]? with
   |none=>rw[hs]at h;cases h
   |some s=>
    rw[hs]at h
    obtain rfl:=Option.some.inj h
    have hle:s.length≤4:=by
     have:∀s∈keysL,s.length≤4:=by decide
     exact this s (List.mem_of_getElem? hs)
    show RepC _ _ _ (Value.string ⟨(keysL.getD j []).toArray⟩)
    rw[List.getD_eq_getElem?_getD,hs]
    exact .str _ (by simp only[LIM];omega)
 ·by_cases e2:l=Qau
  ·subst e2
   refine⟨1,fun _=>.map (some b),by simp[gh5],by simpa[gh5]using h2,fun j c h=>?_,fun j c h=>?_⟩
   ·obtain rfl:j=0:=by
     rcases Nat.eq_zero_or_pos j with h'|h'
     ·exact h'
     ·rw[List.getElem?_eq_none (by simp;omega)]at h;cases h
    exact hc
   ·obtain rfl:j=0:=by
     rcases Nat.eq_zero_or_pos j with h'|h'
     ·exact h'
     ·rw[List.getElem?_eq_none (by simp;omega)]at h;cases h
    obtain rfl:=Option.some.inj h
    obtain⟨_,s2,s3⟩:=hst
    refine .cm true (ts.map kC) (ts.map rC) b ms clock (fun i j=>match ts[i]? with|some t=>if j=0 then .string ⟨t.2.1.toArray⟩else .int .i64 t.2.2|none=>.int .i64 0) (by simpa[gh5]using h3) hb (by simpa using hlen) (by simp) (by simp[hl8,LIM]) ?_ ?_ ?_ ?_
    ·intro i j m m' hi hj he
     have gi:ms.toList[i]? = some m:=by rw[Array.getElem?_toList];exact hi
     have gj:ms.toList[j]? = some m':=by rw[Array.getElem?_toList];exact hj
     rcases he with he|he
     ·have:=List.getElem?_inj (l:=ms.toList.map (·.born)) (i:=i) (j:=j) (by simpa using (Array.getElem?_eq_some_iff.1 hi).1) s2
      exact this.1 (by rw[List.getElem?_map,List.getElem?_map,gi,gj];simp[he])
     ·have:=List.getElem?_inj (l:=ms.toList.map (·.key)) (i:=i) (j:=j) (by simpa using (Array.getElem?_eq_some_iff.1 hi).1) s3
      exact this.1 (by rw[List.getElem?_map,List.getElem?_map,gi,gj];simp[he])
    ·intro i row m hr hi
     obtain⟨t,ht,_,_,hv⟩:=hget i m hi
     rw[List.getElem?_map,ht]at hr
     obtain rfl:=Option.some.inj hr
     refine⟨?_,fun h=>by cases h⟩
     rw[hv]
     simp[rC,ht,List.range_succ]
    ·intro i k m hk' hi
     obtain⟨t,ht,_,hkey,_⟩:=hget i m hi
     rw[List.getElem?_map,ht]at hk'
     obtain rfl:=Option.some.inj hk'
     rw[hkey]
     exact .int _ _
    ·intro i row j c hr hj
     rw[List.getElem?_map]at hr
     cases ht:ts[i]? with
     |none=>rw[ht]at hr;cases hr
     |some t=>
      rw[ht]at hr
      obtain rfl:=Option.some.inj hr
      have hmem:t∈signL:=(hp.mem_iff).1 (List.mem_of_getElem? ht)
      have hle:t.2.1.length≤1:=by
       have:∀t∈signL,t.2.1.length≤1:=by decide
       exact this t hmem
      match j,hj with
      |0,hj=>
       obtain rfl:=Option.some.inj hj
       exact .str _ (by simp only[LIM];omega)
      |1,hj=>
       obtain rfl:=Option.some.inj hj
       exact .int _ _
      |j+2,hj=>simp[rC]at hj
  ·show SatObj _ _ _ _ (hp5 ts l)
   rw[hp5,if_neg e1,if_neg e2];trivial
theorem calls_of_acall5 {P:Program}{f:Nat}(h:∀(H:Heap) (bs:List UInt8),GK H→bs.length≤1048576→Qp P f [.c (.sl false 1 (Qbv bs))] H fun v _=>v=.c (.bool true))
  {a0:Option Addr} {len0 cap0:Nat} {z0:List Int} {w:World} (ht:Tabs w) (hr:Qaww w a0 len0 cap0 z0) (hl:len0≤1048576) :
  Calls P f #[.slice a0 len0 cap0] w fun e w'=>e=.returned (.bool true)∧Below w.heap.size w w':=by
 obtain⟨hk,b,ms,clock,ts,h1,h2,h3,h4,h5⟩:=ht
 exact Q8d (g0:=gh5 w) (fun bs hb=>h (hp5 ts) bs (Qa1u h4) hb) (fun b hb=>by simpa[gh5]using hb) (Qawl hk h1 h2 h3 h4 h5) hr hl
theorem Q8r {H:Type}(x:Lit×DataW H):∀l,(DataW.insert x l).Perm (x::l)
 |[]=>.refl _
 |y::r=>by
  rw[DataW.insert]
  split
  ·exact .refl _
  ·exact ((Q8r x r).cons y).trans (.swap x y r)
theorem Qagm {H:Type}:∀l:List (Lit×DataW H),(l.foldr DataW.insert []).Perm l
 |[]=>.refl _
 |x::r=>(Q8r x _).trans ((Qagm r).cons x)
def litD (t:Int×List UInt8×Int):Lit×DataW Unit:=(.int .i64 t.1,.agg [.lit (.string t.2.1),.lit (.int .i64 t.2.2)])
def decD:Lit×DataW Unit→Int×List UInt8×Int
 |(.int _ n,.agg [.lit (.string s),.lit (.int _ l)])=>(n,s,l)
 |_=>(0,[],0)
theorem sign_entries {l:List MapEntry}{f:MapEntry→Lit×DataW Unit}(hp:((l.map f).foldr DataW.insert [])=signL.map litD)(hf:∀m∈l,∀t,f m=litD t→(m.key,m.val)=kvV t) :
  ∃ts,List.Perm ts signL∧l.map (fun m=>(m.key,m.val))=ts.map kvV:=by
 have h1:(l.map f).Perm (signL.map litD):=(Qagm _).symm.trans (by rw[hp])
 refine⟨(l.map f).map decD,?_,?_⟩
 ·have:=h1.map decD
  rw[List.map_map (g:=decD) (f:=litD)]at this
  exact this
 ·rw[List.map_map,List.map_map]
  refine List.map_congr_left fun m hm=>?_
  have hmem:f m∈signL.map litD:=(h1.mem_iff).1 (List.mem_map.2 ⟨m,hm,rfl⟩)
  obtain⟨t,_,ht⟩:=List.mem_map.1 hmem
  have e:decD (f m)=t:=by rw[←ht];rfl
  simp only[Function.comp,e]
  exact hf m hm t ht.symm
end Go.AE.Y

