/- Part 4 of the proof: the engine, codes, walks and plain laws, each named where it stands. -/
import Derived.Test.YtajdffbgjodbfaaGreatZC
import Derived.Shelf.Sort.Plain
import Derived.Shelf.Sort.So_math_bits_LenIn
open Nat (reduceEqDiff reduceAdd reduceLeDiff reduceLT)
set_option linter.unusedVariables false
set_option linter.unusedSimpArgs false
set_option maxRecDepth 4000
namespace Go.AE.Y
open Go.Proofs.Tryz
structure PrOk (l:List Fn):Prop where
 pos:0<l.length
 par:∀f∈l,f.params.length≤3
 ok:∀f∈l,Qcl f.body
 size:Qa3 l≤2^34
 len:l.length≤4
end Go.AE.Y
namespace Go.AE
open Go.AE.Y
open Go.Proofs.Tryz
theorem Kn.perm4 {H0 H:Heap} {E:List (Nat×Obj)} {a b c d:Nat×Obj} (kn:Kn H0 H E [a,b,c,d]):Kn H0 H E [a,b,d]:=
 Kn.drop (A:=[a,b,d]) (B:=[c]) (kn.perm (.cons _ (.cons _ (.swap _ _ _))))
end Go.AE
namespace Go.AE.Y
open Go.Proofs.Tryz
set_option maxHeartbeats 2000000 in
theorem Qa86 {R:Rdr} {k:Nat} {H:Heap} {K:V→Heap→Prop} (hR:H R.l=R.o k) (hk:k+7000000≤2^30)
  (hK:∀(l:List Fn) (H':Heap) (k':Nat),k<k'→k'≤k+7000000→Upd H H' [(R.l,R.o k')]→PrOk l→K (.ag [.sl false 3 (Qb2 l)]) H') :
  Qw prog Q2x [.c (.ptr R.l 0)] H K:=by
 refine Qz ?_
 refine Qb Qat Qa9m ?_
 refine Qa ?_
 simp only[go_sem]
 intro x2 hx2 H1 h1
 have kn:=(Kn.start1 hR (R.o_ne k)).al hx2 h1
 refine Qa ?_
 simp only[go_sem]
 refine Qg1 (ns:=[14,20,8,26]) (kn.e 0 rfl) (by omega) (by simp) fun v H2 hv hu=>?_
 have kn:=kn.callE 0 rfl hu (R.o_ne _)
 simp only[go_sem,Q6b]
 intro gl hgl H3 h3
 have kn:Kn H H3 [(R.l,R.o (k+1))] [(x2,.st [.sl true 3 []]),(gl,GS.o ⟨[],(.sl true 3 [],[]),[],true,0,v⟩ R)]:=kn.al hgl h3
 have hv26:0≤v∧v≤26:=by simp at hv;omega
 simp only[go_sem,Q6a]
 have hne:R.l≠gl:=kn.ne 0 1 rfl rfl
 refine Q3 ?_
 refine Qa ?_
 simp only[go_sem]
 refine Qg1 (ns:=[0,1,1,2]) (kn.e 0 rfl) (by omega) (by simp) fun cnt H4 hcnt hu=>?_
 have kn:=kn.callE 0 rfl hu (R.o_ne _)
 have hc2:0≤cnt∧cnt≤2:=by simp at hcnt;omega
 simp only[go_sem,Q6c]
 obtain⟨M,hM⟩:∃M:Nat,M=2001301:=⟨_,rfl⟩
 refine Qh (Qc (Qu (fun n e1 H1=>∃(j k4:Nat) (s:GS),n=cnt.toNat-j∧(j:Int)≤cnt∧s.fns.length=j∧k+2≤k4∧k4≤k+2+M * j∧s.ok k4∧(∀f∈s.fns,Qcl f.body)∧4 * k+Qa3 s.fns≤4 * k4∧
   Gr s.ffl.2 3 (Qb2 s.fns) s.ffl.1∧Kn H H1 [(R.l,R.o k4)] ([(x2,.st [.sl true 3 []]),(gl,s.o R)]++s.ffl.2)∧
   e1=[(0,.c (.ptr R.l 0)),(2,.c (.ptr x2 0)),(3,.c (.ptr gl 0)),(4,.c (.int .i64 (cnt-j)))]) cnt.toNat ?_ ?_))
 ·refine⟨0,k+2,⟨[],(.sl true 3 [],[]),[],true,0,v⟩,by omega,by omega,rfl,by omega,by omega,⟨?_,?_,?_,?_,by simp,by simp,by simp⟩,by simp,by simp only[Qa3];omega,.nil 3,kn,by simp⟩
  ·show -1≤(0:Int);omega
  ·show (0:Int)≤_;omega
  ·show _≤v;omega
  ·show v≤100;omega
 ·rintro n e1 H1 ⟨j,k4,s,hn,hj,hfl,hk4,hk4',hs,hfok,hsz,hgr,kn,rfl⟩
  have hMj:M * j≤M * 2:=Nat.mul_le_mul_left _ (by omega)
  have hM1:M * (j+1)=M * j+M:=Nat.mul_succ _ _
  have hG1:=kn.l 1 rfl
  have hfow:=hgr.isOw
  have hflen:=hgr.lenC
  rw[Qbc]at hflen
  refine Q3 ?_
  refine Qa ?_
  simp only[go_sem]
  refine Qh (Qd rfl ?_ ?_)
  ·intro hc
   have hi:(j:Int)<cnt:=by simp at hc;omega
   refine Qi ?_
   simp only[go_sem]
   refine Qh (Qc ?_)
   have hfok':=(hgr.okSl (B:=[_,_]) kn)
   have eg:List.getD [[C.str [102]],[C.str [103]],[C.str [104]]] s.fns.length []=[.str (List.getD [[102],[103],[104]] s.fns.length [])]:=Qfw [[102],[103],[104]] _ (by simp;omega)
   have hl3:s.fns.length<3:=by omega
   refine Qal ?_
   simp only[go_sem,hG1,GS.o,hfow,hflen,eq_true hfok',eg,hl3]
   refine Qa5 (kn.e 0 rfl) (by omega) fun p H2 hp hu=>?_
   have kn:Kn H H2 [(R.l,R.o (k4+1))] ([(x2,.st [.sl true 3 []]),(gl,s.o R)]++s.ffl.2):=kn.callE 0 rfl hu (R.o_ne _)
   rw[if_neg (by omega)]at hp
   have hG2:=kn.l 1 rfl
   have hfok2:=(hgr.okSl (B:=[_,_]) kn)
   simp only[go_sem,Q6f,hG2,GS.o,hfow,hflen,eq_true hfok2,eg,hl3]
   have hF:FnsOk H2 R gl s:=⟨hgr,fun q hq=>by
    have h1:=kn.get q (List.mem_append_right _ (List.mem_append_right _ hq))
    refine⟨h1.1,fun hh=>?_,fun hh=>?_⟩
    ·exact kn.usedE 0 rfl (hh▸kn.loc q (List.mem_append_right _ hq))
    ·have:=kn.dL
     rw[List.map_append]at this
     exact (List.nodup_append.1 this).2.2 gl (by simp) q.1 (Qak hq) hh.symm⟩
   refine Qadb hp.1 (by omega) (kn.e 0 rfl) (kn.l 1 rfl) hne (hs.mono (Nat.le_succ k4)) hF (by omega) fun f s2 H5 k5 g1 g2 hu hs2 g3 g4 g5 g6 g7=>?_
   have kn:=kn.callEL 0 1 rfl rfl hu (R.o_ne _) (GS.o_ne _ _)
   have kn:Kn H H5 [(R.l,R.o k5)] ([(x2,.st [.sl true 3 []]),(gl,s2.o R)]++s.ffl.2):=kn
   simp only[go_sem,Q6e]
   intro x5 hx5 H6 h6
   have kn:=kn.al hx5 h6
   have kn:=kn.perm (L':=[(x2,_),(gl,_),(x5,_)]++s.ffl.2) (by
    simp only[List.cons_append,List.nil_append,List.append_assoc]
    exact .cons _ (.cons _ List.perm_append_comm))
   have hG6:=kn.l 1 rfl
   have hx56:=kn.l 2 rfl
   have hfok6:=(hgr.okSl (B:=[_,_,_]) kn)
   simp only[go_sem,Q6d,hG6,hx56,GS.o,g3,g4,hfow,hflen,eq_true hfok6,eg,hl3,Fn.cells]
   intro H7 h7
   have kn:Kn H H7 [(R.l,R.o k5)] ([(x2,_),(gl,_),(x5,_)]++s.ffl.2):=kn.stL 2 rfl h7
   have hG7:=kn.l 1 rfl
   have hx57:=kn.l 2 rfl
   refine Qa9 ?_
   simp only[go_sem,hG7,hx57,GS.o,g4,hfow]
   refine kn.grow (B:=[_,_,_]) (new:=[f.cells]) hgr (.mk' _ _ _ _) (by simp[f.noOw]) (by simp only[Qbc,LIM,List.length_cons,List.length_nil];omega) fun z H8 kn=>?_
   have hG8:=kn.l 1 rfl
   simp only[go_sem,Q6g,hG8,GS.o]
   intro H9 h9
   have kn:=kn.stL 1 rfl h9
   obtain⟨s9,hs9⟩:∃s9:GS,s9=GS.mk (s.fns++[f]) (C.vsl z 3 0 ((Qb2 s.fns).length+1),[(z,Obj.vec 3 (Qb2 s.fns++[f.cells]))]) s2.vars s2.vfl s2.next s2.left:=⟨_,rfl⟩
   have ho9:s9.o R=.st [C.ptr R.l 0,C.vsl z 3 0 ((Qb2 s.fns).length+1),C.sl s2.vfl 1 (Qbe s2.vars),C.int IntKind.i64 s2.next,C.int IntKind.i64 s2.left]:=by rw[hs9];rfl
   rw[←ho9]at kn
   have kn:Kn H H9 [(R.l,R.o k5)] [(x2,_),(gl,s9.o R),(x5,_),(z,_)]:=kn
   have kn:=kn.perm4
   refine Qq ?_
   simp only[go_sem,X.next]
   have hkb:k5≤k+2+M * (j+1):=by rw[hM1];omega
   refine⟨Qo (by omega) (by omega),cnt.toNat-(j+1),by omega,j+1,k5,s9,rfl,by omega,by simp[hs9,hfl],by omega,hkb,?_,?_,?_,?_,by rw[hs9]at kn⊢;exact kn,?_⟩
   ·subst hs9;refine⟨hs2.n0,hs2.n1,hs2.l0,hs2.l1,hs2.v,fun f' hf'=>?_,by simp;omega⟩
    rcases List.mem_append.1 hf' with h|h
    ·exact hs.f f' h
    ·simp at h;subst h;exact g5
   ·subst hs9;intro f' hf'
    rcases List.mem_append.1 hf' with h|h
    ·exact hfok f' h
    ·simp at h;subst h;exact g6
   ·subst hs9;simp only[Qga,Qa3];omega
   ·subst hs9;show Gr [(z,Obj.vec 3 (Qb2 s.fns++[f.cells]))] 3 (Qb2 (s.fns++[f])) _;rw[Qac7];exact .mk _ _ _ (by simp[Qbc])
   ·have:cnt-((j+1:Nat):Int)=cnt-j-1:=by omega
    rw[this]
  ·intro hc
   refine Qt ?_
   simp only[go_sem,X.next]
   have hkE:k4≤k+4002604:=by omega
   refine Qa ?_
   simp only[go_sem]
   refine Qg1 (ns:=[0,1,2,1]) (kn.e 0 rfl) (by omega) (by simp) fun p H2 hp hu=>?_
   have kn:Kn H H2 [(R.l,R.o (k4+1))] ([(x2,.st [.sl true 3 []]),(gl,s.o R)]++s.ffl.2):=kn.callE 0 rfl hu (R.o_ne _)
   have hp2:0≤p∧p≤3:=by simp at hp;omega
   simp only[go_sem,Qy1]
   have hF:FnsOk H2 R gl s:=⟨hgr,fun q hq=>by
    have h1:=kn.get q (List.mem_append_right _ (List.mem_append_right _ hq))
    refine⟨h1.1,fun hh=>?_,fun hh=>?_⟩
    ·exact kn.usedE 0 rfl (hh▸kn.loc q (List.mem_append_right _ hq))
    ·have:=kn.dL
     rw[List.map_append]at this
     exact (List.nodup_append.1 this).2.2 gl (by simp) q.1 (Qak hq) hh.symm⟩
   refine Qadb hp2.1 hp2.2 (kn.e 0 rfl) (kn.l 1 rfl) hne (hs.mono (Nat.le_succ k4)) hF (by omega) fun f s2 H5 k5 g1 g2 hu hs2 g3 g4 g5 g6 g7=>?_
   have kn:=kn.callEL 0 1 rfl rfl hu (R.o_ne _) (GS.o_ne _ _)
   have kn:Kn H H5 [(R.l,R.o k5)] ([(x2,.st [.sl true 3 []]),(gl,s2.o R)]++s.ffl.2):=kn
   simp only[go_sem,Qy0]
   intro x6 hx6 H6 h6
   have kn:=kn.al hx6 h6
   have kn:=kn.perm (L':=[(x2,_),(gl,_),(x6,_)]++s.ffl.2) (by
    simp only[List.cons_append,List.nil_append,List.append_assoc]
    exact .cons _ (.cons _ List.perm_append_comm))
   have hx66:=kn.l 2 rfl
   simp only[go_sem,Qyz,hx66,Fn.cells]
   intro H7 h7
   have kn:Kn H H7 [(R.l,R.o k5)] ([(x2,_),(gl,_),(x6,_)]++s.ffl.2):=kn.stL 2 rfl h7
   have hG7:=kn.l 1 rfl
   have hx67:=kn.l 2 rfl
   have hfok7:=hgr.okSl (B:=[_,_,_]) kn
   have hrows7:=hgr.rowsOf (B:=[_,_,_]) kn
   have hesz:=hgr.elemSz
   have hL:s.fns.length≤LIM:=by simp only[LIM];omega
   refine Qal ?_
   simp only[go_sem,hG7,hx67,GS.o,g4,hfow,hflen,eq_true hfok7,hrows7,hesz,hL,Nat.zero_add]
   refine⟨.inl trivial,Qac6 _,fun y hy H8 h8=>?_⟩
   have kn:=kn.al hy h8
   have kn:=kn.perm (L':=([(x2,_),(gl,_),(x6,_)]++[(y,_)])++s.ffl.2) Qbe1
   have kn:=kn.drop
   have hx68:=kn.l 2 rfl
   have kn:Kn H H8 [(R.l,R.o k5)] [(x2,_),(gl,_),(x6,_),(y,_)]:=kn
   have hy8:=kn.l 3 rfl
   have etk:List.take s.fns.length (Qb2 s.fns)=Qb2 s.fns:=List.take_of_length_le (by rw[Qbc];omega)
   simp only[go_sem,Qy4,hx68,hy8,Qbc,etk]
   refine⟨by omega,by simp only[LIM];omega,fun z hz H9 h9=>?_⟩
   have kn:Kn H H9 [(R.l,R.o k5)] [(x2,_),(gl,_),(x6,_),(z,.vec 3 (Qb2 s.fns++[f.cells]))]:=kn.ap 3 rfl hz h9
   simp only[go_sem,Qy3]
   intro x7 hx7 H10 h10
   have kn:=kn.al hx7 h10
   have hG10:=kn.l 1 rfl
   have hx6a:=kn.l 2 rfl
   have hx7a:=kn.l 4 rfl
   have kn:Kn H H10 [(R.l,R.o k5)] [(x2,_),(gl,_),(x6,_),(z,_),(x7,_)]:=kn
   simp only[go_sem,Qy2,hG10,hx6a,hx7a,GS.o,g4,hfow]
   intro H11 h11
   have kn:=kn.stL 4 rfl h11
   have kn:Kn H H11 [(R.l,R.o k5)] ([(x2,.st [.sl true 3 []]),(x7,.st [.vsl z 3 0 (s.fns.length+1)])]++[(z,.vec 3 (Qb2 s.fns++[f.cells]))]):=
    (kn.perm (L':=([(x2,_),(x7,_)]++[(z,_)])++[(gl,_),(x6,_)]) (by
     simp only[List.set,List.cons_append,List.nil_append]
     refine .cons _ ?_
     refine .trans (.cons _ (.cons _ (.swap _ _ _))) ?_
     refine .trans (.cons _ (.swap _ _ _)) ?_
     refine .trans (.swap _ _ _) ?_
     refine .cons _ ?_
     refine .trans (.cons _ (.swap _ _ _)) ?_
     exact .swap _ _ _)).drop
   have hz11:=kn.l 2 rfl
   have hx711:=kn.l 1 rfl
   obtain⟨hfz,kn⟩:=kn.freeze 1 rfl (og':=.st [.sl false 3 (Qb2 (s.fns++[f]))]) (FrzKL.st (.cons rfl (by
    rw[←Qac7]
    exact Qaen (by simp) hz11 (by simp[Qbc]) (noOw_mem (Qa9y (Qac6 _) (by simp[f.noOw])))) .nil)) (by simp)
   refine Q3 ?_
   refine c_gh (Qe2 _ (fun t=>?_) hfz) (e':=[(2,V.c (C.ptr x2 0)),(7,V.c (C.ptr x7 0))]) ?_
   ·simp only[lk]
    split
    ·exact .c _ _ (.same _ rfl)
    ·split
     ·exact .c _ _ (.same _ rfl)
     ·exact .unk _
   generalize ((H11.frz fun m=>m == z).set x7 (Obj.st [C.sl false 3 (Qb2 (s.fns++[f]))]))=H12 at *
   have hx7b:=kn.l 1 rfl
   have hx2b:=kn.l 0 rfl
   have hpr:Qa3 (s.fns++[f])≤2^34:=by rw[Qga];simp only[Qa3];omega
   refine Qa ?_
   simp only[go_sem,hx7b]
   refine Q9g (by omega) fun b=>?_
   simp only[go_sem,Qy5]
   refine Qh (Qd rfl ?_ ?_)
   ·intro hc
    refine Qa ?_
    simp only[go_sem,hx2b]
    intro H13 h13
    have kn:=kn.stL 0 rfl h13
    have hx2c:=kn.l 0 rfl
    refine Qk ?_
    simp only[go_sem,Q6,Qad,Qafg,reduceIte,List.mem_singleton,forall_eq,RS.op,hx2c]
    refine⟨.ag [.sl false 3 (Qb2 [Fn.mk [109] [] [St.mk 3 [] [Ex.mk 1 1 [] []] [] []]])],FrzL.ag ?_,hK _ _ k5 (by omega) (by omega) kn.fin ⟨by simp,by simp,?_,?_,by simp⟩⟩
    ·simp only[Qb2,List.map_cons,List.map_nil,Fn.cells,Qad8,Qaz,St.cells,Qbo,Ex.cells]
     repeat' first|exact FrzL.nil|exact FrzR.nil|exact Qg rfl|exact FrzL.same (Ex.noOw _)|exact FrzL.same (St.noOw _)|refine FrzL.cons ?_ ?_|refine FrzR.cons ?_ ?_|refine FrzR.sl ?_
    ·intro f hf
     simp at hf;subst hf
     simp[Qcl,St.ok,Qda,Ex.ok]
    ·simp[Qa3,Qy,St.size,Qaf,Ex.size]
   ·intro hc
    refine Qi ?_
    simp only[go_sem]
    refine Qa ?_
    simp only[go_sem,hx2b,hx7b]
    intro H13 h13
    have kn:=kn.stL 0 rfl h13
    have hx2c:=kn.l 0 rfl
    refine Qk ?_
    simp only[go_sem,Q6,Qad,Qafg,reduceIte,List.mem_singleton,forall_eq,RS.op,hx2c]
    refine⟨.ag [.sl false 3 (Qb2 (s.fns++[f]))],FrzL.ag (.cons (Qg rfl) .nil),hK _ _ k5 (by omega) (by omega) kn.fin ⟨by simp,?_,?_,hpr,by simp;omega⟩⟩
    ·intro f' hf'
     rcases List.mem_append.1 hf' with h|h
     ·exact hs.f f' h
     ·simp at h;subst h;exact g5
    ·intro f' hf'
     rcases List.mem_append.1 hf' with h|h
     ·exact hfok f' h
     ·simp at h;subst h;exact g6
end Go.AE.Y

namespace Go.AE.Y
open Go.Proofs.Tryz
variable {F H:Heap} {w:Nat} {s:LS} {K:V→Heap→Prop}
structure LStep (s s':LS) (d:Nat):Prop where
 bl:s.blocks.length≤s'.blocks.length
 ok:∀N,s.ok N→s'.ok (N+d)
 vl:s.vars.length≤s'.vars.length
 at_:s.at_<s.blocks.length→s'.at_<s'.blocks.length
 fn:s'.fns=s.fns∧s'.pfl=s.pfl
theorem LStep.trans {s s' s'':LS} {d e:Nat} (h:LStep s s' d) (k:LStep s' s'' e):LStep s s'' (d+e):=
 ⟨Nat.le_trans h.bl k.bl,fun N hN=>by rw[←Nat.add_assoc];exact k.ok _ (h.ok N hN),Nat.le_trans h.vl k.vl,fun ha=>k.at_ (h.at_ ha),k.fn.1.trans h.fn.1,k.fn.2.trans h.fn.2⟩
theorem LStep.refl (s:LS):LStep s s 0:=⟨Nat.le_refl _,fun N h=>h,Nat.le_refl _,fun h=>h,rfl,rfl⟩
theorem LStep.mono {s s':LS} {d e:Nat} (h:LStep s s' d) (hd:d≤e):LStep s s' e:=⟨h.bl,fun N hN=>(h.ok N hN).mono (by omega),h.vl,h.at_,h.fn⟩
theorem Qle {N:Nat} (h:LInv F H w s) (hok:s.ok N) (hN:N+1≤2^38) (hK:∀(s':LS) (H':Heap),LInv F H' w s'→LStep s s' 1→K (.c (.int .i64 s.regs)) H') :
  Qw prog Qa0 [.c (.ptr w 0)] H K:=by
 have hw:=h.hw
 have h0:=hok.r0
 have h1:=hok.r1
 refine Qb Qat Qae6 ?_
 refine Qa ?_
 simp only[go_sem]
 refine Qa ?_
 simp only[go_sem,hw,LS.o]
 refine⟨Qo (by omega) (by omega),fun H1 h1'=>?_⟩
 have h':LInv F H1 w { s with regs:=s.regs+1 }:=h.setw h1' rfl rfl rfl rfl h.gv h.rv
 have hw1:=h'.hw
 refine Qa ?_
 simp only[go_sem,hw1,LS.o]
 refine⟨Qo (by omega) (by omega),?_⟩
 refine Qk ?_
 simp only[go_sem,Q6,Qad,Qsa,reduceIte,List.mem_singleton,forall_eq,RS.op]
 refine hK _ H1 h' ⟨Nat.le_refl _,fun M hM=>⟨?_,?_,hM.n0,?_,?_,?_,?_⟩,Nat.le_refl _,fun h=>h,rfl,rfl⟩
 ·have:=hM.r0;show 0≤s.regs+1;omega
 ·have:=hM.r1;show s.regs+1≤_;omega
 ·have:=hM.n1;show s.next≤_;omega
 ·have:=hM.b1;show s.blocks.length≤_;omega
 ·intro b hb;have:=hM.i1 b hb;omega
 ·have:=hM.v1;show s.vars.length≤_;omega
theorem Qaiu {N:Nat} (h:LInv F H w s) (hok:s.ok N) (hN:N+1≤2^38) (hK:∀(s':LS) (H':Heap),LInv F H' w s'→LStep s s' 1→s.blocks.length<s'.blocks.length→s'.at_=s.at_→K (.c (.int .i64 s.blocks.length)) H') :
  Qw prog Qan [.c (.ptr w 0)] H K:=by
 have hw:=h.hw
 have hb1:=hok.b1
 have hbow:=h.gb.isOw
 refine Qb Qat Qae5 ?_
 refine Qa ?_
 simp only[go_sem]
 refine Qa ?_
 simp only[go_sem,hw,LS.o,hbow]
 refine h.addBlk (b:=⟨.sl true 4 [],[],[],0,0,true,[]⟩) (by simp only[LIM];omega) rfl rfl rfl fun y H1 hw1 cont=>?_
 simp only[go_sem,Qkf,hw1,LS.o]
 intro H2 h2
 have h':=cont H2 h2
 have hw2:=h'.hw
 obtain⟨y2,hv1,hv2,hv3⟩:=h'.bvec (by simp)
 simp only[C.vsl.injEq]at hv1
 obtain⟨rfl,_⟩:=hv1
 refine Qa ?_
 simp only[go_sem,hw2,LS.o,hv3,List.length_map,List.length_append]
 refine⟨by omega,fun hl=>⟨Qo (by omega) (by omega),?_⟩⟩
 refine Qk ?_
 simp only[go_sem,Q6,Qad,Qr9,reduceIte,List.mem_singleton,forall_eq,RS.op]
 have e1:(((s.blocks.length+1:Nat):Int)-1)=s.blocks.length:=by omega
 rw[e1]
 refine hK _ H2 h' ⟨by simp,fun M hM=>⟨hM.r0,?_,hM.n0,?_,?_,?_,?_⟩,Nat.le_refl _,fun ha=>by simp;show s.at_<_;omega,rfl,rfl⟩ (by simp) rfl
 ·have:=hM.r1;show s.regs≤_;omega
 ·have:=hM.n1;show s.next≤_;omega
 ·have:=hM.b1;simp;omega
 ·intro b hb
  rcases List.mem_append.1 hb with hb|hb
  ·have:=hM.i1 b hb;omega
  ·simp at hb;subst hb;simp
 ·have:=hM.v1;show s.vars.length≤_;omega
theorem Qes {N:Nat} (h:LInv F H w s) (hok:s.ok N) (hN:N+1≤2^38) (hK:∀(s':LS) (H':Heap),LInv F H' w s'→LStep s s' 1→s.blocks.length<s'.blocks.length→K (.c (.int .i64 s.blocks.length)) H') :
  Qw prog Qan [.c (.ptr w 0)] H K:=Qaiu h hok hN fun s' H' a b c _=>hK s' H' a b c
theorem Qu8 {N:Nat} {op to n:Int} {fl:Bool} {args:List Int} (h:LInv F H w s) (hat:s.at_<s.blocks.length) (hok:s.ok N) (hN:N+1≤2^38)
  (hK:∀(s':LS) (H':Heap),LInv F H' w s'→LStep s s' 1→K (.c (.int .i64 to)) H') :
  Qw prog Qar [.c (.ptr w 0),.c (.int .i64 op),.c (.int .i64 to),.c (.int .i64 n),.c (.sl fl 1 (Qf args))] H K:=by
 have hw:=h.hw
 obtain⟨y,hbc,hlb,hy⟩:=h.bvec (by omega)
 have hm:=List.getElem_mem hat
 have hi1:=hok.i1 _ hm
 have hiow:=(h.gi _ hm).isOw
 have hg1:List.getD (List.map Blk.row s.blocks) s.at_ []=s.blocks[s.at_].row:=by simp[List.getD_eq_getElem?_getD,hat]
 have hg2:List.getD (List.take s.blocks.length (List.map Blk.row s.blocks)) s.at_ []=s.blocks[s.at_].row:=by
  rw[List.take_of_length_le (by simp)];exact hg1
 refine Qb Qat Qarq ?_
 refine Qa ?_
 simp only[go_sem]
 refine Qal ?_
 simp only[go_sem,hw,LS.o,hbc,hy,hat,Nat.zero_add,List.length_map]
 refine Qa ?_
 simp only[go_sem,hw,LS.o,hbc,hy,hat,hg2,Blk.row,hiow,Nat.zero_add,List.length_map]
 refine h.addIns hat hbc hlb ⟨op,to,n,fl,args,rfl⟩ (by simp only[LIM];omega) fun z H1 hw1 hy1 cont=>?_
 simp only[go_sem,Qpr,hy1,hg1,hat,Blk.row,Nat.zero_add,List.length_map]
 intro H2 h2
 obtain⟨b',hb',h'⟩:=cont H2 h2
 refine Qa ?_
 simp only[go_sem]
 refine Qk ?_
 simp only[go_sem,Q6,Qad,Q39,reduceIte,List.mem_singleton,forall_eq,RS.op]
 refine hK _ H2 h' ⟨by simp,fun M hM=>⟨hM.r0,?_,hM.n0,?_,?_,?_,?_⟩,Nat.le_refl _,fun ha=>by simp;show s.at_<_;omega,rfl,rfl⟩
 ·have:=hM.r1;show s.regs≤_;omega
 ·have:=hM.n1;show s.next≤_;omega
 ·have:=hM.b1;simp;omega
 ·intro b hb
  rcases Qdr hb with rfl|hb
  ·have:=hM.i1 _ hm;omega
  ·have:=hM.i1 b hb;omega
 ·have:=hM.v1;show s.vars.length≤_;omega
theorem Qoh {N:Nat} {kind on:Int} {at':Nat} {fl:Bool} {next:List Int} (h:LInv F H w s) (hat:s.at_<s.blocks.length) (hat':at'<s.blocks.length)
  (hK:∀(s':LS) (H':Heap),LInv F H' w s'→LStep s s' 0→K (.tup []) H') :
  Qw prog Qax [.c (.ptr w 0),.c (.int .i64 kind),.c (.int .i64 on),.c (.sl fl 1 (Qf next)),.c (.int .i64 at')] H K:=by
 have hw:=h.hw
 obtain⟨y,hbc,hlb,hy⟩:=h.bvec (by omega)
 have hm:=List.getElem_mem hat
 have hg1:List.getD (List.map Blk.row s.blocks) s.at_ []=s.blocks[s.at_].row:=by simp[List.getD_eq_getElem?_getD,hat]
 refine Qb Qat Qajn ?_
 refine Qal ?_
 simp only[go_sem,hw,LS.o,hbc,hy,hat,Nat.zero_add,List.length_map]
 refine Qa ?_
 simp only[go_sem,hy,hg1,hat,Blk.row,Nat.zero_add,List.length_map]
 intro H1 h1
 have h1:H1=H.set y (.vec 5 ((s.blocks.set s.at_ { s.blocks[s.at_]with jump:=kind }).map Blk.row)):=by rw[h1,←Q3h];rfl
 have hv:=h.setBlk hat hbc hlb h1 rfl rfl rfl
 obtain⟨b1,hb1,hb1l,hb1i⟩:∃b1:Blk,b1={ s.blocks[s.at_]with jump:=kind }∧b1.irows=s.blocks[s.at_].irows∧b1.ic=s.blocks[s.at_].ic:=⟨_,rfl,rfl,rfl⟩
 rw[←hb1]at hv h1
 have hy1:H1 y=.vec 5 ((s.blocks.set s.at_ b1).map Blk.row):=by rw[h1];exact Heap.set_same _ _ _
 have hg2:List.getD ((s.blocks.set s.at_ b1).map Blk.row) s.at_ []=b1.row:=by simp[List.getD_eq_getElem?_getD,hat]
 refine Qa ?_
 simp only[go_sem,hy1,hg2,hat,Blk.row,Nat.zero_add,List.length_map,List.length_set]
 intro H2 h2
 have h2:H2=H1.set y (.vec 5 (((s.blocks.set s.at_ b1).set s.at_ { b1 with on:=on }).map Blk.row)):=by rw[h2];simp only[List.map_set];rfl
 have hv:=hv.setBlk (i:=s.at_) (b':={ b1 with on:=on }) (by simpa using hat) (by simpa using hbc) (by rfl) h2 (by simp) (by simp) (by simp)
 simp only[List.set_set]at hv h2
 obtain⟨b2,hb2,hb2i⟩:∃b2:Blk,b2={ b1 with on:=on }∧b2.irows=b1.irows:=⟨_,rfl,rfl⟩
 rw[←hb2]at hv h2
 have hy2:H2 y=.vec 5 ((s.blocks.set s.at_ b2).map Blk.row):=by rw[h2];exact Heap.set_same _ _ _
 have hg3:List.getD ((s.blocks.set s.at_ b2).map Blk.row) s.at_ []=b2.row:=by simp[List.getD_eq_getElem?_getD,hat]
 refine Qa ?_
 simp only[go_sem,hy2,hg3,hat,Blk.row,Nat.zero_add,List.length_map,List.length_set]
 intro H3 h3
 have h3:H3=H2.set y (.vec 5 (((s.blocks.set s.at_ b2).set s.at_ { b2 with next:=next,nfl:=fl }).map Blk.row)):=by rw[h3];simp only[List.map_set];rfl
 have hv:=hv.setBlk (i:=s.at_) (b':={ b2 with next:=next,nfl:=fl }) (by simpa using hat) (by simpa using hbc) (by rfl) h3 (by simp) (by simp) (by simp)
 simp only[List.set_set]at hv
 have hw3:=hv.hw
 refine Qq ?_
 simp only[go_sem,hw3,LS.o]
 intro H4 h4
 have h':=hv.setw (s':={ s with lb:=[(y,.vec 5 ((s.blocks.set s.at_ { b2 with next:=next,nfl:=fl }).map Blk.row))],blocks:=s.blocks.set s.at_ { b2 with next:=next,nfl:=fl },at_:=at' }) h4 rfl rfl rfl rfl hv.gv hv.rv
 simp only[Q6,Qad,Qw2]
 refine⟨by simp,hK _ H4 h' ⟨by simp,fun M hM=>⟨hM.r0,hM.r1,hM.n0,hM.n1,?_,?_,hM.v1⟩,Nat.le_refl _,fun ha=>by simpa using hat',rfl,rfl⟩⟩
 ·have:=hM.b1;simpa using this
 ·intro b hb
  rcases Qdr hb with rfl|hb
  ·show b2.irows.length≤_
   rw[hb2i,hb1l];exact hM.i1 _ hm
  ·exact hM.i1 b hb
end Go.AE.Y

namespace Go.AE.Y
open Go.Proofs.Tryz
variable {F H:Heap} {w:Nat} {s:LS} {K:V→Heap→Prop}
theorem Qbd7 {l:List Fn} {fl:Bool} {name:List UInt8} (hK:∀n:Int,K (.c (.int .i64 n)) H):Qw prog Quz [.ag [.sl fl 3 (Qb2 l)],.c (.str name)] H K:=by
 refine Qb Qat Qa5f ?_
 have retf:∀(n:Int) (e:Env),lk 4 e=.c (.int .i64 n)→Q6 Q4a K .ret e H:=by
  intro b e h1
  simp only[go_sem,Q6,Qad,Q4a,List.mem_singleton,forall_eq,RS.op,h1]
  exact hK _
 refine Qa ?_
 simp only[go_sem]
 refine Q3 ?_
 refine Qa ?_
 simp only[go_sem]
 refine Qh (Qc (Qu (fun n e1 H1=>∃(i:Nat),n=l.length-i∧i≤l.length∧H1=H∧e1=[(1,.c (.str name)),(2,.c (.pp [.sl fl 3 (Qb2 l)])),(5,.c (.int .i64 i))]) l.length ?_ ?_))
 ·exact⟨0,by omega,by omega,rfl,rfl⟩
 ·rintro n e1 H1 ⟨i,hn1,hi,rfl,rfl⟩
  refine Q3 ?_
  refine Qa ?_
  simp only[go_sem,Qbc]
  intro hl
  simp only[LIM]at hl
  refine Qh (Qd rfl ?_ ?_)
  ·intro hc
   have hlt:i<l.length:=by simpa using hc
   refine Qi ?_
   simp only[go_sem]
   refine Qh (Qc ?_)
   refine Qa ?_
   simp only[go_sem,hlt,Qbc,Qe1 _ _ hlt,Fn.cells]
   refine Qd rfl ?_ ?_
   ·intro hc2
    refine Qa ?_
    simp only[go_sem]
    refine Qk ?_
    simp only[go_sem,X.next]
    exact retf _ _ (by simp[lk];rfl)
   ·intro hc2
    refine Qi ?_
    simp only[go_sem]
    refine Qq ?_
    simp only[go_sem,X.next]
    exact⟨Qo (by omega) (by omega),l.length-(i+1),by omega,i+1,rfl,by omega,rfl⟩
  ·intro hc
   refine Qt ?_
   simp only[go_sem,X.next]
   refine Qa ?_
   simp only[go_sem]
   refine Qk ?_
   exact retf _ _ (by simp[lk];rfl)
theorem Qbe3 {name:List UInt8} (h:LInv F H w s) (hK:∀n:Int,K (.c (.int .i64 n)) H):Qw prog Qf5 [.c (.ptr w 0),.c (.str name)] H K:=by
 have hw:=h.hw
 obtain⟨hv1,hv2⟩:=h.vget
 have hvl:=h.gv.lenC
 have hve:=h.gv.elemSz
 have hvo:=h.gv.isOw
 refine Qb Qat Qarr ?_
 have retf:∀(n:Int) (e:Env),lk 4 e=.c (.int .i64 n)→Q6 Qp8 K .ret e H:=by
  intro b e h1
  simp only[go_sem,Q6,Qad,Qp8,List.mem_singleton,forall_eq,RS.op,h1]
  exact hK _
 refine Qa ?_
 simp only[go_sem]
 refine Q3 ?_
 refine Qa ?_
 simp only[go_sem,hw,LS.o,hv1,hvl,hvo]
 intro hl
 simp only[LIM]at hl
 refine⟨Qo (by omega) (by omega),?_⟩
 refine Qh (Qc (Qu (fun n e1 H1=>∃(j:Nat),n=j∧j≤s.vars.length∧H1=H∧e1=[(0,.c (.ptr w 0)),(1,.c (.str name)),(5,.c (.int .i64 ((j:Int)-1)))]) s.vars.length ?_ ?_))
 ·exact⟨s.vars.length,rfl,by omega,rfl,rfl⟩
 ·rintro n e1 H1 ⟨j,hnj,hj,rfl,rfl⟩
  refine Q3 ?_
  refine Qa ?_
  simp only[go_sem]
  refine Qh (Qd rfl ?_ ?_)
  ·intro hc
   have hj1:1≤j:=by simp at hc;omega
   obtain⟨i,rfl⟩:∃i,j=i+1:=⟨j-1,by omega⟩
   have e1:(((i+1:Nat):Int)-1)=(i:Int):=by omega
   have hlt:i<s.vars.length:=by omega
   obtain⟨nm,a,b,hr⟩:=h.rv _ (List.getElem_mem hlt)
   have hr':List.getD s.vars i []=[.str nm,.int .i64 a,.int .i64 b]:=by rw[←hr];simp[List.getD_eq_getElem?_getD,hlt]
   rw[e1]at hc⊢
   refine Qi ?_
   simp only[go_sem]
   refine Qh (Qc ?_)
   refine Qa ?_
   simp only[go_sem,hw,LS.o,hv1,hv2,hvl,hvo,hve,hlt,hr']
   refine Qd rfl ?_ ?_
   ·intro hc2
    refine Qa ?_
    simp only[go_sem,hw,LS.o,hv1,hv2,hvl,hvo,hve,hlt,hr']
    refine Qk ?_
    simp only[go_sem,X.next]
    exact retf _ _ (by simp[lk];rfl)
   ·intro hc2
    refine Qi ?_
    simp only[go_sem]
    refine Qq ?_
    simp only[go_sem,X.next]
    exact⟨Qo (by omega) (by omega),i,by omega,i,rfl,by omega,rfl⟩
  ·intro hc
   refine Qt ?_
   simp only[go_sem,X.next]
   refine Qa ?_
   simp only[go_sem]
   refine Qk ?_
   exact retf _ _ (by simp[lk];rfl)
def Qa71 (n:Nat):Prop:=∀(x:Ex) (F H:Heap) (w:Nat) (s:LS) (N:Nat) (K:V→Heap→Prop),x.size≤n→x.ok→LInv F H w s→s.at_<s.blocks.length→s.ok N→N+10 * x.size≤2^38→
  (∀(v:Int) (s':LS) (H':Heap),LInv F H' w s'→LStep s s' (10 * x.size)→K (.c (.int .i64 v)) H')→Qw prog Qb1 [.c (.ptr w 0),.ag x.cells] H K
def AndL (n:Nat):Prop:=∀(x:Ex) (F H:Heap) (w:Nat) (s:LS) (N:Nat) (K:V→Heap→Prop),x.size≤n→x.ok→x.op=10→LInv F H w s→s.at_<s.blocks.length→s.ok N→N+10 * x.size≤2^38→
  (∀(v:Int) (s':LS) (H':Heap),LInv F H' w s'→LStep s s' (10 * x.size)→K (.c (.int .i64 v)) H')→Qw prog Qlb [.c (.ptr w 0),.ag x.cells] H K
theorem Qbea {n:Nat} (hE:∀m,m<n→Qa71 m):AndL n:=by
 intro x F H w s N K hn hok hop h hat hsok hN hK
 have hsz:=x.size_kids
 have hk2:=Ex.ok_and hok hop
 have hkok:=Ex.ok_kids hok
 obtain⟨a,b,hab⟩:∃a b,x.kids=[a,b]:=by
  match hx:x.kids,hk2 with
  |[a,b],_=>exact⟨a,b,rfl⟩
 rw[hab]at hsz hkok
 simp only[Qaf,Qda]at hsz hkok
 refine Qb Qat Qarp ?_
 refine Qa ?_
 simp only[go_sem,x.cells_eq]
 refine Qa ?_
 simp only[go_sem,hab,Qbo,Ex.take4,Ex.allOw,Ex.cells_len,List.getD_cons_zero]
 refine⟨by omega,?_⟩
 refine hE a.size (by omega) a F H w s N _ (Nat.le_refl _) hkok.1 h hat hsok (by omega) fun va s1 H1 h1 st1=>?_
 simp only[go_sem,Qpj]
 refine Qa ?_
 simp only[go_sem]
 refine Qle h1 (st1.ok _ hsok) (by omega) fun s2 H2 h2 st2=>?_
 have st2:=st1.trans st2
 simp only[go_sem,Qpl]
 refine Qu8 (args:=[]) h2 (st2.at_ hat) (st2.ok _ hsok) (by omega) fun s3 H3 h3 st3=>?_
 have st3:=st2.trans st3
 simp only[go_sem,Qpk]
 refine Qa ?_
 simp only[go_sem]
 refine Qes h3 (st3.ok _ hsok) (by omega) fun s4 H4 h4 st4 hb4=>?_
 have st4':=st4
 have st4:=st3.trans st4
 simp only[go_sem,Qpm]
 refine Qa ?_
 simp only[go_sem]
 refine Qes h4 (st4.ok _ hsok) (by omega) fun s5 H5 h5 st5 hb5=>?_
 have st5:=st4.trans st5
 simp only[go_sem,Qpn]
 refine Qa ?_
 simp only[go_sem]
 refine Qoh (next:=[(s3.blocks.length:Int),(s4.blocks.length:Int)]) (N:=0) h5 (st5.at_ hat) (by omega) fun s6 H6 h6 st6=>?_
 have hb6:=st6.bl
 have st6:=st5.trans st6
 refine Qa ?_
 simp only[go_sem,hab,Qbo,Ex.take4,Ex.allOw,Ex.cells_len,List.getD_cons_zero,List.getD_cons_succ]
 refine⟨by omega,?_⟩
 refine hE b.size (by omega) b F H6 w s6 _ _ (Nat.le_refl _) hkok.2.1 h6 (st6.at_ hat) (st6.ok _ hsok) (by omega) fun vb s7 H7 h7 st7=>?_
 have hb7:=st7.bl
 have st7:=st6.trans st7
 simp only[go_sem,Qpo]
 refine Qa ?_
 simp only[go_sem]
 refine Qle h7 (st7.ok _ hsok) (by omega) fun s8 H8 h8 st8=>?_
 have hb8:=st8.bl
 have st8:=st7.trans st8
 simp only[go_sem,Qpq]
 refine Qu8 (args:=[vb]) h8 (st8.at_ hat) (st8.ok _ hsok) (by omega) fun s9 H9 h9 st9=>?_
 have hb9:=st9.bl
 have st9:=st8.trans st9
 simp only[go_sem,Qpp]
 refine Qa ?_
 simp only[go_sem]
 refine Qu8 (args:=[s7.regs]) h9 (st9.at_ hat) (st9.ok _ hsok) (by omega) fun s10 H10 h10 st10=>?_
 have hb10:=st10.bl
 have st10:=st9.trans st10
 refine Qa ?_
 simp only[go_sem]
 refine Qoh (next:=[(s4.blocks.length:Int)]) (N:=0) h10 (st10.at_ hat) (by omega) fun s11 H11 h11 st11=>?_
 have st11:=st10.trans st11
 refine Qa ?_
 simp only[go_sem]
 refine Qk ?_
 simp only[go_sem,Q6,Qad,Q38,reduceIte,List.mem_singleton,forall_eq,RS.op]
 exact hK _ s11 H11 h11 (st11.mono (by omega))
end Go.AE.Y

namespace Go.AE.Y
open Go.Proofs.Tryz
variable {F H:Heap} {w:Nat} {s:LS} {K:V→Heap→Prop}
set_option maxHeartbeats 2000000 in
theorem Qbcm {n:Nat} (hA:AndL n) (hE:∀m,m<n→Qa71 m):Qa71 n:=by
 intro x F H w s N K hn hok h hat hsok hN hK
 have hsz:=x.size_kids
 have hkok:=Ex.ok_kids hok
 refine Qb Qat Qajm ?_
 have retf:∀(v:Int) (e:Env) (s':LS) (H':Heap),LInv F H' w s'→LStep s s' (10 * x.size)→lk 4 e=.c (.int .i64 v)→Q6 Qln K .ret e H':=by
  intro v e s' H' a1 a2 h1
  simp only[go_sem,Q6,Qad,Qln,List.mem_singleton,forall_eq,RS.op,h1]
  exact hK _ _ _ a1 a2
 refine Qa ?_
 simp only[go_sem,x.cells_eq]
 refine Q3 ?_
 refine Qa ?_
 simp only[go_sem]
 refine Qh (Qc ?_)
 refine Qa ?_
 simp only[go_sem]
 refine Qd rfl ?_ ?_
 ·intro hc
  refine Qal ?_
  simp only[go_sem]
  refine Qle h hsok (by omega) fun s1 H1 h1 st1=>?_
  simp only[go_sem,Qmx]
  refine Qu8 (args:=[]) h1 (st1.at_ hat) (st1.ok _ hsok) (by omega) fun s2 H2 h2 st2=>?_
  simp only[go_sem,Qmw]
  refine Qk ?_
  simp only[go_sem]
  exact retf _ _ s2 H2 h2 ((st1.trans st2).mono (by omega)) (by simp[lk];rfl)
 intro hc1
 refine Qa ?_
 simp only[go_sem]
 refine Qd rfl ?_ ?_
 ·intro hc
  refine Qa ?_
  simp only[go_sem]
  refine Qbe3 h fun v=>?_
  simp only[go_sem,Qmy]
  refine Qk ?_
  simp only[go_sem]
  exact retf _ _ s H h ((LStep.refl s).mono (by omega)) (by simp[lk];rfl)
 intro hc2
 refine Qa ?_
 simp only[go_sem]
 refine Qd rfl ?_ ?_
 ·intro hc
  have hop:x.op=10:=by simpa using hc
  refine Qa ?_
  simp only[go_sem]
  rw[←x.cells_eq]
  refine hA x F H w s N _ hn hok hop h hat hsok hN fun v s1 H1 h1 st1=>?_
  simp only[go_sem,Qmz]
  refine Qk ?_
  simp only[go_sem]
  exact retf _ _ s1 H1 h1 st1 (by simp[lk];rfl)
 intro hc3
 refine Qi ?_
 simp only[go_sem]
 refine Qa ?_
 simp only[go_sem]
 refine Q3 ?_
 refine Qa ?_
 simp only[go_sem]
 refine Qh (Qc (Qu (fun n e1 H1=>∃(i:Nat) (ars:List Int) (c:C) (Lg:List (Nat×Obj)) (s':LS),n=x.kids.length-i∧i≤x.kids.length∧ars.length=i∧Gr Lg 1 (Qf ars) c∧LInv F H1 w s'∧Kn F H1 [] (s'.L w++Lg)∧
  LStep s s' (10 * Qaf (x.kids.take i))∧e1=[(0,.c (.ptr w 0)),(3,.c (.pp [.int .i64 x.op,.int .i64 x.n,.str x.name,.sl false 4 (Qbo x.kids)])),(5,.c c),(6,.c (.int .i64 i))]) x.kids.length ?_ ?_))
 ·exact⟨0,[],_,[],s,by omega,by omega,rfl,.nil 1,h,by simpa using h.kn,(LStep.refl s).mono (by omega),rfl⟩
 ·rintro n e1 H1 ⟨i,ars,c,Lg,s1,hn1,hi,hasl,hgr,h1,kn,st1,rfl⟩
  refine Q3 ?_
  refine Qa ?_
  simp only[go_sem,Qa2]
  intro hl
  simp only[LIM]at hl
  refine Qh (Qd rfl ?_ ?_)
  ·intro hc
   have hlt:i<x.kids.length:=by simpa using hc
   have hm:=Qdn (List.getElem_mem hlt)
   have htk:=Qk1 hlt
   have htl:=Qe6 x.kids (i+1)
   refine Qi ?_
   simp only[go_sem]
   refine Qh (Qc (Qq ?_))
   simp only[go_sem,hlt,Qa2,Qdm _ _ hlt,Ex.take4,Ex.allOw,Ex.cells_len]
   obtain⟨F',hf,back⟩:=h1.beside kn hgr
   refine hE x.kids[i].size (by omega) _ F' H1 w s1 _ _ (Nat.le_refl _) (Q2n hkok _ (List.getElem_mem hlt)) hf (st1.at_ hat) (st1.ok _ hsok) (by omega) fun v s2 H2 h2 st2=>?_
   obtain⟨h2,kn⟩:=back s2 H2 h2
   simp only[go_sem,Qm1]
   refine kn.grow (new:=Qf [v]) hgr (.mk' _ _ _ _) (Qv _) (by simp only[Qe,hasl,List.length_cons,List.length_nil,LIM];omega) fun y' H3 kn=>?_
   simp only[go_sem,Qm0]
   refine Qq ?_
   simp only[go_sem,X.next]
   refine⟨Qo (by omega) (by omega),x.kids.length-(i+1),by omega,i+1,ars++[v],_,_,s2,rfl,by omega,by simp[hasl],.mk y' 1 (Qf (ars++[v])) (n:=(Qf ars).length+(Qf [v]).length) (by simp[Qf]),h2.re kn.drop,by rw[Qb7];exact kn,(st1.trans st2).mono (by rw[htk];omega),by simp[Qf]⟩
  ·intro hc
   have hge:x.kids.length≤i:=by simpa using hc
   rw[List.take_of_length_le hge]at st1
   refine Qt ?_
   simp only[go_sem,X.next]
   refine Q3 ?_
   refine Q3 ?_
   obtain⟨S,H2,f1,f2,kn2⟩:=hgr.freeze kn (Qv _)
   have h2:=h1.re kn2
   refine c_gh (Qe2 S (fun t=>?_) f2) (e':=[(0,.c (.ptr w 0)),(3,.c (.pp [.int .i64 x.op,.int .i64 x.n,.str x.name,.sl false 4 (Qbo x.kids)])),(5,.c (.sl false 1 (Qf ars)))]) ?_
   ·simp only[lk]
    split
    ·exact .c _ _ (.same _ rfl)
    ·split
     ·exact .c _ _ (.same _ rfl)
     ·split
      ·exact .c _ _ f1
      ·exact .unk _
   refine Qa ?_
   simp only[go_sem]
   refine Qh (Qc ?_)
   refine Qa ?_
   simp only[go_sem]
   refine Qd rfl ?_ ?_
   ·intro hc
    refine Qa ?_
    simp only[go_sem]
    refine Qle h2 (st1.ok _ hsok) (by omega) fun s3 H3 h3 st3=>?_
    have st3:=st1.trans st3
    simp only[go_sem,Qkh]
    refine Qu8 h3 (st3.at_ hat) (st3.ok _ hsok) (by omega) fun s4 H4 h4 st4=>?_
    simp only[go_sem,Qkg]
    refine Qk ?_
    simp only[go_sem]
    exact retf _ _ s4 H4 h4 ((st3.trans st4).mono (by omega)) (by simp[lk];rfl)
   intro hc4
   refine Qa ?_
   simp only[go_sem]
   refine Qd rfl ?_ ?_
   ·intro hc
    refine Qa ?_
    simp only[go_sem]
    refine Qle h2 (st1.ok _ hsok) (by omega) fun s3 H3 h3 st3=>?_
    have st3:=st1.trans st3
    simp only[go_sem,Qkj]
    refine Qu8 h3 (st3.at_ hat) (st3.ok _ hsok) (by omega) fun s4 H4 h4 st4=>?_
    simp only[go_sem,Qki]
    refine Qk ?_
    simp only[go_sem]
    exact retf _ _ s4 H4 h4 ((st3.trans st4).mono (by omega)) (by simp[lk];rfl)
   intro hc5
   refine Qa ?_
   simp only[go_sem]
   refine Qd rfl ?_ ?_
   ·intro hc
    have hw2:=h2.hw
    refine Qal ?_
    simp only[go_sem,hw2,LS.o]
    refine Qle h2 (st1.ok _ hsok) (by omega) fun s3 H3 h3 st3=>?_
    have hw3:=h3.hw
    have hfn:=st3.fn
    have st3:=st1.trans st3
    simp only[go_sem,Qkm,hw3,LS.o,hfn.1,hfn.2]
    refine Qbd7 fun q=>?_
    simp only[go_sem,Qkl]
    refine Qu8 h3 (st3.at_ hat) (st3.ok _ hsok) (by omega) fun s4 H4 h4 st4=>?_
    simp only[go_sem,Qkk]
    refine Qk ?_
    simp only[go_sem]
    exact retf _ _ s4 H4 h4 ((st3.trans st4).mono (by omega)) (by simp[lk];rfl)
   intro hc6
   refine Qi ?_
   simp only[go_sem]
   refine Qal ?_
   simp only[go_sem]
   refine Qle h2 (st1.ok _ hsok) (by omega) fun s3 H3 h3 st3=>?_
   have st3:=st1.trans st3
   simp only[go_sem,Qko]
   refine Qu8 h3 (st3.at_ hat) (st3.ok _ hsok) (by omega) fun s4 H4 h4 st4=>?_
   simp only[go_sem,Qkn]
   refine Qk ?_
   exact retf _ _ s4 H4 h4 ((st3.trans st4).mono (by omega)) (by simp[lk];rfl)
theorem Qbem (n:Nat):Qa71 n:=by
 induction n using Nat.strongRecOn with
 |ind n ih=>exact Qbcm (Qbea ih) ih
end Go.AE.Y

namespace Go.AE.Y
open Go.Proofs.Tryz
variable {F H:Heap} {w:Nat} {s:LS} {K:V→Heap→Prop}
theorem Qa9b:∀(n:Nat) (l:List St) {fl:Bool} {H:Heap} {K:V→Heap→Prop},Qy l≤n→Qy l≤2^40→(∀v:Nat,v≤Qy l→K (.c (.int .i64 v)) H)→Qw prog Qla [.c (.sl fl 5 (Qaz l))] H K:=by
 intro n
 induction n using Nat.strongRecOn with
 |ind n ih=>
 intro l fl H K hn hb hK
 have hlen:=Q9c l
 refine Qb Qat Qa9v ?_
 refine Qa ?_
 simp only[go_sem]
 refine Qa ?_
 simp only[go_sem]
 refine Q3 ?_
 refine Qa ?_
 simp only[go_sem]
 refine Qh (Qc (Qu (fun n e1 H1=>∃(i v:Nat),n=l.length-i∧i≤l.length∧v≤Qy (l.take i)∧H1=H∧e1=[(0,.c (.sl fl 5 (Qaz l))),(3,.c (.int .i64 v)),(4,.c (.int .i64 i))]) l.length ?_ ?_))
 ·exact⟨0,0,by omega,by omega,by omega,rfl,rfl⟩
 ·rintro n e1 H1 ⟨i,v,hn1,hi,hv,rfl,rfl⟩
  refine Q3 ?_
  refine Qa ?_
  simp only[go_sem,Qa6]
  intro hl
  simp only[LIM]at hl
  refine Qh (Qd rfl ?_ ?_)
  ·intro hc
   have hlt:i<l.length:=by simpa using hc
   have hm:=Qjk (List.getElem_mem hlt)
   have htk:=Qnh hlt
   have htl:=Qfy l (i+1)
   have hse:=(l[i]'hlt).size_eq
   refine Qi ?_
   simp only[go_sem]
   refine Qh (Qc (Qa9 ?_))
   simp only[go_sem,hlt,Qa6,Qdz _ _ hlt,St.cells_eq]
   refine Qa4i ?_
   obtain⟨t,ht,ht1⟩:∃t:Nat,(if decide (l[i].op=1)=true then (1:Int)else 0)=t∧t≤1:=by
    by_cases h:l[i].op=1
    ·exact⟨1,by simp[h],Nat.le_refl _⟩
    ·exact⟨0,by simp[h],by omega⟩
   simp only[go_sem,Q7u,hlt,Qa6,Qdz _ _ hlt,St.cells_eq,ht]
   refine⟨Qo (by omega) (by omega),?_⟩
   refine ih (Qy l[i].body) (by omega) l[i].body (Nat.le_refl _) (by omega) fun a ha=>?_
   simp only[go_sem,Q7t,hlt,Qa6,Qdz _ _ hlt,St.cells_eq]
   refine⟨Qo (by omega) (by omega),?_⟩
   refine ih (Qy l[i].els) (by omega) l[i].els (Nat.le_refl _) (by omega) fun c hc=>?_
   simp only[go_sem,Q7s]
   refine⟨Qo (by omega) (by omega),?_⟩
   refine Qq ?_
   simp only[go_sem,X.next]
   refine⟨Qo (by omega) (by omega),l.length-(i+1),by omega,i+1,v+t+a+c,rfl,by omega,by omega,rfl⟩
  ·intro hc
   have hge:l.length≤i:=by simpa using hc
   refine Qt ?_
   simp only[go_sem,X.next]
   refine Qa ?_
   simp only[go_sem]
   refine Qk ?_
   simp only[go_sem,Q6,Qad,Qay9,reduceIte,List.mem_singleton,forall_eq,RS.op]
   rw[List.take_of_length_le hge]at hv
   exact hK v (by omega)
def Qbd8 (n:Nat):Prop:=∀(x:St) (F H:Heap) (w:Nat) (s:LS) (N:Nat) (K:V→Heap→Prop),x.size≤n→x.ok→LInv F H w s→s.at_<s.blocks.length→s.ok N→N+10 * x.size≤2^38→
  (∀(s':LS) (H':Heap),LInv F H' w s'→LStep s s' (10 * x.size)→K (.tup []) H')→Qw prog Qi4 [.c (.ptr w 0),.ag x.cells] H K
def Qbfk (n:Nat):Prop:=∀(x:St) (F H:Heap) (w:Nat) (s:LS) (N:Nat) (K:V→Heap→Prop),x.size≤n→x.ok→LInv F H w s→s.at_<s.blocks.length→s.ok N→N+10 * x.size≤2^38→
  (∀(s':LS) (H':Heap),LInv F H' w s'→LStep s s' (10 * x.size)→K (.tup []) H')→Qw prog Qi3 [.c (.ptr w 0),.ag x.cells] H K
def Qayb (n:Nat):Prop:=∀(l:List St) (fl:Bool) (F H:Heap) (w:Nat) (s:LS) (N:Nat) (K:V→Heap→Prop),Qy l≤n→Qcl l→LInv F H w s→s.at_<s.blocks.length→s.ok N→N+10 * Qy l≤2^38→
  (∀(s':LS) (H':Heap),LInv F H' w s'→LStep s s' (10 * Qy l)→K (.tup []) H')→Qw prog Qb6 [.c (.ptr w 0),.c (.sl fl 5 (Qaz l))] H K
theorem Qa7q {n:Nat} (hS:Qbd8 n):Qayb n:=by
 intro l fl F H w s N K hn hok h hat hsok hN hK
 have hw:=h.hw
 obtain⟨hv1,hv2⟩:=h.vget
 have hvl:=h.gv.lenC
 have hvo:=h.gv.isOw
 refine Qb Qat Qae7 ?_
 refine Qa ?_
 simp only[go_sem,hw,LS.o,hv1,hvl,hvo]
 intro hvlim
 refine Q3 ?_
 refine Qa ?_
 simp only[go_sem]
 refine Qh (Qc (Qu (fun n e1 H1=>∃(i:Nat) (s':LS),n=l.length-i∧i≤l.length∧LInv F H1 w s'∧LStep s s' (10 * Qy (l.take i))∧e1=[(0,.c (.ptr w 0)),(1,.c (.sl fl 5 (Qaz l))),(4,.c (.int .i64 s.vars.length)),(5,.c (.int .i64 i))]) l.length ?_ ?_))
 ·exact⟨0,s,by omega,by omega,h,(LStep.refl s).mono (by omega),rfl⟩
 ·rintro n e1 H1 ⟨i,s1,hn1,hi,h1,st1,rfl⟩
  refine Q3 ?_
  refine Qa ?_
  simp only[go_sem,Qa6]
  intro hl
  simp only[LIM]at hl
  refine Qh (Qd rfl ?_ ?_)
  ·intro hc
   have hlt:i<l.length:=by simpa using hc
   have hm:=Qjk (List.getElem_mem hlt)
   have htk:=Qnh hlt
   have htl:=Qfy l (i+1)
   refine Qi ?_
   simp only[go_sem]
   refine Qh (Qc (Qq ?_))
   simp only[go_sem,hlt,Qa6,Qdz _ _ hlt,St.take5,St.allOw,St.cells_len]
   refine hS l[i] F H1 w s1 _ _ (by omega) (Qa7u hok _ (List.getElem_mem hlt)) h1 (st1.at_ hat) (st1.ok _ hsok) (by omega) fun s2 H2 h2 st2=>?_
   refine Qq ?_
   simp only[go_sem,X.next]
   exact⟨Qo (by omega) (by omega),l.length-(i+1),by omega,i+1,s2,rfl,by omega,h2,(st1.trans st2).mono (by rw[htk];omega),rfl⟩
  ·intro hc
   have hge:l.length≤i:=by simpa using hc
   rw[List.take_of_length_le hge]at st1
   have hw1:=h1.hw
   obtain⟨hv1',hv2'⟩:=h1.vget
   have hvl':=h1.gv.lenC
   have hvo':=h1.gv.isOw
   have hve':=h1.gv.elemSz
   have hvle:=st1.vl
   have hrv:∀r∈s1.vars.take s.vars.length,VarRow r:=fun r hr=>h1.rv r (List.mem_of_mem_take hr)
   have fin:∀(H2:Heap) (c:C),H2=H1.set w (LS.o { s1 with vc:=c })→VGr s1.lv (s1.vars.take s.vars.length) c→Q6 Qi9 K .nrm [] H2:=by
    intro H2 c h2 hg
    simp only[Q6,Qad,Qi9]
    refine⟨by simp,hK { s1 with vc:=c,vars:=s1.vars.take s.vars.length } H2 (h1.setw h2 rfl rfl rfl rfl hg hrv) ⟨st1.bl,fun M hM=>?_,by simp;omega,st1.at_,st1.fn⟩⟩
    have:=st1.ok M hM
    exact⟨this.r0,this.r1,this.n0,this.n1,this.b1,this.i1,by have:=this.v1;simp;omega⟩
   refine Qt ?_
   simp only[go_sem,X.next]
   refine Qq ?_
   rcases h1.gv with ⟨g1,g2,g3⟩|⟨y,all,k,g1,g2,g3,g4⟩
   ·have hz:s.vars.length=0:=by rw[g2]at hvle;simpa using hvle
    simp only[go_sem,hw1,LS.o,g1,hz,List.take_nil,List.drop_nil]
    refine⟨⟨by omega,by omega⟩,fun H2 h2=>?_⟩
    refine fin H2 (.sl true 3 []) h2 (.inl ⟨rfl,by rw[g2];simp,g3⟩)
   ·rw[g1]at hv1' hvl'
    have hk:k=s1.vars.length:=by simpa[lenC]using hvl'
    simp only[go_sem]at hv1'
    simp only[go_sem,hw1,LS.o,g1,hv1']
    refine⟨⟨by omega,by omega⟩,fun H2 h2=>?_⟩
    refine fin H2 (.vsl y 3 0 (s.vars.length-0)) h2 (.inr ⟨y,all,s.vars.length-0,rfl,by omega,?_,g4⟩)
    rw[g3,List.take_take];congr 1;omega
end Go.AE.Y

namespace Go.AE.Y
open Go.Proofs.Tryz
variable {F H:Heap} {w:Nat} {s:LS} {K:V→Heap→Prop}
set_option maxHeartbeats 1000000 in
theorem Qa9e {n:Nat} (hS:∀m,m<n→Qayb m):Qbfk n:=by
 intro x F H w s N K hn hok h hat hsok hN hK
 have hsz:=x.size_eq
 rw[St.ok_eq]at hok
 obtain⟨hap,hao,hbo,heo⟩:=hok
 have ham:=Qdn (List.getElem_mem hap)
 refine Qb Qat Qajo ?_
 refine Qa ?_
 simp only[go_sem,x.cells_eq]
 refine Qa ?_
 simp only[go_sem]
 refine Qes h hsok (by omega) fun s1 H1 h1 st1 hb1=>?_
 simp only[go_sem,Qm2]
 refine Qa ?_
 simp only[go_sem]
 refine Qes h1 (st1.ok _ hsok) (by omega) fun s2 H2 h2 st2 hb2=>?_
 have st2:=st1.trans st2
 simp only[go_sem,Qm3]
 refine Qa ?_
 simp only[go_sem]
 refine Qes h2 (st2.ok _ hsok) (by omega) fun s3 H3 h3 st3 hb3=>?_
 have st3:=st2.trans st3
 simp only[go_sem,Qm4]
 refine Qa ?_
 simp only[go_sem]
 refine Qoh (next:=[(s.blocks.length:Int)]) (N:=0) h3 (st3.at_ hat) (by omega) fun s4 H4 h4 st4=>?_
 have hb4:=st4.bl
 have st4:=st3.trans st4
 refine Qa ?_
 simp only[go_sem,hap,Qa2,Qdm _ _ hap,Ex.take4,Ex.allOw,Ex.cells_len]
 refine⟨by omega,?_⟩
 refine Qbem _ x.args[0] F H4 w s4 _ _ (Nat.le_refl _) (Q2n hao _ (List.getElem_mem hap)) h4 (st4.at_ hat) (st4.ok _ hsok) (by omega) fun v s5 H5 h5 st5=>?_
 have hb5:=st5.bl
 have st5:=st4.trans st5
 simp only[go_sem,Qm5]
 refine Qa ?_
 simp only[go_sem]
 refine Qoh (next:=[(s1.blocks.length:Int),(s2.blocks.length:Int)]) (N:=0) h5 (st5.at_ hat) (by omega) fun s6 H6 h6 st6=>?_
 have hb6:=st6.bl
 have st6:=st5.trans st6
 refine Qa ?_
 simp only[go_sem]
 refine hS (Qy x.body) (by omega) x.body _ F H6 w s6 _ _ (Nat.le_refl _) hbo h6 (st6.at_ hat) (st6.ok _ hsok) (by omega) fun s7 H7 h7 st7=>?_
 have hb7:=st7.bl
 have st7:=st6.trans st7
 refine Qq ?_
 simp only[go_sem]
 refine Qoh (next:=[(s.blocks.length:Int)]) (N:=0) h7 (st7.at_ hat) (by omega) fun s8 H8 h8 st8=>?_
 have st8:=st7.trans st8
 simp only[Q6,Qad,Qw3]
 exact⟨by simp,hK s8 H8 h8 (st8.mono (by omega))⟩
set_option maxHeartbeats 2000000 in
theorem Qba2 {n:Nat} (hS:∀m,m<n→Qayb m):Qbd8 n:=by
 intro x F H w s N K hn hok h hat hsok hN hK
 have hok':=hok
 have hsz:=x.size_eq
 rw[St.ok_eq]at hok
 obtain⟨hap,hao,hbo,heo⟩:=hok
 refine Qb Qat Qajp ?_
 have retn:∀(e:Env) (s':LS) (H':Heap) (q:X),(q=.nrm∨q=.ret)→LInv F H' w s'→LStep s s' (10 * x.size)→Q6 Qlo K q e H':=by
  intro e s' H' q hq a1 a2
  rcases hq with rfl|rfl <;> exact⟨by simp[Qlo],hK s' H' a1 a2⟩
 refine Qa ?_
 simp only[go_sem,x.cells_eq]
 refine Q3 ?_
 refine Qa ?_
 simp only[go_sem]
 refine Qh (Qd rfl ?_ ?_)
 ·intro hc
  refine Qa ?_
  simp only[go_sem]
  rw[←x.cells_eq]
  refine Qa9e hS x F H w s N _ hn hok' h hat hsok hN fun s1 H1 h1 st1=>?_
  refine Qk ?_
  simp only[go_sem]
  exact retn _ s1 H1 _ (.inr rfl) h1 st1
 intro hc0
 refine Qi ?_
 simp only[go_sem]
 refine Qa ?_
 simp only[go_sem]
 refine Q3 ?_
 refine Qa ?_
 simp only[go_sem]
 refine Qh (Qc (Qu (fun n e1 H1=>∃(i:Nat) (ars:List Int) (c:C) (Lg:List (Nat×Obj)) (s':LS),n=x.args.length-i∧i≤x.args.length∧ars.length=i∧Gr Lg 1 (Qf ars) c∧LInv F H1 w s'∧Kn F H1 [] (s'.L w++Lg)∧
  LStep s s' (10 * Qaf (x.args.take i))∧e1=[(0,.c (.ptr w 0)),(3,.c (.pp [.int .i64 x.op,.str x.name,.sl false 4 (Qbo x.args),.sl false 5 (Qaz x.body),.sl false 5 (Qaz x.els)])),(4,.c c),(5,.c (.int .i64 i))]) x.args.length ?_ ?_))
 ·exact⟨0,[],_,[],s,by omega,by omega,rfl,.nil 1,h,by simpa using h.kn,(LStep.refl s).mono (by omega),rfl⟩
 ·rintro n e1 H1 ⟨i,ars,c,Lg,s1,hn1,hi,harl,hgr,h1,kn,st1,rfl⟩
  refine Q3 ?_
  refine Qa ?_
  simp only[go_sem,Qa2]
  intro hl
  simp only[LIM]at hl
  refine Qh (Qd rfl ?_ ?_)
  ·intro hc
   have hlt:i<x.args.length:=by simpa using hc
   have hm:=Qdn (List.getElem_mem hlt)
   have htk:=Qk1 hlt
   have htl:=Qe6 x.args (i+1)
   refine Qi ?_
   simp only[go_sem]
   refine Qh (Qc (Qq ?_))
   simp only[go_sem,hlt,Qa2,Qdm _ _ hlt,Ex.take4,Ex.allOw,Ex.cells_len]
   obtain⟨F',hf,back⟩:=h1.beside kn hgr
   refine Qbem _ _ F' H1 w s1 _ _ (Nat.le_refl _) (Q2n hao _ (List.getElem_mem hlt)) hf (st1.at_ hat) (st1.ok _ hsok) (by omega) fun v s2 H2 h2 st2=>?_
   obtain⟨h2,kn⟩:=back s2 H2 h2
   simp only[go_sem,Qm7]
   refine kn.grow (new:=Qf [v]) hgr (.mk' _ _ _ _) (Qv _) (by simp only[Qe,harl,List.length_cons,List.length_nil,LIM];omega) fun y' H3 kn=>?_
   simp only[go_sem,Qm6]
   refine Qq ?_
   simp only[go_sem,X.next]
   refine⟨Qo (by omega) (by omega),x.args.length-(i+1),by omega,i+1,ars++[v],_,_,s2,rfl,by omega,by simp[harl],.mk y' 1 (Qf (ars++[v])) (n:=(Qf ars).length+(Qf [v]).length) (by simp[Qf]),h2.re kn.drop,by rw[Qb7];exact kn,(st1.trans st2).mono (by rw[htk];omega),by simp[Qf]⟩
  ·intro hc
   have hge:x.args.length≤i:=by simpa using hc
   have hil:i=x.args.length:=by omega
   rw[List.take_of_length_le hge]at st1
   have har0:0<ars.length:=by omega
   refine Qt ?_
   simp only[go_sem,X.next]
   refine Q3 ?_
   obtain⟨S,H2,f1,f2,kn2⟩:=hgr.freeze kn (Qv _)
   have h2:=h1.re kn2
   refine c_gh (Qe2 S (fun t=>?_) f2) (e':=[(0,.c (.ptr w 0)),(3,.c (.pp [.int .i64 x.op,.str x.name,.sl false 4 (Qbo x.args),.sl false 5 (Qaz x.body),.sl false 5 (Qaz x.els)])),(4,.c (.sl false 1 (Qf ars)))]) ?_
   ·simp only[lk]
    split
    ·exact .c _ _ (.same _ rfl)
    ·split
     ·exact .c _ _ (.same _ rfl)
     ·split
      ·exact .c _ _ f1
      ·exact .unk _
   have hsok1:=st1.ok _ hsok
   have hat1:=st1.at_ hat
   have hw2:=h2.hw
   refine Qa ?_
   simp only[go_sem]
   refine Qc ?_
   refine Qa ?_
   simp only[go_sem]
   refine Qd rfl ?_ ?_
   ·
    intro hc
    refine Qa ?_
    simp only[go_sem,hw2,LS.o]
    refine Qu8 h2 hat1 hsok1 (by omega) fun s3 H3 h3 st3=>?_
    have hw3:=h3.hw
    have hvo:=h3.gv.isOw
    have hsok3:=st3.ok _ hsok1
    have st3:=st1.trans st3
    refine Qal ?_
    simp only[go_sem,hw3,LS.o,hvo]
    refine h3.addVar ⟨x.name,s3.next,0,rfl⟩ (by have:=hsok3.v1;simp only[LIM];omega) fun y H4 hw4 cont=>?_
    simp only[go_sem,Qm8,hw4,LS.o]
    intro H5 h5
    have h5':=cont H5 h5
    have hw5:=h5'.hw
    refine Qq ?_
    have hn0:=hsok3.n0
    have hn1:=hsok3.n1
    simp only[go_sem,hw5,LS.o]
    refine⟨Qo (by omega) (by omega),fun H6 h6=>?_⟩
    have h6':=h5'.setw (s':={ s3 with vc:=.vsl y 3 0 (s3.vars.length+1),lv:=[(y,.vec 3 (s3.vars++[[C.str x.name,C.int IntKind.i64 s3.next,C.int IntKind.i64 0]]))],vars:=s3.vars++[[C.str x.name,C.int IntKind.i64 s3.next,C.int IntKind.i64 0]],next:=s3.next+1 }) h6 rfl rfl rfl rfl h5'.gv h5'.rv
    refine retn _ _ H6 _ (.inl rfl) h6' ⟨st3.bl,fun M hM=>?_,?_,st3.at_,st3.fn⟩
    ·have q:=st3.ok M hM
     refine⟨q.r0,?_,?_,?_,?_,fun b hb=>?_,?_⟩
     ·have:=q.r1;show s3.regs≤_;omega
     ·have:=q.n0;show 0≤s3.next+1;omega
     ·have:=q.n1;show s3.next+1≤_;omega
     ·have:=q.b1;show s3.blocks.length≤_;omega
     ·have:=q.i1 b hb;omega
     ·have:=q.v1;simp;omega
    ·have:=st3.vl;simp;omega
   intro hc1
   refine Qa ?_
   simp only[go_sem]
   refine Qd rfl ?_ ?_
   ·
    intro hc
    refine Qq ?_
    simp only[go_sem]
    refine Qbe3 h2 fun v=>?_
    simp only[go_sem,Qm9]
    refine Qu8 h2 hat1 hsok1 (by omega) fun s3 H3 h3 st3=>?_
    exact retn _ _ H3 _ (.inl rfl) h3 ((st1.trans st3).mono (by omega))
   intro hc2
   refine Qa ?_
   simp only[go_sem]
   refine Qd rfl ?_ ?_
   ·intro hc
    refine Qq ?_
    simp only[go_sem]
    refine Qu8 h2 hat1 hsok1 (by omega) fun s3 H3 h3 st3=>?_
    exact retn _ _ H3 _ (.inl rfl) h3 ((st1.trans st3).mono (by omega))
   intro hc3
   refine Qa ?_
   simp only[go_sem]
   refine Qd rfl ?_ ?_
   ·intro hc
    refine Qq ?_
    simp only[go_sem]
    refine Qu8 h2 hat1 hsok1 (by omega) fun s3 H3 h3 st3=>?_
    exact retn _ _ H3 _ (.inl rfl) h3 ((st1.trans st3).mono (by omega))
   intro hc4
   refine Qa ?_
   simp only[go_sem]
   refine Qd rfl ?_ ?_
   ·
    intro hc
    refine Qa9 ?_
    simp only[go_sem,har0,Qe,Qs _ _ har0]
    refine⟨by omega,?_⟩
    refine Qes h2 hsok1 (by omega) fun s3 H3 h3 st3 hb3=>?_
    have st3:=st1.trans st3
    simp only[go_sem,Qkp,har0,Qe,Qs _ _ har0]
    refine⟨by omega,?_⟩
    refine Qoh (next:=[]) (N:=0) h3 (st3.at_ hat) (by omega) fun s4 H4 h4 st4=>?_
    exact retn _ _ H4 _ (.inl rfl) h4 ((st3.trans st4).mono (by omega))
   intro hc5
   refine Qa ?_
   simp only[go_sem]
   refine Qd rfl ?_ ?_
   ·
    intro hc
    refine Qa ?_
    simp only[go_sem]
    refine Qes h2 hsok1 (by omega) fun s3 H3 h3 st3 hb3=>?_
    have st3:=st1.trans st3
    simp only[go_sem,Qkq]
    refine Qa ?_
    simp only[go_sem]
    refine Qes h3 (st3.ok _ hsok) (by omega) fun s4 H4 h4 st4 hb4=>?_
    have st4:=st3.trans st4
    simp only[go_sem,Qkr]
    refine Qa ?_
    simp only[go_sem]
    refine Qes h4 (st4.ok _ hsok) (by omega) fun s5 H5 h5 st5 hb5=>?_
    have st5:=st4.trans st5
    simp only[go_sem,Qks]
    refine Qa ?_
    simp only[go_sem,har0,Qe,Qs _ _ har0]
    refine⟨by omega,?_⟩
    refine Qoh (next:=[(s1.blocks.length:Int),(s3.blocks.length:Int)]) (N:=0) h5 (st5.at_ hat) (by omega) fun s6 H6 h6 st6=>?_
    have hb6:=st6.bl
    have st6:=st5.trans st6
    refine Qa ?_
    simp only[go_sem]
    refine hS (Qy x.body) (by omega) x.body _ F H6 w s6 _ _ (Nat.le_refl _) hbo h6 (st6.at_ hat) (st6.ok _ hsok) (by omega) fun s7 H7 h7 st7=>?_
    have hb7:=st7.bl
    have st7:=st6.trans st7
    refine Qa ?_
    simp only[go_sem]
    refine Qoh (next:=[(s4.blocks.length:Int)]) (N:=0) h7 (st7.at_ hat) (by omega) fun s8 H8 h8 st8=>?_
    have hb8:=st8.bl
    have st8:=st7.trans st8
    refine Qa ?_
    simp only[go_sem]
    refine hS (Qy x.els) (by omega) x.els _ F H8 w s8 _ _ (Nat.le_refl _) heo h8 (st8.at_ hat) (st8.ok _ hsok) (by omega) fun s9 H9 h9 st9=>?_
    have hb9:=st9.bl
    have st9:=st8.trans st9
    refine Qq ?_
    simp only[go_sem]
    refine Qoh (next:=[(s4.blocks.length:Int)]) (N:=0) h9 (st9.at_ hat) (by omega) fun s10 H10 h10 st10=>?_
    exact retn _ _ H10 _ (.inl rfl) h10 ((st9.trans st10).mono (by omega))
   ·intro hc6
    refine Qi ?_
    simp only[go_sem]
    exact retn _ _ H2 _ (.inl rfl) h2 (st1.mono (by omega))
theorem Qbfe (n:Nat):Qayb n:=by
 induction n using Nat.strongRecOn with
 |ind n ih=>exact Qa7q (Qba2 ih)
end Go.AE.Y

namespace Go.AE.Y
open Go.Proofs.Tryz
variable {H:Heap} {K:V→Heap→Prop}
set_option maxHeartbeats 2000000 in
theorem Qber {fns:List Fn} {fl:Bool} {k:Nat} (hk:k<fns.length) (hpl:fns[k].params.length≤3) (hbo:Qcl fns[k].body) (hbs:Qy fns[k].body≤2^34)
  (hK:∀(c:CodeD) (H':Heap),Upd H H' []→c.fits→K (.ag c.cells) H'):Qw prog Qaq2 [.ag [.sl fl 3 (Qb2 fns)],.c (.int .i64 k)] H K:=by
 refine Qz ?_
 refine Qb Qat Qbex ?_
 refine Qa ?_
 simp only[go_sem]
 intro x4 hx4 H1 h1
 have kn:=(Kn.start0 H).al hx4 h1
 refine Qa ?_
 simp only[go_sem,hk,Qbc,Qe1 _ _ hk,Fn.take3,Fn.allOw,Fn.cells_len]
 generalize fns[k]=f at *
 intro x5 hx5 H2 h2
 have kn:=kn.al hx5 h2
 have hx52:=kn.l 1 rfl
 simp only[go_sem,Qapw,hx52,Fn.cells]
 intro H3 h3
 have kn:Kn H H3 [] [(x4,.st [.int .i64 0,.int .i64 0,.sl true 5 []]),(x5,.st [.str f.name,.sl false 1 (Qbe f.params),.sl false 5 (Qaz f.body)])]:=kn.stL 1 rfl h3
 have hx43:=kn.l 0 rfl
 have hx53:=kn.l 1 rfl
 have h45:=kn.neL 0 1 rfl rfl (by decide)
 refine Qa ?_
 simp only[go_sem,hx53,Qaq]
 intro hpl2 w hw H4 h4
 have h:LInv H3 H4 w ⟨fns,fl,0,0,.sl true 5 [],[],[],0,.sl true 3 [],[],[],f.params.length⟩:=
  ⟨(Kn.start0 H3).al hw h4,.nil 5,.inl ⟨rfl,rfl,rfl⟩,by simp,by simp,by simp⟩
 have hfr:∀(s:LS) (H':Heap),LInv H3 H' w s→H' x4=.st [.int .i64 0,.int .i64 0,.sl true 5 []]∧H' x5=.st [.str f.name,.sl false 1 (Qbe f.params),.sl false 5 (Qaz f.body)]:=fun s H' h'=>
  ⟨by rw[h'.kn.chg x4 (by rw[hx43];simp) (by simp),hx43],by rw[h'.kn.chg x5 (by rw[hx53];simp) (by simp),hx53]⟩
 have hx54:=(hfr _ _ h).2
 have hw4:=h.hw
 simp only[go_sem,Qapx]
 refine Qa ?_
 simp only[go_sem,hx54,hw4,LS.o,Qaq]
 intro _ H5 h5
 have h:=h.setw (s':=⟨fns,fl,f.params.length,0,.sl true 5 [],[],[],0,.sl true 3 [],[],[],f.params.length⟩) h5 rfl rfl rfl rfl h.gv h.rv
 have hx55:=(hfr _ _ h).2
 refine Qal ?_
 simp only[go_sem,hx55,Qaq]
 refine Qa9b _ f.body (Nat.le_refl _) (by omega) fun v hv=>?_
 have hw5:=h.hw
 simp only[go_sem,Qapy,hx55,hw5,LS.o,Qaq]
 refine⟨Qo (by omega) (by omega),fun H6 h6=>?_⟩
 have h:=h.setw (s':=⟨fns,fl,f.params.length,(f.params.length:Int)+v,.sl true 5 [],[],[],0,.sl true 3 [],[],[],f.params.length⟩) h6 rfl rfl rfl rfl h.gv h.rv
 refine Q3 ?_
 refine Qa ?_
 simp only[go_sem]
 refine Qh (Qc (Qu (fun n e1 H1=>∃(i:Nat) (s':LS),n=f.params.length-i∧i≤f.params.length∧LInv H3 H1 w s'∧s'.blocks=[]∧s'.at_=0∧s'.regs=(f.params.length:Int)+v∧s'.next=f.params.length∧s'.vars.length=i∧
  e1=[(4,.c (.ptr x4 0)),(5,.c (.ptr x5 0)),(6,.c (.ptr w 0)),(7,.c (.int .i64 i))]) f.params.length ?_ ?_))
 ·exact⟨0,_,by omega,by omega,h,rfl,rfl,rfl,rfl,rfl,rfl⟩
 ·rintro n e1 H1 ⟨i,s,hn1,hi,h,hb0,ha0,hr0,hn0,hvl,rfl⟩
  have hx51:=(hfr _ _ h).2
  have hw1:=h.hw
  have hvo:=h.gv.isOw
  refine Q3 ?_
  refine Qa ?_
  simp only[go_sem,hx51,Qaq]
  intro _
  refine Qh (Qd rfl ?_ ?_)
  ·intro hc
   have hlt:i<f.params.length:=by simpa using hc
   refine Qi ?_
   simp only[go_sem]
   refine Qh (Qc (Qa9 ?_))
   simp only[go_sem,hx51,hw1,LS.o,hvo,hlt,Qaq,Qfw _ _ hlt]
   refine h.addVar ⟨_,_,_,rfl⟩ (by simp only[LIM];omega) fun y H4 hw4 cont=>?_
   simp only[go_sem,Qapz,hw4,LS.o]
   intro H5 h5
   have h':=cont H5 h5
   refine Qq ?_
   simp only[go_sem,X.next]
   exact⟨Qo (by omega) (by omega),f.params.length-(i+1),by omega,i+1,_,rfl,by omega,h',hb0,ha0,hr0,hn0,by simp[hvl],rfl⟩
  ·intro hc
   refine Qt ?_
   simp only[go_sem,X.next]
   have hsok:s.ok (3+v):=⟨by rw[hr0];omega,by rw[hr0];omega,by rw[hn0];omega,by rw[hn0];omega,by simp[hb0],by simp[hb0],by omega⟩
   refine Qa ?_
   simp only[go_sem]
   refine Qaiu h hsok (by omega) fun s1 H4 h1 st1 hb1 hat1=>?_
   have hat:s1.at_<s1.blocks.length:=by rw[hat1,ha0];omega
   have hsok1:=st1.ok _ hsok
   refine Qa ?_
   have hx54:=(hfr _ _ h1).2
   simp only[go_sem,hx54]
   refine Qbfe _ f.body _ H3 H4 w s1 _ _ (Nat.le_refl _) hbo h1 hat hsok1 (by omega) fun s2 H5 h2 st2=>?_
   refine Qa ?_
   simp only[go_sem]
   refine Qle h2 (st2.ok _ hsok1) (by omega) fun s3 H6 h3 st3=>?_
   have st3:=st2.trans st3
   simp only[go_sem,Qap1]
   refine Qu8 (args:=[]) h3 (st3.at_ hat) (st3.ok _ hsok1) (by omega) fun s4 H7 h4 st4=>?_
   have st4:=st3.trans st4
   simp only[go_sem,Qap0]
   have hbl4:=st4.bl
   refine Qa ?_
   simp only[go_sem]
   refine Qoh (at':=0) (next:=[]) (N:=0) h4 (st4.at_ hat) (by omega) fun s5 H8 h5 st5=>?_
   have hw8:=h5.hw
   obtain⟨hx48,hx58⟩:=hfr _ _ h5
   have hbow:=h5.gb.isOw
   refine Qa ?_
   simp only[go_sem,hw8,hx48,LS.o,hbow]
   intro H9 h9
   have hx49:H9 x4=.st [.int .i64 s5.params,.int .i64 s5.regs,s5.bc]:=by rw[h9];exact Heap.set_same _ _ _
   have ho9:∀m,m≠x4→H9 m=H8 m:=fun m hm=>by rw[h9];exact Heap.set_other _ _ hm
   have huse:∀m,H m≠.none→H9 m=H m:=fun m hm=>by
    have e1:=kn.chg m hm (by simp)
    have e2:=h5.kn.chg m (by rw[e1];exact hm) (by simp)
    rw[ho9 m (fun hh=>by subst hh;exact hm (kn.free 0 rfl)),e2,e1]
   have hun:∀p∈s5.L w,H9 p.1=p.2∧un H p.1=true:=fun p hp=>by
    have e1:=(h5.kn.get p (by simpa using hp)).1
    have e2:=h5.kn.loc p hp
    have hne:p.1≠x4:=fun hh=>by rw[hh,hx43]at e2;simp at e2
    refine⟨by rw[ho9 _ hne,e1],Qd0 ?_⟩
    cases hh:H p.1 with
    |none=>rfl
    |_=>have:=kn.chg p.1 (by rw[hh];simp) (by simp);rw[e2,hh]at this;simp at this
   refine Qk ?_
   simp only[go_sem,Q6,Qad,Qbbp,reduceIte,List.mem_singleton,forall_eq,RS.op,hx49,hbow]
   have hok5:=(st4.trans st5).ok _ hsok1
   obtain⟨bs,hbs1,hbs2,hbs3⟩:=Qaye (H:=H9) (S:=un H) s5.blocks fun b hb=>⟨h5.gi b hb,h5.ri b hb,fun p hp=>hun p (by
    simp only[LS.L,List.mem_append,List.mem_flatMap]
    exact .inr (.inr (.inr ⟨b,hb,hp⟩))),by have:=hok5.i1 b hb;omega⟩
   refine⟨.ag (CodeD.mk s5.params s5.regs bs).cells,FrzL.ag (.cons (Qg rfl) (.cons (Qg rfl) (.cons (Gr.frzM h5.gb (fun p hp=>hun p (by
    simp only[LS.L,List.mem_append]
    exact .inr (.inl hp))) hbs1) .nil))),hK _ _ ⟨by simp,fun m hm _=>?_⟩ hbs3⟩
   rw[Qa3p hm];exact huse m hm
theorem Qa9c {fns:List Fn} {fl:Bool} (hp:PrOk fns) (hK:∀(cs:List CodeD) (H':Heap),Upd H H' []→0<cs.length→(∀c∈cs,c.fits)→K (.ag [.sl false 3 (Qp cs)]) H') :
  Qw prog Q23 [.ag [.sl fl 3 (Qb2 fns)]] H K:=by
 refine Qz ?_
 refine Qb Qat Qa9w ?_
 refine Qa ?_
 simp only[go_sem]
 intro x2 hx2 H1 h1
 have kn:=(Kn.start0 H).al hx2 h1
 refine Qa ?_
 simp only[go_sem]
 intro x3 hx3 H2 h2
 have kn:=kn.al hx3 h2
 have hx32:=kn.l 1 rfl
 simp only[go_sem,Q8z,hx32]
 intro H3 h3
 have kn:Kn H H3 [] [(x2,.st [.sl true 3 []]),(x3,.st [.sl true 3 []])]:=kn.stL 1 rfl h3
 refine Q3 ?_
 refine Qa ?_
 simp only[go_sem]
 refine Qh (Qc (Qu (fun n e1 H1=>∃(i:Nat) (cs:List CodeD) (c:C) (Lg:List (Nat×Obj)),n=fns.length-i∧i≤fns.length∧cs.length=i∧(∀c∈cs,c.fits)∧Gr Lg 3 (Qp cs) c∧Kn H H1 [] ([(x2,.st [.sl true 3 []]),(x3,.st [c])]++Lg)∧
  e1=[(1,.c (.pp [.sl fl 3 (Qb2 fns)])),(2,.c (.ptr x2 0)),(3,.c (.ptr x3 0)),(4,.c (.int .i64 i))]) fns.length ?_ ?_))
 ·exact⟨0,[],_,[],by omega,by omega,rfl,by simp,.nil 3,kn,rfl⟩
 ·rintro n e1 H1 ⟨i,cs,c,Lg,hn1,hi,hcl,hfit,hgr,kn,rfl⟩
  refine Q3 ?_
  refine Qa ?_
  simp only[go_sem,Qbc]
  intro hl
  simp only[LIM]at hl
  have hcow:=hgr.isOw
  have hx31:=kn.l 1 rfl
  refine Qh (Qd rfl ?_ ?_)
  ·intro hc
   have hlt:i<fns.length:=by simpa using hc
   have hm:=List.getElem_mem hlt
   refine Qi ?_
   simp only[go_sem]
   refine Qh (Qc (Qa9 ?_))
   simp only[go_sem,hx31,hcow]
   refine Qber hlt (hp.par _ hm) (hp.ok _ hm) (by have:=Qli hm;have:=hp.size;omega) fun x H4 hu hxf=>?_
   have kn:=kn.call0 hu
   have hx34:=kn.l 1 rfl
   simp only[go_sem,Q81,hx34,hcow,CodeD.cells]
   refine kn.grow (B:=[_,_]) (new:=[x.cells]) hgr (.mk' _ _ _ _) (by intro r hr;simp only[List.mem_singleton]at hr;subst hr;rfl) (by simp only[Q4,LIM,List.length_cons,List.length_nil];omega) fun y' H5 kn=>?_
   have hx35:=kn.l 1 rfl
   simp only[go_sem,Q80,hx35]
   intro H6 h6
   have kn:=kn.stL 1 rfl h6
   refine Qq ?_
   simp only[go_sem,X.next]
   refine⟨Qo (by omega) (by omega),fns.length-(i+1),by omega,i+1,cs++[x],_,_,rfl,by omega,by simp[hcl],fun c' hc'=>by
    rcases List.mem_append.1 hc' with h|h
    ·exact hfit c' h
    ·simp at h;subst h;exact hxf,?_,kn,rfl⟩
   rw[Qaiy];exact .mk _ _ _ (by simp[Q4])
  ·intro hc
   have hge:fns.length≤i:=by simpa using hc
   have hx21:=kn.l 0 rfl
   refine Qt ?_
   simp only[go_sem,X.next]
   refine Qa ?_
   simp only[go_sem,hx31,hx21,hcow]
   intro H2 h2
   have kn:=kn.stL 0 rfl h2
   have hx22:=kn.l 0 rfl
   refine Qk ?_
   simp only[go_sem,Q6,Qad,Qaza,reduceIte,List.mem_singleton,forall_eq,RS.op,hx22,hcow]
   exact⟨.ag [.sl false 3 (Qp cs)],FrzL.ag (.cons (hgr.frz (B:=[_,_]) kn (Qbz _)) .nil),hK _ _ kn.fin (by have:=hp.pos;omega) hfit⟩
end Go.AE.Y

namespace Go.AE.Y
open Go.Proofs.Tryz
variable {H:Heap} {K:V→Heap→Prop}
attribute [local instance] Classical.propDecidable
def Qp4 (q:CodeD):Bool:=decide (0≤q.params∧q.params≤3)&&decide (q.params≤q.regs∧q.regs≤300)&&decide (1≤(q.blocks.length:Int)∧(q.blocks.length:Int)≤160)
def Qz5 (y:BlkD):Nat:=y.ins.length+y.phis.length
def Qky {α:Type} (f:α→Nat) (l:List α):Nat:=(l.map f).sum
theorem Qip {α:Type} {f:α→Nat} {l:List α} {i:Nat} (h:i<l.length):Qky f (l.take (i+1))=Qky f (l.take i)+f l[i]:=by
 rw[Qky,Qky,List.take_succ_eq_append_getElem h,List.map_append,List.sum_append];simp
theorem Qax9 {α:Type} {f:α→Nat} {l:List α} (i:Nat):Qky f (l.take i)≤Qky f l:=by
 have:Qky f l=Qky f (l.take i)+Qky f (l.drop i):=by rw[Qky,Qky,Qky,←List.sum_append,←List.map_append,List.take_append_drop]
 omega
def cntQ (q:CodeD):Nat:=Qky Qz5 q.blocks
def Q9h (cs:List CodeD) (k:Nat) (hk:k<cs.length):Prop:=Qp4 cs[k]=true∧∀(b:Nat) (h:b<cs[k].blocks.length),blkG cs k b cs[k] cs[k].blocks[b]=true
def Qbdx (cs:List CodeD):Prop:=(1≤(cs.length:Int)∧(cs.length:Int)≤4)∧(∀(k:Nat) (h:k<cs.length),Q9h cs k h)∧Qky cntQ cs≤800
noncomputable def Qkx (cs:List CodeD):Bool:=decide (Qbdx cs)
theorem Qaim {cs:List CodeD} (hfit:∀c∈cs,c.fits) (h:Qkx cs=true):cs.length≤4∧0<cs.length∧∀c∈cs,c.gd:=by
 obtain⟨h1,h2,_⟩:=of_decide_eq_true h
 refine⟨by omega,by omega,fun c hc=>?_⟩
 obtain⟨k,hk,rfl⟩:=List.getElem_of_mem hc
 obtain⟨g1,g2⟩:=h2 k hk
 simp only[Qp4,Bool.and_eq_true,decide_eq_true_eq]at g1
 refine⟨by omega,by omega,fun b hb=>?_,fun b hb=>hfit _ (List.getElem_mem hk) b hb⟩
 obtain⟨i,hi,rfl⟩:=List.getElem_of_mem hb
 exact Qa26 (g2 i hi)
theorem Qnw {cs:List CodeD} (h:¬Qbdx cs):Qkx cs=false:=decide_eq_false h
theorem Qba5 {cs:List CodeD} {k j:Nat} (hk:k<cs.length) (hj:j<cs[k].blocks.length) (h:800<Qky cntQ (cs.take k)+Qky Qz5 (cs[k].blocks.take j)+Qz5 cs[k].blocks[j]):¬Qbdx cs:=by
 rintro⟨_,_,h3⟩
 have a1:=Qax9 (f:=cntQ) (l:=cs) (k+1)
 rw[Qip hk]at a1
 have a2:=Qax9 (f:=Qz5) (l:=cs[k].blocks) (j+1)
 rw[Qip hj]at a2
 simp only[cntQ]at *
 omega
set_option maxHeartbeats 2000000 in
theorem Qfz {cs:List CodeD} {fl:Bool} (hfit:∀c∈cs,c.fits) (hK:∀(H':Heap),Upd H H' []→K (.c (.bool (Qkx cs))) H') :
  Qw prog Qbj [.ag [.sl fl 3 (Qp cs)]] H K:=by
 refine Qz ?_
 refine Qb Qat Q9y ?_
 have retf:∀(b:Bool) (e:Env) (H':Heap) (L:List (Nat×Obj)),Qkx cs=b→Kn H H' [] L→lk 2 e=.c (.bool b)→Q6 Qcq (fun x H'=>∃x',FrzV H' (un H) x x'∧K x' (H'.frz (un H))) .ret e H':=by
  intro b e H' L hb kn h3
  simp only[go_sem,Q6,Qad,Qcq,List.mem_singleton,forall_eq,RS.op,h3]
  rw[←hb];exact⟨_,.c _ _ (Qg rfl),hK _ kn.fin⟩
 have kn:=Kn.start0 H
 refine Qa ?_
 simp only[go_sem]
 refine Q3 ?_
 refine Qa ?_
 simp only[go_sem,Q4]
 intro hcl
 refine Qcm ?_
 simp only[go_sem,Qim]
 refine Qh (Qd rfl ?_ ?_)
 ·intro hc
  refine Qa ?_
  simp only[go_sem]
  refine Qk ?_
  simp only[go_sem]
  exact retf false _ _ _ (Qnw fun hu=>by have:=of_decide_eq_false (Qrw hc);exact this hu.1) kn (by simp[lk])
 intro hc
 have hc4:cs.length≤4∧0<cs.length:=by
  have:1≤(cs.length:Int)∧(cs.length:Int)≤4:=by simpa using hc
  omega
 refine Qi ?_
 simp only[go_sem]
 refine Qa ?_
 simp only[go_sem]
 refine Q3 ?_
 refine Qa ?_
 simp only[go_sem]
 refine Qh (Qc (Qu (fun m e1 H1=>∃(k n:Nat),m=cs.length-k∧k≤cs.length∧n=Qky cntQ (cs.take k)∧n≤800∧(∀(i:Nat) (hi:i<cs.length),i<k→Q9h cs i hi)∧Kn H H1 [] []∧e1=[(1,.c (.pp [.sl fl 3 (Qp cs)])),(3,.c (.int .i64 n)),(4,.c (.int .i64 k))]) cs.length ?_ ?_))
 ·exact⟨0,0,by omega,by omega,rfl,by omega,fun _ _ h=>by omega,kn,rfl⟩
 ·rintro m e1 H1 ⟨k,n,hm,hk,hns,hn,hgd,kn,rfl⟩
  refine Q3 ?_
  refine Qa ?_
  simp only[go_sem,Q4]
  intro hcl
  refine Qh (Qd rfl ?_ ?_)
  ·intro hc
   have hlt:k<cs.length:=by simpa using hc
   refine Qi ?_
   simp only[go_sem]
   refine Qh (Qc ?_)
   refine Qa ?_
   simp only[go_sem,hlt,Q4,Qaj _ _ hlt,CodeD.cells]
   obtain⟨q,hq⟩:∃q,cs[k]=q:=⟨_,rfl⟩
   rw[hq]
   intro x5 hx5 H2 h2
   have kn:=kn.al hx5 h2
   have hx52:=kn.l 0 rfl
   simp only[go_sem,Qin,hx52]
   intro H3 h3
   have kn:Kn H H3 [] [(x5,.st [.int .i64 q.params,.int .i64 q.regs,.sl false 5 (Ql q.blocks)])]:=kn.stL 0 rfl h3
   have hx53:=kn.l 0 rfl
   refine Q3 ?_
   refine Qa ?_
   simp only[go_sem,hx53]
   refine Qcm ?_
   simp only[go_sem,Qio,hx53]
   have rest:∀(b:Bool) (E1:Env),lk 1 E1=.c (.pp [.sl fl 3 (Qp cs)])→lk 3 E1=.c (.int .i64 n)→lk 4 E1=.c (.int .i64 k)→lk 5 E1=.c (.ptr x5 0)→lk 42 E1=.c (.bool b)→Qp4 q=(!b)→
     Qac prog (s_sp_UnitValid_6.seq Qil) (X.inBlock 1 (X.sq prog Qdv (X.next (fun e2 H2=>∃m_1,m_1<m∧∃(k n:Nat),m_1=cs.length-k∧k≤cs.length∧n=Qky cntQ (cs.take k)∧n≤800∧(∀(i:Nat) (hi:i<cs.length),i<k→Q9h cs i hi)∧Kn H H2 [] []∧e2=[(1,.c (.pp [.sl fl 3 (Qp cs)])),(3,.c (.int .i64 n)),(4,.c (.int .i64 k))])
      (X.inBlock 0 (X.sq prog Qdw (Q6 Qcq (fun x H'=>∃x',FrzV H' (un H) x x'∧K x' (H'.frz (un H))))))))) E1 H3:=by
    intro b E1 l1 l3 l4 l5 l42 hb
    refine Qh (Qd l42 ?_ ?_)
    ·intro hc2
     refine Qa ?_
     simp only[go_sem]
     refine Qk ?_
     simp only[go_sem,X.next]
     exact retf false _ _ _ (Qnw fun hu=>by have:=(hu.2.1 k hlt).1;rw[hq,hb,hc2]at this;simp at this) kn (by simp[lk])
    intro hc2
    rw[hc2]at hb
    have hb':=hb
    simp only[Qp4,Bool.not_false,Bool.and_eq_true,decide_eq_true_eq]at hb'
    obtain⟨hr0,hr1,hb0,hbl⟩:0≤q.regs∧q.regs≤300∧0<q.blocks.length∧q.blocks.length≤160:=by omega
    refine Qi ?_
    simp only[go_sem]
    refine Qa ?_
    simp only[go_sem,l1,l3,l4,l5]
    refine Qc (Qu (fun m e1 H1=>∃(j n2:Nat),m=q.blocks.length-j∧j≤q.blocks.length∧n2=n+Qky Qz5 (q.blocks.take j)∧n2≤800∧(∀(i:Nat) (hi:i<q.blocks.length),i<j→blkG cs k i q q.blocks[i]=true)∧Kn H H1 [] [(x5,.st [.int .i64 q.params,.int .i64 q.regs,.sl false 5 (Ql q.blocks)])]∧
     e1=[(1,.c (.pp [.sl fl 3 (Qp cs)])),(3,.c (.int .i64 n2)),(4,.c (.int .i64 k)),(5,.c (.ptr x5 0)),(6,.c (.int .i64 j))]) q.blocks.length ?_ ?_)
    ·exact⟨0,n,by omega,by omega,rfl,hn,fun _ _ h=>by omega,kn,rfl⟩
    ·rintro m2 e1 H4 ⟨j,n2,hm2,hj,hn2s,hn2,hnx,kn,rfl⟩
     have hx54:=kn.l 0 rfl
     refine Q3 ?_
     refine Qa ?_
     simp only[go_sem,hx54,Qj]
     intro hbl2
     refine Qh (Qd rfl ?_ ?_)
     ·intro hc3
      have hjl:j<q.blocks.length:=by simpa using hc3
      refine Qi ?_
      simp only[go_sem]
      refine Qh (Qc ?_)
      have hqf:=hfit _ (List.getElem_mem hlt)
      rw[hq]at hqf
      have hbf:=hqf _ (List.getElem_mem hjl)
      have hss:=Qip (f:=Qz5) hjl
      have hcy:Qz5 q.blocks[j]=q.blocks[j].ins.length+q.blocks[j].phis.length:=rfl
      refine Qal ?_
      simp only[go_sem,hx54,hjl,Qj,Q5 _ _ hjl,BlkD.cells,Qam,Q9]
      refine⟨Qo (by omega) (by omega),Qo (by omega) (by omega),?_⟩
      refine Qa ?_
      simp only[go_sem]
      have fin:∀(b3:Bool) (E1:Env) (H5:Heap),(decide (n2+Qz5 q.blocks[j]≤800)&&blkG cs k j q q.blocks[j])=(!b3)→Kn H H5 [] [(x5,.st [.int .i64 q.params,.int .i64 q.regs,.sl false 5 (Ql q.blocks)])]→lk 1 E1=.c (.pp [.sl fl 3 (Qp cs)])→
        lk 3 E1=.c (.int .i64 ((n2+q.blocks[j].ins.length+q.blocks[j].phis.length:Nat):Int))→lk 4 E1=.c (.int .i64 k)→lk 5 E1=.c (.ptr x5 0)→lk 6 E1=.c (.int .i64 j)→lk 75 E1=.c (.bool b3)→
        Qac prog Qku (X.inBlock 3 (X.sq prog Qik (X.next (fun e2 H2=>∃m,m<m2∧∃(j n2:Nat),m=q.blocks.length-j∧j≤q.blocks.length∧n2=n+Qky Qz5 (q.blocks.take j)∧n2≤800∧(∀(i:Nat) (hi:i<q.blocks.length),i<j→blkG cs k i q q.blocks[i]=true)∧Kn H H2 [] [(x5,.st [.int .i64 q.params,.int .i64 q.regs,.sl false 5 (Ql q.blocks)])]∧
         e2=[(1,.c (.pp [.sl fl 3 (Qp cs)])),(3,.c (.int .i64 n2)),(4,.c (.int .i64 k)),(5,.c (.ptr x5 0)),(6,.c (.int .i64 j))])
         (X.inBlock 2 (X.inBlock 1 (X.sq prog Qdv (X.next (fun e2 H2=>∃m_1,m_1<m∧∃(k n:Nat),m_1=cs.length-k∧k≤cs.length∧n=Qky cntQ (cs.take k)∧n≤800∧(∀(i:Nat) (hi:i<cs.length),i<k→Q9h cs i hi)∧Kn H H2 [] []∧e2=[(1,.c (.pp [.sl fl 3 (Qp cs)])),(3,.c (.int .i64 n)),(4,.c (.int .i64 k))])
         (X.inBlock 0 (X.sq prog Qdw (Q6 Qcq (fun x H'=>∃x',FrzV H' (un H) x x'∧K x' (H'.frz (un H))))))))))))) E1 H5:=by
       intro b3 E1 H5 hb3 kn l1 l3 l4 l5 l6 l75
       refine Qd l75 ?_ ?_
       ·intro hc4
        refine Qa ?_
        simp only[go_sem]
        refine Qk ?_
        simp only[go_sem,X.next]
        refine retf false _ _ _ (Qnw fun hu=>?_) kn (by simp[lk])
        rw[hc4]at hb3
        have hblk:=(hu.2.1 k hlt).2 j (by rw[hq];exact hjl)
        subst hq
        have hov:¬800<n2+Qz5 cs[k].blocks[j]:=fun ho=>Qba5 hlt hjl (by omega) hu
        rw[hblk]at hb3
        simp at hb3
        omega
       ·intro hc4
        rw[hc4]at hb3
        simp only[Bool.not_false,Bool.and_eq_true,decide_eq_true_eq]at hb3
        refine Qi ?_
        simp only[go_sem]
        refine Qq ?_
        simp only[go_sem,X.next,l1,l3,l4,l5,l6]
        refine⟨Qo (by omega) (by omega),q.blocks.length-(j+1),by omega,j+1,_,rfl,by omega,?_,?_,?_,kn,rfl⟩
        ·rw[hss];omega
        ·omega
        ·intro i hi hij
         by_cases hij2:i<j
         ·exact hnx i hi hij2
         ·have:i=j:=by omega
          subst this
          exact hb3.2
      refine⟨fun hb1=>?_,fun hb1=>?_⟩
      ·refine Qa4k hlt (by rw[hq];exact hjl) (by rw[hq];exact hr0) (by rw[hq];exact hr1) (by omega) (by rw[hq];omega) fun H5 hu=>?_
       have kn:=kn.call0 hu
       simp only[go_sem,Qdy]
       refine fin _ _ _ ?_ kn (by simp[lk]) (by simp[lk]) (by simp[lk]) (by simp[lk]) (by simp[lk]) (by simp[lk];rfl)
       subst hq
       by_cases ho:n2+Qz5 cs[k].blocks[j]≤800
       ·have ho':¬800<(n2:Int)+cs[k].blocks[j].ins.length+cs[k].blocks[j].phis.length:=by simp only[Qz5]at ho;omega
        simp[ho,ho']
       ·have ho':800<(n2:Int)+cs[k].blocks[j].ins.length+cs[k].blocks[j].phis.length:=by simp only[Qz5]at ho;omega
        simp[ho,ho']
      ·replace hb1:=Qeg hb1
       simp only[go_sem,Qdy,hb1]
       exact fin true _ _ (by simp at hb1;simp[hcy];omega) kn (by simp[lk]) (by simp[lk]) (by simp[lk]) (by simp[lk]) (by simp[lk]) (by simp[lk])
     ·intro hc3
      refine Qt ?_
      simp only[go_sem,X.next]
      refine Qq ?_
      simp only[go_sem,X.next]
      have hjq:q.blocks.length≤j:=by simpa using hc3
      have hjq:j=q.blocks.length:=by omega
      refine⟨Qo (by omega) (by omega),cs.length-(k+1),by omega,k+1,n2,rfl,by omega,?_,hn2,?_,kn.drop (A:=[]),rfl⟩
      ·rw[Qip hlt,hq,hn2s,hns,hjq,List.take_length];rfl
      ·intro i hi hik
       by_cases hik2:i<k
       ·exact hgd i hi hik2
       ·have:i=k:=by omega
        subst this
        subst hq
        exact⟨by rw[hb];rfl,fun b hbl=>hnx b hbl (by omega)⟩
   refine⟨fun hb1=>?_,fun hb1=>?_⟩
   ·refine Qcm ?_
    simp only[go_sem,Qdx,hx53,Qj]
    intro hblim
    refine⟨fun hb2=>?_,fun hb2=>?_⟩
    ·replace hb2:=Qrw hb2
     refine Qcm ?_
     simp only[go_sem,Qcj]
     refine rest _ _ (by simp[lk]) (by simp[lk]) (by simp[lk]) (by simp[lk]) (by simp[lk];rfl) ?_
     simp[Qp4]
    ·replace hb2:=Qeg hb2
     simp only[go_sem,Qcj,hb2]
     exact rest true _ (by simp[lk]) (by simp[lk]) (by simp[lk]) (by simp[lk]) (by simp[lk]) (by simp at hb2;simp[Qp4];omega)
   ·replace hb1:=Qeg hb1
    simp only[go_sem,Qdx,Qcj,hb1,hx53,Qj,cond_true]
    exact rest true _ (by simp[lk]) (by simp[lk]) (by simp[lk]) (by simp[lk]) (by simp[lk]) (by simp at hb1;simp[Qp4];omega)
  ·intro hc
   refine Qt ?_
   simp only[go_sem,X.next]
   refine Qa ?_
   simp only[go_sem]
   refine Qk ?_
   have hkc:cs.length≤k:=by simpa using hc
   refine retf true _ _ _ (decide_eq_true ⟨by omega,fun i hi=>hgd i hi (by omega),?_⟩) kn (by simp[lk])
   rw[List.take_of_length_le hkc]at hns
   omega
theorem Qaqp {cs:List CodeD} {fl:Bool} (hfit:∀c∈cs,c.fits) (hK:∀(b:Bool) (H':Heap),(b=true→cs.length≤4∧0<cs.length∧∀c∈cs,c.gd)→Upd H H' []→K (.c (.bool b)) H') :
  Qw prog Qbj [.ag [.sl fl 3 (Qp cs)]] H K:=Qfz hfit fun H' hu=>hK _ H' (Qaim hfit) hu
end Go.AE.Y

namespace Go.AE.Y
open Go.Proofs.Tryz
variable {H:Heap} {K:V→Heap→Prop}
def UnitOk (cs:List CodeD):Prop:=0<cs.length∧cs.length≤4∧∀c∈cs,c.gd
theorem Qai9 {R:Rdr} {k:Nat} (hH:H R.l=R.o k) (hk:k+7100000≤2^30)
  (hK:∀(cs:List CodeD) (H':Heap) (k':Nat),k<k'→k'≤k+7050000→Upd H H' [(R.l,R.o k')]→UnitOk cs→K (.ag [.sl false 3 (Qp cs)]) H') :
  Qw prog Qno [.c (.ptr R.l 0)] H K:=by
 refine Qz ?_
 refine Qb Qat Qa4v ?_
 refine Qa ?_
 simp only[go_sem]
 intro x2 hx2 H1 h1
 have kn:=(Kn.start1 hH (R.o_ne k)).al hx2 h1
 have tail:∀(E1:Env) (H2:Heap) (k1:Nat) (L:List (Nat×Obj)),k<k1→k1≤k+7000500→Kn H H2 [(R.l,R.o k1)] ([(x2,.st [.sl true 3 []])]++L)→lk 0 E1=.c (.ptr R.l 0)→lk 2 E1=.c (.ptr x2 0)→
   Qac prog Q4n (Q6 Qr3 fun x H'=>∃x',FrzV H' (un H) x x'∧K x' (H'.frz (un H))) E1 H2:=by
  intro E1 H2 k1 L hk1 hk2 kn l0 l2
  refine Qa ?_
  simp only[go_sem,l0,l2]
  refine Qayw (kn.e 0 rfl) (by omega) fun cs H3 k2 hk3 hk4 hu hcs0 hcs3 hsm=>?_
  have kn:=kn.callE 0 rfl hu (R.o_ne _)
  have hx2:=kn.l 0 rfl
  simp only[go_sem,Qxu,hx2,l2]
  intro H4 h4
  have kn:=kn.stL 0 rfl h4
  have hx2:=kn.l 0 rfl
  refine Qk ?_
  simp only[go_sem,Q6,Qad,Qr3,reduceIte,List.mem_singleton,forall_eq,RS.op,hx2]
  exact⟨_,FrzL.ag (.cons (FrzR.same (Qbz cs)).sl .nil),hK cs _ k2 (by omega) (by omega) kn.fin ⟨hcs0,by omega,fun c hc=>(hsm c hc).gd⟩⟩
 refine Q3 ?_
 refine Qa ?_
 simp only[go_sem]
 refine Qa5 (kn.e 0 rfl) (by omega) fun v H2 hv hu=>?_
 have kn:=kn.callE 0 rfl hu (R.o_ne _)
 simp only[go_sem,Qxq]
 refine Qh (Qd rfl ?_ ?_)
 ·intro hc
  refine Qa ?_
  simp only[go_sem]
  refine Qa86 (kn.e 0 rfl) (by omega) fun l H3 k1 hk1 hk2 hu hp=>?_
  have kn:=kn.callE 0 rfl hu (R.o_ne _)
  simp only[go_sem,Qxt]
  refine Qa9c hp fun cs H4 hu hcs0 hfit=>?_
  have kn:=kn.call0 hu
  simp only[go_sem,Qxs]
  intro x3 hx3 H5 h5
  have kn:=kn.al hx3 h5
  have hx3:=kn.l 1 rfl
  simp only[go_sem,Qxr,hx3]
  intro H6 h6
  have kn:=kn.stL 1 rfl h6
  have hx3:=kn.l 1 rfl
  refine Qa ?_
  simp only[go_sem,hx3]
  refine Qaqp hfit fun b H7 hb hu=>?_
  have kn:=kn.call0 hu
  have hx3:=kn.l 1 rfl
  have hx2:=kn.l 0 rfl
  refine Qd rfl ?_ ?_
  ·intro hb1
   refine Qa ?_
   simp only[go_sem,hx3,hx2]
   intro H8 h8
   have kn:=kn.stL 0 rfl h8
   have hx2:=kn.l 0 rfl
   refine Qk ?_
   simp only[go_sem,Q6,Qad,Qr3,reduceIte,List.mem_singleton,forall_eq,RS.op,hx2]
   obtain⟨g1,g2,g3⟩:=hb hb1
   exact⟨_,FrzL.ag (.cons (FrzR.same (Qbz cs)).sl .nil),hK cs _ k1 (by omega) (by omega) kn.fin ⟨g2,g1,g3⟩⟩
  ·intro hb1
   refine Qi ?_
   simp only[go_sem]
   exact tail _ _ k1 [(x3,.st [.sl false 3 (Qp cs)])] (by omega) (by omega) kn (by simp[lk]) (by simp[lk])
 ·intro hc
  refine Qi ?_
  simp only[go_sem]
  exact tail _ _ (k+1) [] (by omega) (by omega) kn (by simp[lk]) (by simp[lk])
theorem Q27 {R:Rdr} {k:Nat} (hH:H R.l=R.o k) (hk:k+7200000≤2^30)
  (hK:∀(cs:List CodeD) (H':Heap) (k':Nat),k<k'→k'≤k+7100000→Upd H H' [(R.l,R.o k')]→UnitOk cs→K (.ag [.sl false 3 (Qp cs)]) H') :
  Qw prog Qhf [.c (.ptr R.l 0)] H K:=by
 refine Qz ?_
 refine Qb Qat Qa4p ?_
 refine Qa ?_
 simp only[go_sem]
 intro x2 hx2 H1 h1
 have kn:=(Kn.start1 hH (R.o_ne k)).al hx2 h1
 refine Q3 ?_
 refine Qa ?_
 simp only[go_sem]
 refine Qa5 (kn.e 0 rfl) (by omega) fun v H2 hv hu=>?_
 have kn:=kn.callE 0 rfl hu (R.o_ne _)
 simp only[go_sem,Qw7]
 refine Qh (Qd rfl ?_ ?_)
 ·intro hc
  refine Qa ?_
  simp only[go_sem]
  refine Qa87 (kn.e 0 rfl) (by omega) fun cs H3 k2 hk3 hk4 hu hcs0 hcs3 hgd=>?_
  have kn:=kn.callE 0 rfl hu (R.o_ne _)
  have hx2:=kn.l 0 rfl
  simp only[go_sem,Qw8,hx2]
  intro H4 h4
  have kn:=kn.stL 0 rfl h4
  have hx2:=kn.l 0 rfl
  refine Qk ?_
  simp only[go_sem,Q6,Qad,Q3s,reduceIte,List.mem_singleton,forall_eq,RS.op,hx2]
  exact⟨_,FrzL.ag (.cons (FrzR.same (Qbz cs)).sl .nil),hK cs _ k2 (by omega) (by omega) kn.fin ⟨hcs0,by omega,hgd⟩⟩
 ·intro hc
  refine Qi ?_
  simp only[go_sem]
  refine Qa ?_
  simp only[go_sem]
  refine Qai9 (kn.e 0 rfl) (by omega) fun cs H3 k2 hk3 hk4 hu hok=>?_
  have kn:=kn.callE 0 rfl hu (R.o_ne _)
  have hx2:=kn.l 0 rfl
  simp only[go_sem,Qw9,hx2]
  intro H4 h4
  have kn:=kn.stL 0 rfl h4
  have hx2:=kn.l 0 rfl
  refine Qk ?_
  simp only[go_sem,Q6,Qad,Q3s,reduceIte,List.mem_singleton,forall_eq,RS.op,hx2]
  exact⟨_,FrzL.ag (.cons (FrzR.same (Qbz cs)).sl .nil),hK cs _ k2 (by omega) (by omega) kn.fin hok⟩
end Go.AE.Y

namespace Go.AE.Y
open Go.Proofs.Tryz
variable {H:Heap} {K:V→Heap→Prop}
theorem Qa4g {fl:Bool} {bs:List UInt8} (hK:∀(R:Rdr) (H':Heap),H R.l=.none→H'=H.set R.l (R.o 0)→K (.c (.ptr R.l 0)) H'):Qw prog Quw [.c (.sl fl 1 (Qby bs))] H K:=by
 refine Qb Qat Qa48 ?_
 refine Qa ?_
 simp only[go_sem]
 refine Q3 ?_
 refine Qa ?_
 simp only[go_sem,Qau]
 intro _
 have tail:∀(fl:Bool) (bs:List UInt8) (E1:Env),lk 0 E1=.c (.sl fl 1 (Qby bs))→Qac prog Q5c (Q6 Q31 K) E1 H:=by
  intro fl bs E1 l0
  refine Qa ?_
  simp only[go_sem,l0]
  intro l hl H' h'
  simp only[go_sem,Qyw]
  refine Qk ?_
  simp only[go_sem,Q6,Qad,Q31,reduceIte,List.mem_singleton,forall_eq,RS.op]
  exact hK ⟨l,fl,bs⟩ H' hl h'
 refine Qh (Qd rfl ?_ ?_)
 ·intro hc
  have h2:(2000:Int)<bs.length:=by simpa using hc
  refine Qq ?_
  simp only[go_sem,Qau]
  refine⟨⟨by omega,by omega,by omega⟩,?_⟩
  have ht:List.take 2000 (Qby bs)=Qby (bs.take 2000):=by simp[Qby,List.map_take]
  rw[ht]
  exact tail _ (bs.take 2000) _ (by simp[lk];rfl)
 ·intro hc
  refine Qi ?_
  exact tail fl bs _ (by simp[lk])
end Go.AE.Y

namespace Go.AE.Y
def Qiu (n:Nat) (nx:Nat→List Int):Bool:=(List.range n).all (fun i=>(nx i).all fun x=>decide (0≤x∧x≤(n:Int)-1))&&decide (0<n)
def nxN (nx:Nat→List Int) (b:Nat):List Nat:=(nx b).map Int.toNat
theorem Q2q {n:Nat} {nx:Nat→List Int} (h:Qiu n nx=true) {b:Nat} (hb:b<n) {x:Int} (hx:x∈nx b):0≤x∧x≤(n:Int)-1:=by
 simp only[Qiu,Bool.and_eq_true,List.all_eq_true,List.mem_range,decide_eq_true_eq]at h
 exact h.1 b hb x hx
theorem Qrj {n:Nat} {nx:Nat→List Int} (h:Qiu n nx=true):0<n:=by
 simp only[Qiu,Bool.and_eq_true,decide_eq_true_eq]at h
 exact h.2
theorem Qajv {n:Nat} {nx:Nat→List Int} (h:Qiu n nx=true) {b:Nat} (hb:b<n) {x:Nat} (hx:x∈nxN nx b):x<n:=by
 obtain⟨y,hy,rfl⟩:=List.mem_map.1 hx
 have:=Q2q h hb hy
 omega
inductive Dfs (g:Nat→List Nat):List Nat→List Bool→List Nat→List Bool→List Nat→Prop
 |nil (S:List Bool) (o:List Nat):Dfs g [] S o S o
 |skip {x:Nat} {xs:List Nat} {S S':List Bool} {o o':List Nat}:S.getD x false=true→Dfs g xs S o S' o'→Dfs g (x::xs) S o S' o'
 |go {x:Nat} {xs:List Nat} {S S1 S':List Bool} {o o1 o':List Nat}:S.getD x false=false→Dfs g (g x) (S.set x true) o S1 o1→Dfs g xs S1 (o1++[x]) S' o'→Dfs g (x::xs) S o S' o'
variable {g:Nat→List Nat} {xs:List Nat} {S S' S1:List Bool} {o o' o1:List Nat}
theorem Dfs.app (h:Dfs g xs S o S1 o1):∀{ys:List Nat},Dfs g ys S1 o1 S' o'→Dfs g (xs++ys) S o S' o':=by
 induction h with
 |nil S o=>exact fun h=>h
 |skip h1 h2 ih=>exact fun h=>.skip h1 (ih h)
 |go h1 h2 h3 ih1 ih2=>exact fun h=>.go h1 h2 (ih2 h)
theorem Dfs.one {x:Nat} (h1:S.getD x false=false) (h:Dfs g (g x) (S.set x true) o S1 o1):Dfs g [x] S o S1 (o1++[x]):=.go h1 h (.nil _ _)
theorem Dfs.len (h:Dfs g xs S o S' o'):S'.length=S.length:=by
 induction h with
 |nil=>rfl
 |skip _ _ ih=>exact ih
 |go _ _ _ ih1 ih2=>rw[ih2,ih1,List.length_set]
theorem Qnt (S:List Bool) (x y:Nat):(S.set x true).getD y false=(if y=x∧x<S.length then true else S.getD y false):=by
 simp only[List.getD_eq_getElem?_getD,List.getElem?_set]
 by_cases h:x=y
 ·subst h
  by_cases h2:x<S.length
  ·simp[h2]
  ·simp[h2]
 ·have h':¬y=x:=fun hh=>h hh.symm
  simp[h,h']
theorem Dfs.mono (h:Dfs g xs S o S' o'):∀x,S.getD x false=true→S'.getD x false=true:=by
 induction h with
 |nil=>exact fun _ h=>h
 |skip _ _ ih=>exact ih
 |go _ _ _ ih1 ih2=>
  intro x hx
  refine ih2 x (ih1 x ?_)
  rw[Qnt]
  split
  ·rfl
  ·exact hx
def cnt (S:List Bool):Nat:=S.count true
theorem Q2k {x:Nat} (hx:x<S.length) (h:S.getD x false=false):cnt (S.set x true)=cnt S+1:=by
 induction S generalizing x with
 |nil=>simp at hx
 |cons a S ih=>
  cases x with
  |zero=>
   simp at h;subst h
   simp[cnt]
  |succ x=>
   have:=ih (x:=x) (by simpa using hx) (by simpa using h)
   simp only[cnt,List.set_cons_succ,List.count_cons]at this⊢
   omega
theorem Qayi (S:List Bool):cnt S≤S.length:=List.count_le_length
theorem Dfs.count (h:Dfs g xs S o S' o'):(∀x,x<S.length→∀y∈g x,y<S.length)→(∀x∈xs,x<S.length)→o'.length+cnt S=o.length+cnt S':=by
 induction h with
 |nil=>intros;rfl
 |skip _ _ ih=>exact fun h1 h2=>ih h1 fun x hx=>h2 x (List.mem_cons_of_mem _ hx)
 |@go x xs S S1 S' o o1 o' h1 h2 h3 ih1 ih2=>
  intro hg hxs
  have hx:=hxs x List.mem_cons_self
  have e1:=ih1 (by simpa using hg) (by simpa using hg x hx)
  have hl:=h2.len
  rw[List.length_set]at hl
  have e2:=ih2 (by rw[hl];exact hg) (by rw[hl];exact fun y hy=>hxs y (List.mem_cons_of_mem _ hy))
  rw[Q2k hx h1]at e1
  simp only[List.length_append,List.length_cons,List.length_nil]at e2
  omega
theorem Dfs.olen (h:Dfs g xs S o S' o'):o.length≤o'.length:=by
 induction h with
 |nil=>exact Nat.le_refl _
 |skip _ _ ih=>exact ih
 |go _ _ _ ih1 ih2=>rw[List.length_append]at ih2;omega
theorem Dfs.all (h:Dfs g xs S o S' o'):∀P:Nat→Prop,(∀x,P x→∀y∈g x,P y)→(∀x∈xs,P x)→(∀x∈o,P x)→∀x∈o',P x:=by
 induction h with
 |nil=>exact fun P _ _ h=>h
 |skip _ _ ih=>exact fun P h1 h2 h3=>ih P h1 (fun x hx=>h2 x (List.mem_cons_of_mem _ hx)) h3
 |go h1 h2 h3 ih1 ih2=>
  intro P hg hxs ho
  have hx:=hxs _ List.mem_cons_self
  refine ih2 P hg (fun y hy=>hxs y (List.mem_cons_of_mem _ hy)) fun y hy=>?_
  rcases List.mem_append.1 hy with hy|hy
  ·exact ih1 P hg (hg _ hx) ho y hy
  ·simp at hy;subst hy;exact hx
end Go.AE.Y

namespace Go.AE.Y
open Go.Proofs.Tryz
variable {H:Heap} {K:V→Heap→Prop}
structure GRd (H:Heap) (c:C) (rows:List (List C)) (nx:Nat→List Int):Prop where
 s:Slc H 5 rows c
 ow:c.isOw=false
 no:∀r∈rows,noOw r=true
 x:∀i,i<rows.length→∃a1 a2 a3 a4 fl,rows.getD i []=[a1,a2,a3,a4,.sl fl 1 (Qf (nx i))]
theorem GRd.keep {c:C} {rows:List (List C)} {nx:Nat→List Int} {H':Heap} {E L:List (Nat×Obj)} (h:GRd H c rows nx) (kn:Kn H H' E L) (hE:∀l a b d,c=.vsl l a b d→l∉E.map Prod.fst):GRd H' c rows nx:=⟨h.s.keep kn hE,h.ow,h.no,h.x⟩
theorem GRd.keep0 {c:C} {rows:List (List C)} {nx:Nat→List Int} {H':Heap} {L:List (Nat×Obj)} (h:GRd H c rows nx) (kn:Kn H H' [] L):GRd H' c rows nx:=h.keep kn (by simp)
def gnx (q:CodeD):Nat→List Int:=fun i=>(q.blocks.map BlkD.next).getD i []
theorem Qf7 (H:Heap) (q:CodeD) (fl:Bool):GRd H (.sl fl 5 (Ql q.blocks)) (Ql q.blocks) (gnx q):=by
 refine⟨.mk' _ _ _ _,rfl,Q2f _,fun i h=>?_⟩
 rw[Qj]at h
 rw[Q5 _ _ h]
 have:gnx q i=q.blocks[i].next:=by simp[gnx,List.getD_eq_getElem?_getD,h]
 exact⟨.sl false 2 (Qai q.blocks[i].phis),.sl false 4 (Qbk q.blocks[i].ins),.int .i64 q.blocks[i].jump,.int .i64 q.blocks[i].on,false,by rw[this];rfl⟩
set_option maxHeartbeats 1000000 in
theorem Qa34 {p rg:Int} {bc:C} {rows:List (List C)} {nx:Nat→List Int} (hg:GRd H bc rows nx) (hK:K (.c (.bool (Qiu rows.length nx))) H):Qw prog Qul [.ag [.int .i64 p,.int .i64 rg,bc]] H K:=by
 refine Qb Qat Qa4s ?_
 have how:=hg.ow
 have hok:=eq_true hg.s.ok
 have hlen:=hg.s.len
 have hsz:=hg.s.sz
 have hrw:=hg.s.rows
 have retf:∀(b:Bool) (e:Env),b=Qiu rows.length nx→lk 2 e=.c (.bool b)→Q6 Q3t K .ret e H:=by
  intro b e hb h3
  simp only[go_sem,Q6,Qad,Q3t,List.mem_singleton,forall_eq,RS.op,h3]
  rw[hb];exact hK
 refine Qa ?_
 simp only[go_sem]
 refine Q3 ?_
 refine Qa ?_
 simp only[go_sem]
 refine Qh (Qc (Qu (fun m e1 H1=>∃(i:Nat),m=rows.length-i∧i≤rows.length∧H1=H∧(∀j,j<i→∀x∈nx j,0≤x∧x≤(rows.length:Int)-1)∧e1=[(1,.c (.pp [.int .i64 p,.int .i64 rg,bc])),(3,.c (.int .i64 i))]) rows.length ?_ ?_))
 ·exact⟨0,by omega,by omega,rfl,fun j hj=>by omega,rfl⟩
 ·rintro m e1 H1 ⟨i,hm,hi,rfl,hall,rfl⟩
  refine Q3 ?_
  refine Qa ?_
  simp only[go_sem,how,hok,hlen]
  intro hl
  simp only[LIM]at hl
  refine Qh (Qd rfl ?_ ?_)
  ·intro hc
   have hlt:i<rows.length:=by simpa using hc
   obtain⟨a1,a2,a3,a4,fl,hrow⟩:=hg.x i hlt
   refine Qi ?_
   simp only[go_sem]
   refine Qc6 (fun e2 H2=>H2=H1∧(∀x∈nx i,0≤x∧x≤(rows.length:Int)-1)∧lk 1 e2=.c (.pp [.int .i64 p,.int .i64 rg,bc])∧lk 3 e2=.c (.int .i64 i)) ?_ ?_
   ·intro Q hn hr _
    refine Qc ?_
    refine Qa ?_
    simp only[go_sem]
    refine Qc (Qu (fun m e1 H2=>∃(k:Nat),m=(nx i).length-k∧k≤(nx i).length∧H2=H1∧(∀x∈(nx i).take k,0≤x∧x≤(rows.length:Int)-1)∧e1=[(1,.c (.pp [.int .i64 p,.int .i64 rg,bc])),(3,.c (.int .i64 i)),(4,.c (.int .i64 k))]) (nx i).length ?_ ?_)
    ·exact⟨0,by omega,by omega,rfl,by simp,rfl⟩
    ·rintro m2 e1 H2 ⟨k,hm2,hk,rfl,hall2,rfl⟩
     refine Q3 ?_
     refine Qa ?_
     simp only[go_sem,how,hok,hlen,hsz,hrw,hlt,hrow,Qe]
     intro hl2
     simp only[LIM]at hl2
     refine Qh (Qd rfl ?_ ?_)
     ·intro hc
      have hlt2:k<(nx i).length:=by simpa using hc
      have hgd:(nx i).getD k 0=(nx i)[k]:=by simp[List.getD_eq_getElem?_getD,hlt2]
      refine Qi ?_
      simp only[go_sem]
      refine Qh (Qc ?_)
      refine Qal ?_
      simp only[go_sem,how,hok,hlen,hsz,hrw,hlt,hrow,hlt2,Qe,Qs _ _ hlt2,hgd]
      refine⟨Qo (by omega) (by omega),?_⟩
      refine Qcm ?_
      simp only[go_sem,Qxi]
      refine Qd rfl ?_ ?_
      ·intro hc2
       refine Qa ?_
       simp only[go_sem]
       refine Qk ?_
       simp only[go_sem,X.next]
       refine hr _ _ (retf false _ ?_ (by simp[lk]))
       cases hf:Qiu rows.length nx with
       |false=>rfl
       |true=>
        have:=Q2q hf hlt (List.getElem_mem hlt2)
        simp at hc2
        omega
      ·intro hc2
       refine Qi ?_
       simp only[go_sem]
       refine Qq ?_
       simp only[go_sem,X.next]
       refine⟨Qo (by omega) (by omega),(nx i).length-(k+1),by omega,k+1,rfl,by omega,fun x hx=>?_,rfl⟩
       rw[List.take_succ_eq_append_getElem hlt2]at hx
       rcases List.mem_append.1 hx with hx|hx
       ·exact hall2 x hx
       ·simp only[List.mem_singleton]at hx;subst hx
        simpa using hc2
     ·intro hc
      have hge:(nx i).length≤k:=by simpa using hc
      rw[List.take_of_length_le hge]at hall2
      refine Qt ?_
      simp only[go_sem,X.next]
      exact hn _ _ ⟨rfl,hall2,by simp[lk],by simp[lk]⟩
   ·rintro e2 H2 ⟨rfl,hx,l1,l3⟩
    refine Qq ?_
    simp only[go_sem,X.next,l1,l3]
    refine⟨Qo (by omega) (by omega),rows.length-(i+1),by omega,i+1,rfl,by omega,fun j hj=>?_,rfl⟩
    by_cases h:j<i
    ·exact hall j h
    ·have:j=i:=by omega
     subst this;exact hx
  ·intro hc
   have hge:i=rows.length:=by have:¬i<rows.length:=(by simpa using hc);omega
   subst hge
   refine Qt ?_
   simp only[go_sem,X.next]
   refine Qa ?_
   simp only[go_sem,how,hok,hlen]
   intro _
   refine Qk ?_
   refine retf _ _ ?_ (by simp[lk];rfl)
   have:(List.range rows.length).all (fun i=>(nx i).all fun x=>decide (0≤x∧x≤(rows.length:Int)-1))=true:=by
    simp only[List.all_eq_true,List.mem_range,decide_eq_true_eq]
    exact hall
   simp only[Qiu,this,Bool.true_and]
   try (by_cases h:0<rows.length <;> simp[h])
end Go.AE.Y

namespace Go.AE.Y
open Go.Proofs.Tryz
def Qm (S:List Bool):List (List C):=S.map fun b=>[.bool b]
theorem Qx (S:List Bool):(Qm S).length=S.length:=by simp[Qm]
theorem Q0 (S:List Bool) (i:Nat) (h:i<S.length):(Qm S).getD i []=[.bool (S.getD i false)]:=by
 simp[Qm,List.getD_eq_getElem?_getD,h]
theorem Qbh (S:List Bool) (i:Nat) (b:Bool):(Qm S).set i [.bool b]=Qm (S.set i b):=by simp[Qm,List.map_set]
theorem Qf1 (S:List Bool):∀r∈Qm S,noOw r=true:=by intro r hr;obtain⟨x,_,rfl⟩:=List.mem_map.1 hr;rfl
def Qaa (l:List Nat):List (List C):=Qf (l.map Int.ofNat)
theorem Q1 (l:List Nat):(Qaa l).length=l.length:=by simp[Qaa,Qe]
theorem Qarx (l:List Nat) (n:Nat):Qaa l++[[.int .i64 (n:Int)]]=Qaa (l++[n]):=by simp[Qaa,Qf]
theorem Qbl (l:List Nat):∀r∈Qaa l,noOw r=true:=Qv _
set_option maxHeartbeats 2000000 in
theorem Qu1 {F:Heap} {p rg:Int} {bc:C} {rows:List (List C)} {nx:Nat→List Int} {y:Nat} (hfit:Qiu rows.length nx=true) (hn:rows.length≤1000000) (hg:GRd F bc rows nx) (hyb:∀l a b d,bc=.vsl l a b d→l≠y) :
  ∀(u b:Nat) (S:List Bool) (o:List Nat) (oc:C) (Lg:List (Nat×Obj)) (H:Heap) (K:V→Heap→Prop),S.length=rows.length→rows.length-cnt S≤u→b<rows.length→S.getD b false=false→
   Kn F H [(y,.vec 1 (Qm S))] ([]++Lg)→Gr Lg 1 (Qaa o) oc→o.length≤cnt S→
   (∀(S':List Bool) (o':List Nat) (oc':C) (Lg':List (Nat×Obj)) (H':Heap),Dfs (nxN nx) [b] S o S' o'→Kn F H' [(y,.vec 1 (Qm S'))] ([]++Lg')→Gr Lg' 1 (Qaa o') oc'→K (.c oc') H')→
   Qw prog Qdo [.ag [.int .i64 p,.int .i64 rg,bc],.c (.int .i64 b),.c (.vsl y 1 0 rows.length),.c oc] H K:=by
 intro u
 induction u with
 |zero=>
  intro b S o oc Lg H K hS hu hb hsb
  have h1:=Q2k (S:=S) (x:=b) (by omega) hsb
  have h2:=Qayi (S.set b true)
  rw[List.length_set]at h2
  omega
 |succ u ih=>
  intro b S o oc Lg H K hS hu hb hsb kn hgr hol hK
  have how:=hg.ow
  have hbS:b<S.length:=by omega
  obtain⟨a1,a2,a3,a4,fl,hrow⟩:=hg.x b hb
  have hsz:=hg.s.sz
  have hlen:=hg.s.len
  have hy:=kn.e 0 rfl
  have hocw:=hgr.isOw
  refine Qb Qat Qa0f ?_
  refine Qa ?_
  simp only[go_sem,how]
  refine Qa ?_
  have htk:List.take rows.length (Qm S)=Qm S:=List.take_of_length_le (by rw[Qx];omega)
  simp only[go_sem,hy,hb,hbS,Qx,hS,Q0 _ _ hbS,Qbh,List.drop_zero,Nat.zero_add,Nat.le_refl]
  intro H1 h1
  have kn:=kn.stE 0 rfl h1
  have hcS:=Q2k hbS hsb
  have hnxl:(nxN nx b).length=(nx b).length:=by simp[nxN]
  refine Q3 ?_
  refine Qa ?_
  simp only[go_sem]
  refine Qh (Qc (Qu (fun m e1 H1=>∃(i:Nat) (S1:List Bool) (o1:List Nat) (oc1:C) (Lg1:List (Nat×Obj)),m=(nx b).length-i∧i≤(nx b).length∧Dfs (nxN nx) ((nxN nx b).take i) (S.set b true) o S1 o1∧
   Kn F H1 [(y,.vec 1 (Qm S1))] ([]++Lg1)∧Gr Lg1 1 (Qaa o1) oc1∧
   e1=[(1,.c (.int .i64 b)),(2,.c (.vsl y 1 0 rows.length)),(3,.c oc1),(4,.c (.pp [.int .i64 p,.int .i64 rg,bc])),(9,.c (.int .i64 i))]) (nx b).length ?_ ?_))
  ·exact⟨0,_,o,oc,Lg,by omega,by omega,.nil _ _,kn,hgr,rfl⟩
  ·rintro m e1 H2 ⟨i,S1,o1,oc1,Lg1,hm,hi,hd,kn,hgr,rfl⟩
   have hgd:∀x,x<(S.set b true).length→∀z∈nxN nx x,z<(S.set b true).length:=by
    rw[List.length_set,hS]
    exact fun x hx z hz=>Qajv hfit hx hz
   have hd1:=hd.len
   rw[List.length_set,hS]at hd1
   have hd2:=hd.count hgd (fun x hx=>hgd b (by rw[List.length_set];exact hbS) x (List.mem_of_mem_take hx))
   have hd3:=hd.olen
   have hd4:=Qayi S1
   have hg2:=hg.keep kn (fun l a b d hh=>by simpa using hyb l a b d hh)
   have hok2:=eq_true hg2.s.ok
   have hrw2:=hg2.s.rows
   have hy:=kn.e 0 rfl
   refine Q3 ?_
   refine Qa ?_
   simp only[go_sem,how,hok2,hlen,hsz,hrw2,hb,hrow,Qe]
   intro hl
   simp only[LIM]at hl
   refine Qh (Qd rfl ?_ ?_)
   ·intro hc
    have hlt:i<(nx b).length:=by simpa using hc
    obtain⟨w,hw⟩:∃w:Nat,(nx b).getD i 0=w:=by
     have h1:=Q2q hfit hb (List.getElem_mem hlt)
     refine⟨((nx b)[i]).toNat,?_⟩
     simp only[List.getD_eq_getElem?_getD,List.getElem?_eq_getElem hlt,Option.getD_some]
     omega
    have hwn:(nxN nx b).take (i+1)=(nxN nx b).take i++[w]:=by
     rw[List.take_succ_eq_append_getElem (by rw[hnxl];exact hlt)]
     congr 1
     simp only[nxN,List.getElem_map]
     simp only[List.getD_eq_getElem?_getD,List.getElem?_eq_getElem hlt,Option.getD_some]at hw
     rw[hw];simp
    have hwl:w<rows.length:=Qajv hfit hb (x:=w) (by
     have:w∈(nxN nx b).take (i+1):=by rw[hwn];simp
     exact List.mem_of_mem_take this)
    have hwS:w<S1.length:=by omega
    refine Qi ?_
    simp only[go_sem]
    refine Qc6 (fun e2 H2=>∃(S2:List Bool) (o2:List Nat) (oc2:C) (Lg2:List (Nat×Obj)),Dfs (nxN nx) ((nxN nx b).take (i+1)) (S.set b true) o S2 o2∧
     Kn F H2 [(y,.vec 1 (Qm S2))] ([]++Lg2)∧Gr Lg2 1 (Qaa o2) oc2∧
     lk 1 e2=.c (.int .i64 b)∧lk 2 e2=.c (.vsl y 1 0 rows.length)∧lk 3 e2=.c oc2∧lk 4 e2=.c (.pp [.int .i64 p,.int .i64 rg,bc])∧lk 9 e2=.c (.int .i64 i)) ?_ ?_
    ·intro Q hnr _ _
     have htk2:List.take rows.length (Qm S1)=Qm S1:=List.take_of_length_le (by rw[Qx];omega)
     refine Qc ?_
     refine Qa ?_
     simp only[go_sem,how,hok2,hlen,hsz,hrw2,hb,hrow,hlt,hy,hw,hwl,hwS,htk2,hd1,Qx,Q0 _ _ hwS,Qe,Qs _ _ hlt,List.drop_zero,Nat.zero_add,Nat.le_refl]
     refine Qd rfl ?_ ?_
     ·intro hc2
      have hsw:S1.getD w false=false:=Qrw hc2
      refine Qa9 ?_
      simp only[go_sem,how,hok2,hlen,hsz,hrw2,hb,hrow,hlt,hw,Qe,Qs _ _ hlt,hgr.isOw]
      refine ih w S1 o1 oc1 Lg1 H2 _ hd1 (by omega) hwl hsw kn hgr (by omega) fun S2 o2 oc2 Lg2 H3 hd' kn hgr=>?_
      simp only[go_sem,Qs2]
      refine hnr _ _ ⟨S2,o2,oc2,Lg2,?_,kn,hgr,rfl,rfl,rfl,rfl,rfl⟩
      rw[hwn];exact hd.app hd'
     ·intro hc2
      have hsw:S1.getD w false=true:=Qeg hc2
      refine Qi ?_
      simp only[go_sem]
      refine hnr _ _ ⟨S1,o1,oc1,Lg1,?_,kn,hgr,rfl,rfl,rfl,rfl,rfl⟩
      rw[hwn];exact hd.app (.skip hsw (.nil _ _))
    ·rintro e2 H3 ⟨S2,o2,oc2,Lg2,hd,kn,hgr,l1,l2,l3,l4,l9⟩
     refine Qq ?_
     simp only[go_sem,X.next,l1,l2,l3,l4,l9]
     exact⟨Qo (by omega) (by omega),(nx b).length-(i+1),by omega,i+1,S2,o2,oc2,Lg2,rfl,by omega,hd,kn,hgr,rfl⟩
   ·intro hc
    have hge:(nx b).length≤i:=by simpa using hc
    rw[List.take_of_length_le (by rw[hnxl];exact hge)]at hd
    have hocw:=hgr.isOw
    refine Qt ?_
    simp only[go_sem,X.next]
    refine Qa ?_
    simp only[go_sem,hocw]
    refine kn.grow (new:=Qf [(b:Int)]) hgr (.mk' _ _ _ _) (Qv _) (by simp only[Q1,Qe,LIM,List.length_cons,List.length_nil];omega) fun z H3 kn=>?_
    simp only[go_sem,Qs3]
    refine Qk ?_
    simp only[go_sem,Q6,Qad,Qadm,reduceIte,List.mem_singleton,forall_eq,RS.op]
    refine hK S1 (o1++[b]) _ _ H3 (.one hsb hd) kn ?_
    rw[←Qarx]
    exact .mk _ _ _ (by simp)
end Go.AE.Y

namespace Go.AE.Y
open Go.Proofs.Tryz
variable {H:Heap} {K:V→Heap→Prop}
theorem Qcu {n lo hi:Int} (hK:K (.c (.bool (decide (lo≤n)&&decide (n≤hi)))) H):Qw prog Qav [.c (.int .i64 n),.c (.int .i64 lo),.c (.int .i64 hi)] H K:=by
 refine Qb Qat Qari ?_
 refine Qa ?_
 simp only[go_sem]
 refine Qa ?_
 simp only[go_sem]
 refine Qk ?_
 simp only[go_sem,Q6,Qad,Q3r,List.mem_singleton,forall_eq,RS.op]
 have:(bif decide (lo≤n)then decide (n≤hi)else false)=(decide (lo≤n)&&decide (n≤hi)):=by cases decide (lo≤n) <;> rfl
 first|exact hK|(rw[this];exact hK)|(simpa[this]using hK)
def IsIx (ns:List Int) (v r:Int):Prop:=(r=-1∧v∉ns)∨∃i:Nat,r=i∧i<ns.length∧ns.getD i 0=v∧v∉ns.take i
theorem IsIx.nonneg {ns:List Int} {v r:Int} (h:IsIx ns v r):decide (0≤r)=ns.contains v:=by
 rcases h with ⟨rfl,hn⟩|⟨i,rfl,h1,h2,_⟩
 ·have:ns.contains v=false:=by
   cases hc:ns.contains v with
   |false=>rfl
   |true=>exact absurd (List.contains_iff_mem.1 hc) hn
  rw[this];rfl
 ·have:v∈ns:=by
   rw[←h2,List.getD_eq_getElem?_getD,List.getElem?_eq_getElem h1];exact List.getElem_mem h1
  rw[List.contains_iff_mem.2 this];simp
theorem Qbbs {c:C} {ns:List Int} {v:Int} (hs:Slc H 1 (Qf ns) c) (how:c.isOw=false) (hK:∀r,IsIx ns v r→K (.c (.int .i64 r)) H) :
  Qw prog Qp3 [.c c,.c (.int .i64 v)] H K:=by
 refine Qb Qat Qa0l ?_
 have hok:=eq_true hs.ok
 have hlen:=hs.len
 have hsz:=hs.sz
 have hrw:=hs.rows
 refine Qa ?_
 simp only[go_sem,how]
 refine Q3 ?_
 refine Qa ?_
 simp only[go_sem,how,hok,hlen,Qe]
 intro hl
 simp only[LIM]at hl
 refine Qh (Qc (Qu (fun m e1 H1=>∃(i:Nat),m=ns.length-i∧i≤ns.length∧H1=H∧v∉ns.take i∧e1=[(0,.c c),(1,.c (.int .i64 v)),(7,.c (.int .i64 ns.length)),(8,.c (.int .i64 i))]) ns.length ?_ ?_))
 ·exact⟨0,by omega,by omega,rfl,by simp,rfl⟩
 ·rintro m e1 H1 ⟨i,hm,hi,rfl,hno,rfl⟩
  refine Qa ?_
  simp only[go_sem,how]
  refine Qh (Qd rfl ?_ ?_)
  ·intro hc
   have hlt:i<ns.length:=by simpa using hc
   have hgd:ns.getD i 0=ns[i]:=by simp[List.getD_eq_getElem?_getD,hlt]
   refine Qi ?_
   simp only[go_sem]
   refine Qh (Qc ?_)
   refine Qa ?_
   simp only[go_sem,how]
   refine Qa ?_
   simp only[go_sem,how,hok,hlen,hsz,hrw,hlt,Qe,Qs _ _ hlt]
   refine Qd rfl ?_ ?_
   ·intro hc2
    have hv:v=ns.getD i 0:=by simpa using hc2
    refine Qa ?_
    simp only[go_sem]
    refine Qk ?_
    simp only[go_sem,X.next,Q6,Qad,Qva,List.mem_singleton,forall_eq,RS.op]
    exact hK _ (.inr ⟨i,rfl,hlt,hv.symm,hno⟩)
   ·intro hc2
    have hv:¬v=ns.getD i 0:=by simpa using hc2
    refine Qi ?_
    simp only[go_sem]
    refine Qq ?_
    simp only[go_sem,X.next]
    refine⟨Qo (by omega) (by omega),ns.length-(i+1),by omega,i+1,rfl,by omega,?_,rfl⟩
    rw[List.take_succ_eq_append_getElem hlt]
    simp only[List.mem_append,List.mem_singleton,not_or]
    exact⟨hno,fun h=>hv (by rw[hgd];exact h)⟩
  ·intro hc
   have hge:ns.length≤i:=by simpa using hc
   rw[List.take_of_length_le hge]at hno
   refine Qt ?_
   simp only[go_sem,X.next]
   refine Qa ?_
   simp only[go_sem]
   refine Qk ?_
   simp only[go_sem,Q6,Qad,Qva,List.mem_singleton,forall_eq,RS.op]
   exact hK _ (.inl ⟨rfl,hno⟩)
theorem Qazj {c:C} {ns:List Int} {v:Int} (hs:Slc H 1 (Qf ns) c) (how:c.isOw=false) (hK:K (.c (.bool (ns.contains v))) H) :
  Qw prog Qgy [.c c,.c (.int .i64 v)] H K:=by
 refine Qb Qat Qae8 ?_
 refine Qa ?_
 simp only[go_sem,how]
 refine Qa ?_
 simp only[go_sem,how]
 refine Qbbs hs how fun r hr=>?_
 simp only[go_sem,Qkt]
 refine Qk ?_
 simp only[go_sem,Q6,Qad,Qsb,List.mem_singleton,forall_eq,RS.op]
 rw[hr.nonneg];exact hK
theorem Qaqo {c:C} {ns:List Int} {f:Nat} {caps:List C} {p:Int→Bool} (hs:Slc H 1 (Qf ns) c) (how:c.isOw=false)
  (hf:∀(x:Int) (K':V→Heap→Prop),x∈ns→K' (.c (.bool (p x))) H→Qw prog f ([.c (.int .i64 x)]++caps.map .c) H K')
  (hK:∀r:Int,decide (0≤r)=ns.any p→K (.c (.int .i64 r)) H) :
  Qw prog Qff [.c c,.c (.fn f caps)] H K:=by
 refine Qb Qat Q9v ?_
 have hok:=eq_true hs.ok
 have hlen:=hs.len
 have hsz:=hs.sz
 have hrw:=hs.rows
 refine Qa ?_
 simp only[go_sem,how]
 refine Q3 ?_
 refine Qa ?_
 simp only[go_sem,how,hok,hlen,Qe]
 intro hl
 simp only[LIM]at hl
 refine Qh (Qc (Qu (fun m e1 H1=>∃(i:Nat),m=ns.length-i∧i≤ns.length∧H1=H∧(∀x∈ns.take i,p x=false)∧e1=[(0,.c c),(1,.c (.fn f caps)),(7,.c (.int .i64 ns.length)),(8,.c (.int .i64 i))]) ns.length ?_ ?_))
 ·exact⟨0,by omega,by omega,rfl,by simp,rfl⟩
 ·rintro m e1 H1 ⟨i,hm,hi,rfl,hno,rfl⟩
  refine Qa ?_
  simp only[go_sem,how]
  refine Qh (Qd rfl ?_ ?_)
  ·intro hc
   have hlt:i<ns.length:=by simpa using hc
   have hgd:ns.getD i 0=ns[i]:=by simp[List.getD_eq_getElem?_getD,hlt]
   refine Qi ?_
   simp only[go_sem]
   refine Qh (Qc ?_)
   refine Qa ?_
   simp only[go_sem,how]
   refine Qa ?_
   simp only[go_sem,how,hok,hlen,hsz,hrw,hlt,Qe,Qs _ _ hlt]
   refine hf _ _ (by rw[hgd];exact List.getElem_mem hlt) ?_
   refine Qd rfl ?_ ?_
   ·intro hc2
    refine Qa ?_
    simp only[go_sem]
    refine Qk ?_
    simp only[go_sem,X.next,Q6,Qad,Qg5,List.mem_singleton,forall_eq,RS.op]
    refine hK _ ?_
    have:ns.any p=true:=List.any_eq_true.2 ⟨ns[i],List.getElem_mem hlt,by rw[←hgd];exact hc2⟩
    rw[this];simp
   ·intro hc2
    refine Qi ?_
    simp only[go_sem]
    refine Qq ?_
    simp only[go_sem,X.next]
    refine⟨Qo (by omega) (by omega),ns.length-(i+1),by omega,i+1,rfl,by omega,?_,rfl⟩
    rw[List.take_succ_eq_append_getElem hlt]
    intro x hx
    rcases List.mem_append.1 hx with hx|hx
    ·exact hno x hx
    ·simp only[List.mem_singleton]at hx;subst hx;rw[←hgd];exact hc2
  ·intro hc
   have hge:ns.length≤i:=by simpa using hc
   rw[List.take_of_length_le hge]at hno
   refine Qt ?_
   simp only[go_sem,X.next]
   refine Qa ?_
   simp only[go_sem]
   refine Qk ?_
   simp only[go_sem,Q6,Qad,Qg5,List.mem_singleton,forall_eq,RS.op]
   refine hK _ ?_
   have:ns.any p=false:=by
    cases hc:ns.any p with
    |false=>rfl
    |true=>obtain⟨x,hx,hp⟩:=List.any_eq_true.1 hc;rw[hno x hx]at hp;exact absurd hp (by simp)
   rw[this];rfl
theorem Qgt {c:C} {ns:List Int} {f:Nat} {caps:List C} {p:Int→Bool} (hs:Slc H 1 (Qf ns) c) (how:c.isOw=false)
  (hf:∀(x:Int) (K':V→Heap→Prop),x∈ns→K' (.c (.bool (p x))) H→Qw prog f ([.c (.int .i64 x)]++caps.map .c) H K')
  (hK:K (.c (.bool (ns.any p))) H):Qw prog Qbr [.c c,.c (.fn f caps)] H K:=by
 refine Qb Qat Qu3 ?_
 refine Qa ?_
 simp only[go_sem,how]
 refine Qa ?_
 simp only[go_sem,how]
 refine Qaqo hs how hf fun r hr=>?_
 simp only[go_sem,Qeo]
 refine Qk ?_
 simp only[go_sem,Q6,Qad,Qht,List.mem_singleton,forall_eq,RS.op]
 rw[hr];exact hK
end Go.AE.Y

namespace Go.AE.Y
attribute [local instance] Classical.propDecidable
inductive Rch (g:Nat→List Nat) (A:Nat→Prop):Nat→Nat→Prop
 |refl {x:Nat}:¬A x→Rch g A x x
 |step {x y z:Nat}:Rch g A x y→z∈g y→¬A z→Rch g A x z
variable {g:Nat→List Nat} {A B:Nat→Prop} {x y z:Nat}
theorem Rch.mono (h:Rch g A x y) (hAB:∀z,B z→A z):Rch g B x y:=by
 induction h with
 |refl h=>exact .refl fun hb=>h (hAB _ hb)
 |step h1 h2 h3 ih=>exact ih.step h2 fun hb=>h3 (hAB _ hb)
theorem Rch.fst (h:Rch g A x y):¬A x:=by
 induction h with
 |refl h=>exact h
 |step _ _ _ ih=>exact ih
theorem Rch.snd (h:Rch g A x y):¬A y:=by
 cases h with
 |refl h=>exact h
 |step _ _ h=>exact h
theorem Rch.trans (h:Rch g A x y) (k:Rch g A y z):Rch g A x z:=by
 induction k with
 |refl _=>exact h
 |step _ h2 h3 ih=>exact ih.step h2 h3
theorem Rch.head (hx:¬A x) (hy:y∈g x) (h:Rch g A y z):Rch g A x z:=(Rch.step (.refl hx) hy h.fst).trans h
theorem Rch.lt {n:Nat} (hg:∀x,x<n→∀y∈g x,y<n) (h:Rch g A x y) (hx:x<n):y<n:=by
 induction h with
 |refl _=>exact hx
 |step _ h2 _ ih=>exact hg _ ih _ h2
variable {xs:List Nat} {S S' S1:List Bool} {o o' o1:List Nat}
theorem Dfs.adds (h:Dfs g xs S o S' o'):(∀x,x<S.length→∀y∈g x,y<S.length)→(∀x∈xs,x<S.length)→
  ∃t,o'=o++t∧(∀x,S'.getD x false=true↔S.getD x false=true∨x∈t)∧(∀x∈t,∀y∈g x,S'.getD y false=true)∧
   (∀x∈xs,S'.getD x false=true)∧(∀y∈t,∃x∈xs,Rch g (fun z=>S.getD z false=true) x y):=by
 induction h with
 |nil S o=>exact fun _ _=>⟨[],by simp,by simp,by simp,by simp,by simp⟩
 |@skip x xs S S' o o' h1 h2 ih=>
  intro hg hx
  obtain⟨t,e,a1,a2,a3,a4⟩:=ih hg fun y hy=>hx y (List.mem_cons_of_mem _ hy)
  refine⟨t,e,a1,a2,fun y hy=>?_,fun y hy=>?_⟩
  ·rcases List.mem_cons.1 hy with rfl|hy
   ·exact h2.mono _ h1
   ·exact a3 y hy
  ·obtain⟨z,hz,hr⟩:=a4 y hy
   exact⟨z,List.mem_cons_of_mem _ hz,hr⟩
 |@go x xs S S1 S' o o1 o' h1 h2 h3 ih1 ih2=>
  intro hg hxs
  have hx:=hxs x List.mem_cons_self
  have hl:=h2.len
  rw[List.length_set]at hl
  obtain⟨t1,e1,a1,a2,a3,a4⟩:=ih1 (by simpa using hg) (by simpa using hg x hx)
  obtain⟨t2,e2,b1,b2,b3,b4⟩:=ih2 (by rw[hl];exact hg) (by rw[hl];exact fun y hy=>hxs y (List.mem_cons_of_mem _ hy))
  have hset:∀y,(S.set x true).getD y false=true↔y=x∨S.getD y false=true:=by
   intro y
   rw[Qnt]
   by_cases hyx:y=x
   ·simp[hyx,hx]
   ·simp[hyx]
  have hmono:∀y,S.getD y false=true→S1.getD y false=true:=fun y hy=>(a1 y).2 (.inl ((hset y).2 (.inr hy)))
  have hxS1:S1.getD x false=true:=(a1 x).2 (.inl ((hset x).2 (.inl rfl)))
  refine⟨t1++[x]++t2,by rw[e2,e1];simp,fun y=>?_,fun y hy z hz=>?_,fun y hy=>?_,fun y hy=>?_⟩
  ·rw[b1,a1,hset]
   simp only[List.mem_append,List.mem_singleton]
   constructor
   ·rintro (((h|h)|h)|h)
    ·exact .inr (.inl (.inr h))
    ·exact .inl h
    ·exact .inr (.inl (.inl h))
    ·exact .inr (.inr h)
   ·rintro (h|((h|h)|h))
    ·exact .inl (.inl (.inr h))
    ·exact .inl (.inr h)
    ·exact .inl (.inl (.inl h))
    ·exact .inr h
  ·rcases List.mem_append.1 hy with hy|hy
   ·rcases List.mem_append.1 hy with hy|hy
    ·exact (b1 z).2 (.inl (a2 y hy z hz))
    ·simp only[List.mem_singleton]at hy;subst hy
     exact (b1 z).2 (.inl (a3 z hz))
   ·exact b2 y hy z hz
  ·rcases List.mem_cons.1 hy with rfl|hy
   ·exact (b1 y).2 (.inl hxS1)
   ·exact b3 y hy
  ·rcases List.mem_append.1 hy with hy|hy
   ·rcases List.mem_append.1 hy with hy|hy
    ·obtain⟨z,hz,hr⟩:=a4 y hy
     exact⟨x,List.mem_cons_self,.head (by rw[h1];simp) hz (hr.mono fun w hw=>(hset w).2 (.inr hw))⟩
    ·simp only[List.mem_singleton]at hy;subst hy
     exact⟨y,List.mem_cons_self,.refl (by rw[h1];simp)⟩
   ·obtain⟨z,hz,hr⟩:=b4 y hy
    exact⟨z,List.mem_cons_of_mem _ hz,hr.mono hmono⟩
theorem Dfs.seen (h:Dfs g xs S o S' o') (hg:∀x,x<S.length→∀y∈g x,y<S.length) (hxs:∀x∈xs,x<S.length) (y:Nat) :
  S'.getD y false=true↔S.getD y false=true∨∃x∈xs,Rch g (fun z=>S.getD z false=true) x y:=by
 obtain⟨t,e,a1,a2,a3,a4⟩:=h.adds hg hxs
 constructor
 ·intro hy
  rcases (a1 y).1 hy with hy|hy
  ·exact .inl hy
  ·exact .inr (a4 y hy)
 ·rintro (hy|⟨x,hx,hr⟩)
  ·exact h.mono y hy
  ·induction hr with
   |refl _=>exact a3 _ hx
   |step h1 h2 h3 ih=>
    rcases (a1 _).1 ih with h|h
    ·exact absurd h h1.snd
    ·exact a2 _ h _ h2
theorem Dfs.list (h:Dfs g xs S [] S' o') (hg:∀x,x<S.length→∀y∈g x,y<S.length) (hxs:∀x∈xs,x<S.length) (hS:∀x,S.getD x false=false) (y:Nat) :
  y∈o'↔S'.getD y false=true:=by
 obtain⟨t,e,a1,_⟩:=h.adds hg hxs
 rw[a1,hS]
 simp[e]
theorem Qa23:∀{l k:List Nat},l.Pairwise (· < ·)→k.Pairwise (· < ·)→(∀x,x∈l↔x∈k)→l=k
 |[],[],_,_,_=>rfl
 |[],b::k,_,_,h=>by have:=(h b).2 List.mem_cons_self;simp at this
 |a::l,[],_,_,h=>by have:=(h a).1 List.mem_cons_self;simp at this
 |a::l,b::k,h1,h2,h=>by
  rw[List.pairwise_cons]at h1 h2
  have hab:a=b:=by
   rcases List.mem_cons.1 ((h a).1 List.mem_cons_self)with e|e
   ·exact e
   ·rcases List.mem_cons.1 ((h b).2 List.mem_cons_self)with e'|e'
    ·exact e'.symm
    ·have:=h1.1 b e';have:=h2.1 a e;omega
  subst hab
  congr 1
  refine Qa23 h1.2 h2.2 fun x=>⟨fun hx=>?_,fun hx=>?_⟩
  ·rcases List.mem_cons.1 ((h x).1 (List.mem_cons_of_mem _ hx))with e|e
   ·subst e;have:=h1.1 x hx;omega
   ·exact e
  ·rcases List.mem_cons.1 ((h x).2 (List.mem_cons_of_mem _ hx))with e|e
   ·subst e;have:=h2.1 x hx;omega
   ·exact e
theorem Qait {l:List Nat} {n:Nat} {p:Nat→Bool} (h1:l.Pairwise (· < ·)) (h:∀x,x∈l↔x<n∧p x=true):l=(List.range n).filter p:=
 Qa23 h1 (List.Pairwise.filter _ List.pairwise_lt_range) fun x=>by rw[h];simp[List.mem_filter]
noncomputable def Qhd (g:Nat→List Nat) (a:Int) (x:Nat):Bool:=decide (Rch g (fun z=>(z:Int)=a) 0 x)
noncomputable def Qrh (g:Nat→List Nat) (a b:Nat):Bool:=Qhd g (-1) a&&Qhd g (-1) b&&!Qhd g a b
def Qafb (n:Nat) (g:Nat→List Nat) (h:Nat):List Nat:=(List.range n).filter fun i=>decide (h∈g i)
noncomputable def Qbfu (n:Nat) (g:Nat→List Nat) (h:Nat):Bool:=(Qafb n g h).any fun p=>Qrh g h p
noncomputable def Qbfv (n:Nat) (g:Nat→List Nat):List Nat:=(List.range n).filter (Qbfu n g)
inductive Bdy (n:Nat) (g:Nat→List Nat) (h:Nat):Nat→Prop
 |head:Bdy n g h h
 |back {p:Nat}:p∈Qafb n g h→Qrh g h p=true→Bdy n g h p
 |more {b p:Nat}:Bdy n g h b→b≠h→p∈Qafb n g b→Qhd g (-1) p=true→Bdy n g h p
noncomputable def Qa27 (n:Nat) (g:Nat→List Nat) (h:Nat):List Nat:=(List.range n).filter fun b=>decide (Bdy n g h b)
variable {n h:Nat}
theorem predL_mem {p:Nat}:p∈Qafb n g h↔p<n∧h∈g p:=by simp[Qafb]
theorem Bdy.lt {b:Nat} (hh:h<n) (hb:Bdy n g h b):b<n:=by
 cases hb with
 |head=>exact hh
 |back h1 _=>exact (predL_mem.1 h1).1
 |more _ _ h1 _=>exact (predL_mem.1 h1).1
theorem Qa29 (hh:h<n) {b:Nat}:b∈Qa27 n g h↔Bdy n g h b:=by
 simp only[Qa27,List.mem_filter,List.mem_range,decide_eq_true_eq]
 exact⟨fun h=>h.2,fun h=>⟨h.lt hh,h⟩⟩
theorem Qa28:(Qa27 n g h).Pairwise (· < ·):=List.Pairwise.filter _ List.pairwise_lt_range
end Go.AE.Y

namespace Go.AE.Y
open Go.Proofs.Tryz
variable {H:Heap} {K:V→Heap→Prop}
theorem GRd.ows {c:C} {rows:List (List C)} {nx:Nat→List Int} (h:GRd H c rows nx) {i:Nat} (hi:i<rows.length) {a1 a2 a3 a4 a5:C} (hr:rows.getD i []=[a1,a2,a3,a4,a5]) :
  a1.isOw=false∧a2.isOw=false∧a3.isOw=false∧a4.isOw=false∧a5.isOw=false:=by
 have:=h.no _ (List.getElem_mem hi)
 have e:rows[i]=[a1,a2,a3,a4,a5]:=by rw[←hr];simp[List.getD_eq_getElem?_getD,hi]
 rw[e]at this
 simpa[Go.AE.noOw]using this
def Qafc (nx:Nat→List Int) (b:Int) (n:Nat):List Int:=if decide (0≤b)&&decide (b≤(n:Int)-1)then Q7 nx b n else []
set_option maxHeartbeats 1000000 in
theorem Qa20 {p rg:Int} {bc:C} {rows:List (List C)} {nx:Nat→List Int} {b:Int} (hg:GRd H bc rows nx)
  (hK:∀fl H',Upd H H' []→K (.c (.sl fl 1 (Qf (Qafc nx b rows.length)))) H'):Qw prog Qiv [.ag [.int .i64 p,.int .i64 rg,bc],.c (.int .i64 b)] H K:=by
 refine Qz ?_
 refine Qb Qat Qaje ?_
 have how:=hg.ow
 have hok:=eq_true hg.s.ok
 have hlen:=hg.s.len
 have hsz:=hg.s.sz
 refine Qa ?_
 simp only[go_sem,how]
 refine Qa ?_
 simp only[go_sem,how]
 refine Q3 ?_
 refine Qa ?_
 simp only[go_sem,how,hok,hlen]
 intro hl
 simp only[LIM]at hl
 refine⟨Qo (by omega) (by omega),?_⟩
 refine Qcu ?_
 simp only[go_sem,Qlr]
 refine Qh (Qd rfl ?_ ?_)
 ·intro hc
  have hc':=Qrw hc
  refine Qa ?_
  simp only[go_sem]
  refine Qk ?_
  simp only[go_sem,Q6,Qad,Qll,List.mem_singleton,forall_eq,RS.op]
  have h:=hK false _ (Kn.start0 H).fin
  simp only[Qafc,hc']at h
  exact⟨_,.c _ _ FrzR.nil.sl,h⟩
 ·intro hc
  have hc':=Qeg hc
  refine Qi ?_
  simp only[go_sem]
  refine Q3 ?_
  refine Qa ?_
  simp only[go_sem,how,hok,hlen]
  intro _
  refine Qh (Qc (Qu (fun m e1 H1=>∃(i:Nat) (c:C) (Lg:List (Nat×Obj)),m=rows.length-i∧i≤rows.length∧Gr Lg 1 (Qf (Q7 nx b i)) c∧Kn H H1 [] ([]++Lg)∧
   e1=[(1,.c (.int .i64 b)),(5,.c c),(16,.c bc),(17,.c (.int .i64 rows.length)),(18,.c (.int .i64 i))]) rows.length ?_ ?_))
  ·exact⟨0,_,[],by omega,by omega,.nil 1,Kn.start0 H,rfl⟩
  ·rintro m e1 H1 ⟨i,c,Lg,hm,hi,hgr,kn,rfl⟩
   have hg1:=hg.keep0 kn
   have hok1:=eq_true hg1.s.ok
   have hrw1:=hg1.s.rows
   refine Qa ?_
   simp only[go_sem]
   refine Qh (Qd rfl ?_ ?_)
   ·intro hc
    have hlt:i<rows.length:=by simpa using hc
    obtain⟨a1,a2,a3,a4,fl,hrow⟩:=hg.x i hlt
    obtain⟨o1,o2,o3,o4,_⟩:=hg.ows hlt hrow
    refine Qi ?_
    simp only[go_sem]
    refine Qc6 (fun e2 H2=>∃(c:C) (Lg:List (Nat×Obj)),Gr Lg 1 (Qf (Q7 nx b (i+1))) c∧Kn H H2 [] ([]++Lg)∧
     lk 1 e2=.c (.int .i64 b)∧lk 5 e2=.c c∧lk 16 e2=.c bc∧lk 17 e2=.c (.int .i64 rows.length)∧lk 18 e2=.c (.int .i64 i)) ?_ ?_
    ·intro Q hnr _ _
     refine Qc ?_
     refine Qa ?_
     simp only[go_sem,how,hok1,hlen,hsz,hrw1,hlt,hrow,o1,o2,o3,o4]
     intro x hx H2 h2
     have kn:=(kn.al hx h2).perm List.perm_append_comm
     have hx2:=kn.l 0 rfl
     simp only[go_sem,Qls,hx2]
     intro H3 h3
     have kn:=kn.stL 0 rfl h3
     have hx3:=kn.l 0 rfl
     refine Qa ?_
     simp only[go_sem,hx3]
     refine Qazj (.mk' _ _ _ _) rfl ?_
     refine Qd rfl ?_ ?_
     ·intro hcon
      have hpl:=Qca nx b i
      refine Qq ?_
      simp only[go_sem]
      refine kn.grow (B:=[_]) (new:=Qf [(i:Int)]) hgr (.mk' _ _ _ _) (Qv _) (by simp only[Qe,LIM,List.length_cons,List.length_nil];omega) fun y' H4 kn=>?_
      simp only[go_sem,Qlt]
      refine hnr _ _ ⟨_,_,?_,(kn.perm List.perm_append_comm).drop,rfl,rfl,rfl,rfl,rfl⟩
      rw[Qf9,hcon,if_pos rfl,Qb7]
      exact .mk _ _ _ (by simp)
     ·intro hcon
      refine Qi ?_
      simp only[go_sem]
      refine hnr _ _ ⟨c,Lg,?_,?_,rfl,rfl,rfl,rfl,rfl⟩
      ·rw[Qf9,hcon]
       simpa using hgr
      ·have kn:Kn H H3 [] ([(x,.st [a1,a2,a3,a4,.sl fl 1 (Qf (nx i))])]++([]++Lg)):=kn
       exact (kn.perm List.perm_append_comm).drop
    ·rintro e2 H2 ⟨c2,Lg2,hgr,kn,l1,l5,l16,l17,l18⟩
     refine Qq ?_
     simp only[go_sem,X.next,l1,l5,l16,l17,l18]
     exact⟨Qo (by omega) (by omega),rows.length-(i+1),by omega,i+1,c2,Lg2,rfl,by omega,hgr,kn,rfl⟩
   ·intro hc
    have hge:i=rows.length:=by have:¬i<rows.length:=(by simpa using hc);omega
    subst hge
    refine Qt ?_
    simp only[go_sem,X.next]
    refine Qa ?_
    simp only[go_sem,hgr.isOw]
    refine Qk ?_
    simp only[go_sem,Q6,Qad,Qll,List.mem_singleton,forall_eq,RS.op,hgr.isOw]
    refine⟨_,.c _ _ (hgr.frz kn (Qv _)),?_⟩
    have:=hK false _ kn.fin
    simp only[Qafc,hc']at this
    exact this
end Go.AE.Y

namespace Go.AE.Y
attribute [local instance] Classical.propDecidable
structure Wk (g:Nat→List Nat) (a:Int) (n:Nat) (S:List Bool) (T:List Nat):Prop where
 len:S.length=n
 s:∀x,S.getD x false=true→Rch g (fun z=>(z:Int)=a) 0 x
 t:∀x∈T,(x:Int)≠a→Rch g (fun z=>(z:Int)=a) 0 x
 c:∀x,S.getD x false=true→∀y∈g x,S.getD y false=true∨(y:Int)=a∨y∈T
 z:S.getD 0 false=true∨((0:Nat):Int)=a∨0∈T
 r:∀x∈T,x<n
variable {g:Nat→List Nat} {a:Int} {n:Nat} {S:List Bool} {T:List Nat} {b:Nat}
theorem Qa1 (n x:Nat):(List.replicate n false).getD x false=false:=by
 simp only[List.getD_eq_getElem?_getD,List.getElem?_replicate]
 split <;> rfl
theorem Wk.init (hn:0<n):Wk g a n (List.replicate n false) [0]:=by
 refine⟨by simp,fun x h=>?_,fun x hx ha=>?_,fun x h=>?_,.inr (.inr (by simp)),fun x hx=>?_⟩
 ·rw[Qa1]at h;simp at h
 ·simp at hx;subst hx;exact .refl (by simpa using ha)
 ·rw[Qa1]at h;simp at h
 ·simp at hx;omega
theorem Wk.skip (h:Wk g a n S (T++[b])) (hb:(b:Int)=a∨S.getD b false=true):Wk g a n S T:=by
 refine⟨h.len,h.s,fun x hx=>h.t x (List.mem_append_left _ hx),fun x hx y hy=>?_,?_,fun x hx=>h.r x (List.mem_append_left _ hx)⟩
 ·rcases h.c x hx y hy with h1|h1|h1
  ·exact .inl h1
  ·exact .inr (.inl h1)
  ·rcases List.mem_append.1 h1 with h1|h1
   ·exact .inr (.inr h1)
   ·simp at h1;subst h1
    rcases hb with hb|hb
    ·exact .inr (.inl hb)
    ·exact .inl hb
 ·rcases h.z with h1|h1|h1
  ·exact .inl h1
  ·exact .inr (.inl h1)
  ·rcases List.mem_append.1 h1 with h1|h1
   ·exact .inr (.inr h1)
   ·simp at h1;subst h1
    rcases hb with hb|hb
    ·exact .inr (.inl hb)
    ·exact .inl hb
theorem Wk.go (h:Wk g a n S (T++[b])) (hba:(b:Int)≠a) (hg:∀y∈g b,y<n):Wk g a n (S.set b true) (T++g b):=by
 have hb:=h.t b (by simp) hba
 have hbn:=h.r b (by simp)
 have hset:∀y,(S.set b true).getD y false=true↔y=b∨S.getD y false=true:=by
  intro y
  rw[Qnt]
  by_cases hyx:y=b
  ·simp[hyx,h.len,hbn]
  ·simp[hyx]
 refine⟨by simp[h.len],fun x hx=>?_,fun x hx ha=>?_,fun x hx y hy=>?_,?_,fun x hx=>?_⟩
 ·rcases (hset x).1 hx with rfl|hx
  ·exact hb
  ·exact h.s x hx
 ·rcases List.mem_append.1 hx with hx|hx
  ·exact h.t x (List.mem_append_left _ hx) ha
  ·exact hb.step hx ha
 ·rcases (hset x).1 hx with rfl|hx
  ·exact .inr (.inr (List.mem_append_right _ hy))
  ·rcases h.c x hx y hy with h1|h1|h1
   ·exact .inl ((hset y).2 (.inr h1))
   ·exact .inr (.inl h1)
   ·rcases List.mem_append.1 h1 with h1|h1
    ·exact .inr (.inr (List.mem_append_left _ h1))
    ·simp at h1;subst h1;exact .inl ((hset y).2 (.inl rfl))
 ·rcases h.z with h1|h1|h1
  ·exact .inl ((hset 0).2 (.inr h1))
  ·exact .inr (.inl h1)
  ·rcases List.mem_append.1 h1 with h1|h1
   ·exact .inr (.inr (List.mem_append_left _ h1))
   ·simp at h1;exact .inl ((hset 0).2 (.inl h1))
 ·rcases List.mem_append.1 hx with hx|hx
  ·exact h.r x (List.mem_append_left _ hx)
  ·exact hg x hx
theorem Wk.fin (h:Wk g a n S []):S=(List.range n).map (Qhd g a):=by
 have hh:∀x,S.getD x false=true↔Rch g (fun z=>(z:Int)=a) 0 x:=by
  refine fun x=>⟨h.s x,fun hr=>?_⟩
  induction hr with
  |refl h0=>
   rcases h.z with h1|h1|h1
   ·exact h1
   ·exact absurd h1 h0
   ·simp at h1
  |step h1 h2 h3 ih=>
   rcases h.c _ ih _ h2 with h4|h4|h4
   ·exact h4
   ·exact absurd h4 h3
   ·simp at h4
 refine List.ext_getElem? fun x=>?_
 by_cases hx:x<n
 ·have hxs:x<S.length:=by rw[h.len];exact hx
  have:=hh x
  simp only[List.getD_eq_getElem?_getD,List.getElem?_eq_getElem hxs,Option.getD_some]at this
  rw[List.getElem?_eq_getElem hxs]
  simp only[List.getElem?_map,List.getElem?_range hx,Option.map_some,Qhd]
  congr 1
  by_cases hr:Rch g (fun z=>(z:Int)=a) 0 x
  ·rw[this.2 hr,decide_eq_true hr]
  ·rw[decide_eq_false hr]
   cases hv:S[x]with
   |false=>rfl
   |true=>exact absurd (this.1 hv) hr
 ·rw[List.getElem?_eq_none (by rw[h.len];omega),List.getElem?_eq_none (by simp;omega)]
end Go.AE.Y

namespace Go.AE.Y
open Go.Proofs.Tryz
variable {H H0:Heap} {K:V→Heap→Prop}
theorem Qbg (n:Nat):List.replicate n [C.bool false]=Qm (List.replicate n false):=by simp[Qm]
theorem Qas (l:List Nat) (i:Nat) (h:i<l.length):(Qaa l).getD i []=[.int .i64 ((l.getD i 0:Nat):Int)]:=by
 simp[Qaa,Qf,List.getD_eq_getElem?_getD,h]
theorem Qu5 (a b:List Nat):Qaa (a++b)=Qaa a++Qaa b:=by simp[Qaa,Qf]
end Go.AE.Y

namespace Go.AE
variable {H0 F H:Heap} {E E0 E' L L1 L2 M:List (Nat×Obj)}
theorem Kn.startE (h:∀p∈E,H p.1=p.2∧p.2≠.none) (hd:(E.map Prod.fst).Nodup):Kn H H E []:=
 ⟨by simpa using h,fun p hp=>by rw[(h p hp).1];exact (h p hp).2,by simp,hd,by simp,fun _ _ _=>rfl⟩
theorem Kn.mid (k:Kn H0 F E0 (L1++L2)):Kn F F L1 []:=
 .startE (fun p hp=>k.get p (List.mem_append_right _ (List.mem_append_left _ hp))) (by
  have:=k.dL;rw[List.map_append]at this;exact (List.nodup_append.1 this).1)
theorem Kn.comp (k1:Kn H0 F E0 (L1++L2)) (k2:Kn F H E' M) (hE:E'.map Prod.fst=L1.map Prod.fst):Kn H0 H E0 ((E'++L2)++M):=by
 have hd:=k1.dL
 rw[List.map_append]at hd
 obtain⟨d1,d2,d3⟩:=List.nodup_append.1 hd
 have hE0:∀p∈E0,F p.1=p.2∧p.2≠.none:=fun p hp=>k1.get p (List.mem_append_left _ hp)
 have hL2:∀p∈L2,F p.1=p.2∧p.2≠.none:=fun p hp=>k1.get p (List.mem_append_right _ (List.mem_append_right _ hp))
 have inL1:∀p∈E',∃q∈L1,q.1=p.1:=fun p hp=>by
  have:=Qak hp;rw[hE]at this
  obtain⟨q,h1,h2⟩:=List.mem_map.1 this;exact⟨q,h1,h2⟩
 have keep:∀m,F m≠.none→m∉L1.map Prod.fst→H m=F m:=fun m h1 h2=>k2.chg m h1 (by rw[hE];exact h2)
 have hE0L:∀p∈E0,∀q∈L1,p.1≠q.1:=fun p hp q hq hh=>k1.ext p hp (hh▸k1.loc q (List.mem_append_left _ hq))
 refine⟨fun p hp=>?_,k1.ext,fun p hp=>?_,k1.dE,?_,fun m hm hn=>?_⟩
 ·rcases List.mem_append.1 hp with hp|hp
  ·obtain⟨h1,h2⟩:=hE0 p hp
   refine⟨?_,h2⟩
   rw[keep p.1 (by rw[h1];exact h2) (fun hh=>?_),h1]
   obtain⟨q,hq,hqq⟩:=List.mem_map.1 hh
   exact hE0L p hp q hq hqq.symm
  ·rcases List.mem_append.1 hp with hp|hp
   ·rcases List.mem_append.1 hp with hp|hp
    ·exact k2.get p (List.mem_append_left _ hp)
    ·obtain⟨h1,h2⟩:=hL2 p hp
     refine⟨?_,h2⟩
     rw[keep p.1 (by rw[h1];exact h2) (fun hh=>?_),h1]
     exact d3 _ hh _ (Qak hp) rfl
   ·exact k2.get p (List.mem_append_right _ hp)
 ·rcases List.mem_append.1 hp with hp|hp
  ·rcases List.mem_append.1 hp with hp|hp
   ·obtain⟨q,hq,hh⟩:=inL1 p hp
    rw[←hh];exact k1.loc q (List.mem_append_left _ hq)
   ·exact k1.loc p (List.mem_append_right _ hp)
  ·have h1:=k2.loc p hp
   cases h0:H0 p.1 with
   |none=>rfl
   |_=>
    by_cases hx:p.1∈E0.map Prod.fst
    ·obtain⟨q,hq,hh⟩:=List.mem_map.1 hx
     obtain⟨a1,a2⟩:=hE0 q hq
     rw[hh,h1]at a1;exact absurd a1.symm a2
    ·have:=k1.chg p.1 (by rw[h0];simp) hx
     rw[h1,h0]at this;simp at this
 ·rw[List.map_append,List.map_append]
  refine List.nodup_append.2 ⟨List.nodup_append.2 ⟨k2.dE,d2,fun a ha b hb=>?_⟩,k2.dL,fun a ha b hb hab=>?_⟩
  ·rw[hE]at ha;exact d3 a ha b hb
  ·obtain⟨q,hq,rfl⟩:=List.mem_map.1 hb
   have hf:=k2.loc q hq
   rcases List.mem_append.1 ha with ha|ha
   ·obtain⟨r,hr,rfl⟩:=List.mem_map.1 ha
    exact k2.ext r hr (hab▸hf)
   ·obtain⟨r,hr,rfl⟩:=List.mem_map.1 ha
    obtain⟨a1,a2⟩:=hL2 r hr
    rw[hab,hf]at a1;exact a2 a1.symm
 ·rw[keep m (by rw[k1.chg m hm hn];exact hm) (fun hh=>?_),k1.chg m hm hn]
  obtain⟨q,hq,rfl⟩:=List.mem_map.1 hh
  exact hm (k1.loc q (List.mem_append_left _ hq))
theorem Kn.upd (k:Kn H0 H E L):Upd H0 H E:=⟨fun p hp=>(k.get p (List.mem_append_left _ hp)).1,fun m hm hn=>k.chg m hm hn⟩
theorem Y.FrzL.ptr {S:Nat→Bool} {l:Nat} {cells cells':List C} (hS:S l=true) (hH:H l=.st cells) (h:FrzL H S cells cells'):FrzC H S (.ptr l 0) (.pp cells'):=by
 obtain⟨h1,h2⟩:=h.spec
 exact .ptr l 0 cells cells cells' hS hH rfl h1 h2
theorem Kn.growR {B Lg:List (Nat×Obj)} {K:V→Heap→Prop} {sz:Nat} {rows new:List (List C)} {b c:C} (kn:Kn H0 H E (B++Lg)) (hc:Gr Lg sz rows c) (hb:Slc H sz new b)
  (h1:∀r∈new,noOw r=true) (h2:rows.length+new.length≤LIM)
  (h:∀t Lg' H',Gr Lg' sz (rows++new) t→t.isOw=false→Kn H0 H' E (B++Lg')→K (.c t) H'):appQ H sz c b K:=
 kn.grow hc hb h1 h2 fun y' H' k=>h _ _ H' (.mk y' sz _ (by simp)) rfl k
end Go.AE

namespace Go.AE.Y
open Go.Proofs.Tryz
variable {H H0:Heap} {K:V→Heap→Prop}
def Qbd2 (x3 x4 x5:Nat) (p rg:Int) (bc:C):List C:=[.ptr x4 0,.pp [.int .i64 p,.int .i64 rg,bc],.ptr x5 0,.ptr x3 0]
def visE (x3 x4 x5 y n:Nat) (p rg:Int) (bc:C) (S:List Bool) (oc:C):List (Nat×Obj):=
 [(y,.vec 1 (Qm S)),(x3,.st [oc]),(x4,.st [.vsl y 1 0 n]),(x5,.st [.fn Q2s (Qbd2 x3 x4 x5 p rg bc)])]
end Go.AE.Y

namespace Go.AE.Y
variable {ns:List Int} {n:Int} {at':Nat}
structure InsAt (ns:List Int) (n:Int) (k:Nat):Prop where
 le:k≤ns.length
 lo:∀i,i<k→∀(h:i<ns.length),ns[i]<n
 hi:∀(h:k<ns.length),n≤ns[k]
theorem InsAt.mem_of_asc {k:Nat} (h:InsAt ns n k) (ha:ns.Pairwise (· < ·)):(∀x∈ns.take k,x<n)∧(∀x∈ns.drop k,n≤x)∧(∀x∈ns.drop (k+1),n<x):=by
 have hp:=List.pairwise_iff_getElem.1 ha
 refine⟨fun x hx=>?_,fun x hx=>?_,fun x hx=>?_⟩
 ·obtain⟨i,hi,rfl⟩:=List.mem_iff_getElem.1 hx
  rw[List.getElem_take]
  rw[List.length_take]at hi
  exact h.lo i (by omega) (by omega)
 ·obtain⟨i,hi,rfl⟩:=List.mem_iff_getElem.1 hx
  rw[List.getElem_drop]
  rw[List.length_drop]at hi
  have h1:=h.hi (by omega)
  by_cases h0:i=0
  ·subst h0;exact h1
  ·have:=hp k (k+i) (by omega) (by omega) (by omega)
   exact Int.le_trans h1 (Int.le_of_lt this)
 ·obtain⟨i,hi,rfl⟩:=List.mem_iff_getElem.1 hx
  rw[List.getElem_drop]
  rw[List.length_drop]at hi
  have h1:=h.hi (by omega)
  have:=hp k (k+1+i) (by omega) (by omega) (by omega)
  exact Int.lt_of_le_of_lt h1 this
theorem InsAt.new {k:Nat} (h:InsAt ns n k) (ha:ns.Pairwise (· < ·)) (hn:∀(h:k<ns.length),ns[k]≠n) :
  (ns.take k++[n]++ns.drop k).Pairwise (· < ·)∧(∀x,x∈ns.take k++[n]++ns.drop k↔x=n∨x∈ns):=by
 obtain⟨h1,h2,h3⟩:=h.mem_of_asc ha
 have h4:∀x∈ns.drop k,n<x:=by
  intro x hx
  have hk:k<ns.length:=by
   rcases Nat.lt_or_ge k ns.length with h|h
   ·exact h
   ·rw[List.drop_eq_nil_of_le h]at hx;simp at hx
  rw[List.drop_eq_getElem_cons hk]at hx
  rcases List.mem_cons.1 hx with rfl|hx
  ·have:=h.hi hk;have:=hn hk;omega
  ·exact h3 x hx
 refine⟨?_,fun x=>?_⟩
 ·rw[List.append_assoc,List.pairwise_append]
  refine⟨ha.sublist (List.take_sublist _ _),?_,fun a ha' b hb=>?_⟩
  ·rw[List.singleton_append,List.pairwise_cons]
   exact⟨h4,ha.sublist (List.drop_sublist _ _)⟩
  ·have:=h1 a ha'
   rcases List.mem_append.1 hb with hb|hb
   ·simp at hb;subst hb;exact this
   ·have:=h2 b hb;omega
 ·conv=>rhs;rw[←List.take_append_drop k ns]
  simp only[List.mem_append,List.mem_singleton]
  constructor
  ·rintro ((h|h)|h)
   ·exact .inr (.inl h)
   ·exact .inl h
   ·exact .inr (.inr h)
  ·rintro (h|h|h)
   ·exact .inl (.inr h)
   ·exact .inl (.inl h)
   ·exact .inr h
end Go.AE.Y

namespace Go.AE.Y
open Go.Proofs.Tryz
variable {H H0:Heap} {K:V→Heap→Prop}
theorem Qaer {c:C} {ns:List Int} {v:Int} (hs:Slc H 1 (Qf ns) c) (how:c.isOw=false) (hK:∀r,IsIx ns v r→K (.c (.int .i64 r)) H) :
  Qw prog Qnl [.c c,.c (.int .i64 v)] H K:=by
 refine Qb Qat Qbc8 ?_
 have hok:=eq_true hs.ok
 have hlen:=hs.len
 have hsz:=hs.sz
 have hrw:=hs.rows
 refine Qa ?_
 simp only[go_sem,how]
 refine Q3 ?_
 refine Qa ?_
 simp only[go_sem,how]
 refine Qh (Qc (Qu (fun m e1 H1=>∃(i:Nat),m=ns.length-i∧i≤ns.length∧H1=H∧v∉ns.take i∧e1=[(0,.c c),(1,.c (.int .i64 v)),(5,.c (.int .i64 i))]) ns.length ?_ ?_))
 ·exact⟨0,by omega,by omega,rfl,by simp,rfl⟩
 ·rintro m e1 H1 ⟨i,hm,hi,rfl,hno,rfl⟩
  refine Q3 ?_
  refine Qa ?_
  simp only[go_sem,how,hok,hlen,Qe]
  intro hl
  simp only[LIM]at hl
  refine Qh (Qd rfl ?_ ?_)
  ·intro hc
   have hlt:i<ns.length:=by simpa using hc
   have hgd:ns.getD i 0=ns[i]:=by simp[List.getD_eq_getElem?_getD,hlt]
   refine Qi ?_
   simp only[go_sem]
   refine Qh (Qc ?_)
   refine Qa ?_
   simp only[go_sem,how,hok,hlen,hsz,hrw,hlt,Qe,Qs _ _ hlt]
   refine Qd rfl ?_ ?_
   ·intro hc2
    have hv:ns.getD i 0=v:=by simpa using hc2
    refine Qa ?_
    simp only[go_sem]
    refine Qk ?_
    simp only[go_sem,X.next,Q6,Qad,Qar4,List.mem_singleton,forall_eq,RS.op]
    exact hK _ (.inr ⟨i,rfl,hlt,hv,hno⟩)
   ·intro hc2
    have hv:¬ns.getD i 0=v:=by simpa using hc2
    refine Qi ?_
    simp only[go_sem]
    refine Qq ?_
    simp only[go_sem,how,X.next]
    refine⟨Qo (by omega) (by omega),ns.length-(i+1),by omega,i+1,rfl,by omega,?_,rfl⟩
    rw[List.take_succ_eq_append_getElem hlt]
    simp only[List.mem_append,List.mem_singleton,not_or]
    exact⟨hno,fun h=>hv (by rw[hgd];exact h.symm)⟩
  ·intro hc
   have hge:ns.length≤i:=by simpa using hc
   rw[List.take_of_length_le hge]at hno
   refine Qt ?_
   simp only[go_sem,X.next]
   refine Qa ?_
   simp only[go_sem]
   refine Qk ?_
   simp only[go_sem,Q6,Qad,Qar4,List.mem_singleton,forall_eq,RS.op]
   exact hK _ (.inl ⟨rfl,hno⟩)
theorem Qbbe {a b:C} {ns ms:List Int} (hs:Slc H 1 (Qf ns) a) (how:a.isOw=false) (hs2:Slc H 1 (Qf ms) b) (how2:b.isOw=false) (hK:K (.c (.bool (decide (ns=ms)))) H) :
  Qw prog Qld [.c a,.c b] H K:=by
 refine Qb Qat Qars ?_
 have hok:=eq_true hs.ok
 have hlen:=hs.len
 have hsz:=hs.sz
 have hrw:=hs.rows
 have hok2:=eq_true hs2.ok
 have hlen2:=hs2.len
 have hsz2:=hs2.sz
 have hrw2:=hs2.rows
 refine Qa ?_
 simp only[go_sem,how,how2]
 refine Q3 ?_
 refine Qa ?_
 simp only[go_sem,how,how2,hok,hlen,hok2,hlen2,Qe]
 intro hl hl2
 simp only[LIM]at hl hl2
 have hmn:(if (ms.length:Int)<ns.length then (ms.length:Int)else ns.length)=((min ns.length ms.length:Nat):Int):=by split <;> omega
 simp only[hmn]
 refine Qh (Qc (Qu (fun m e1 H1=>∃(i:Nat),m=min ns.length ms.length-i∧i≤min ns.length ms.length∧H1=H∧ns.take i=ms.take i∧e1=[(0,.c a),(1,.c b),(10,.c (.int .i64 (min ns.length ms.length:Nat))),(11,.c (.int .i64 i))]) (min ns.length ms.length) ?_ ?_))
 ·exact⟨0,by omega,by omega,rfl,by simp,rfl⟩
 ·rintro m e1 H1 ⟨i,hm,hi,rfl,hsame,rfl⟩
  refine Qa ?_
  simp only[go_sem,how,how2]
  refine Qh (Qd rfl ?_ ?_)
  ·intro hc
   have hlt:i<min ns.length ms.length:=by
    have:=of_decide_eq_true hc
    omega
   have h1:i<ns.length:=by omega
   have h2:i<ms.length:=by omega
   have hgd:ns.getD i 0=ns[i]:=by simp[List.getD_eq_getElem?_getD,h1]
   have hgd2:ms.getD i 0=ms[i]:=by simp[List.getD_eq_getElem?_getD,h2]
   refine Qi ?_
   simp only[go_sem]
   refine Qh (Qc ?_)
   refine Qa ?_
   simp only[go_sem,how,how2]
   refine Qal ?_
   simp only[go_sem,how,how2,hok,hlen,hsz,hrw,hok2,hlen2,hsz2,hrw2,h1,h2,Qe,Qs _ _ h1,Qs _ _ h2]
   refine Qd rfl ?_ ?_
   ·intro hc2
    refine Qa ?_
    simp only[go_sem]
    refine Qk ?_
    simp only[go_sem,X.next,Q6,Qad,Qp9,List.mem_singleton,forall_eq,RS.op]
    have hne:ns≠ms:=by
     rintro rfl
     simp at hc2
    rw[decide_eq_false hne]at hK;exact hK
   ·intro hc2
    have hv:ns.getD i 0=ms.getD i 0:=by simpa using hc2
    refine Qi ?_
    simp only[go_sem]
    refine Qq ?_
    simp only[go_sem,how,how2,X.next]
    refine⟨Qo (by omega) (by omega),min ns.length ms.length-(i+1),by omega,i+1,rfl,by omega,?_,rfl⟩
    rw[List.take_succ_eq_append_getElem h1,List.take_succ_eq_append_getElem h2,hsame,←hgd,←hgd2,hv]
  ·intro hc
   have hge:min ns.length ms.length≤i:=by
    have:=of_decide_eq_false hc
    omega
   refine Qt ?_
   simp only[go_sem,X.next]
   refine Qa ?_
   simp only[go_sem,how,how2,hok,hlen,hok2,hlen2,Qe]
   intro _ _
   refine Qk ?_
   simp only[go_sem,Q6,Qad,Qp9,List.mem_singleton,forall_eq,RS.op]
   have:decide ((ns.length:Int)=ms.length)=decide (ns=ms):=by
    by_cases he:ns=ms
    ·simp[he]
    ·have:¬(ns.length:Int)=ms.length:=by
      intro hh
      refine he ?_
      have hh':ns.length=ms.length:=by omega
      rw[List.take_of_length_le (by omega),List.take_of_length_le (by omega)]at hsame
      exact hsame
     simp[he,this]
   rw[this];exact hK
set_option maxHeartbeats 1000000 in
theorem Qnv {fl:Bool} {ns:List Int} {n:Int} (ha:ns.Pairwise (· < ·)) (hL:ns.length+1≤2 ^ 38)
  (hK:∀(fl':Bool) (ns':List Int) (H':Heap),Upd H H' []→ns'.Pairwise (· < ·)→(∀x,x∈ns'↔x=n∨x∈ns)→ns'.length≤ns.length+1→K (.c (.sl fl' 1 (Qf ns'))) H') :
  Qw prog Qdp [.c (.sl fl 1 (Qf ns)),.c (.int .i64 n)] H K:=by
 refine Qz ?_
 refine Qb Qat Qa0k ?_
 have rest:∀i:Nat,InsAt ns n i→Qac prog Qzq (Q6 Qhs fun x H'=>∃x',FrzV H' (un H) x x'∧K x' (H'.frz (un H))) [(0,V.c (.sl fl 1 (Qf ns))),(1,.c (.int .i64 n)),(5,.c (.int .i64 i))] H:=by
  intro i hat
  have hile:=hat.le
  refine Q3 ?_
  refine Qa ?_
  have tail:∀e:Env,(∀(h:i<ns.length),ns[i]≠n)→lk 0 e=.c (.sl fl 1 (Qf ns))→lk 1 e=.c (.int .i64 n)→lk 5 e=.c (.int .i64 i)→Qac prog Qzp (Q6 Qhs fun x H'=>∃x',FrzV H' (un H) x x'∧K x' (H'.frz (un H))) e H:=by
   intro e hne l0 l1 l5
   obtain⟨q1,q2⟩:=hat.new ha hne
   have ht1:List.take i (Qf ns)=Qf (ns.take i):=by simp[Qf,List.map_take]
   have ht2:List.drop i (List.take ns.length (Qf ns))=Qf (ns.drop i):=by
    rw[List.take_of_length_le (by rw[Qe];exact Nat.le_refl _)];simp[Qf,List.map_drop]
   refine Qa ?_
   simp only[go_sem,l0,l1,l5,Qe,ht1]
   refine⟨by omega,?_⟩
   refine⟨.inl trivial,Qv _,by simp only[LIM,List.length_take];omega,fun z hz H1 h1=>?_⟩
   have kn:Kn H H1 [] ([]++[(z,.vec 1 (Qf (ns.take i)))]):=(Kn.start0 H).al hz h1
   simp only[go_sem,Qtz,l0,l1,l5]
   generalize ht6:C.vsl z 1 0 (0+(List.take i ns).length)=t6
   have hgr:Gr [(z,.vec 1 (Qf (ns.take i)))] 1 (Qf (ns.take i)) t6:=by rw[←ht6];exact .mk z 1 _ (by simp[Qe])
   have hw6:=hgr.isOw
   refine Qal ?_
   simp only[go_sem,hw6,Qe,ht2]
   refine⟨by omega,?_⟩
   refine kn.growR (new:=Qf [n]) hgr (.mk' _ _ _ _) (Qv _) (by simp only[Qe,LIM,List.length_take,List.length_nil,List.length_cons];omega) fun t7 Lg H2 hgr hw7 kn=>?_
   simp only[go_sem,Qt1,hw7,Qe,ht2]
   refine⟨by omega,?_⟩
   refine kn.growR (new:=Qf (ns.drop i)) hgr (.mk' _ _ _ _) (Qv _) (by simp only[Qe,LIM,List.length_take,List.length_drop,List.length_nil,List.length_cons,List.length_append];omega) fun t8 Lg H3 hgr hw8 kn=>?_
   simp only[go_sem,Qt0]
   refine Qk ?_
   simp only[go_sem,Q6,Qad,Qhs,List.mem_singleton,forall_eq,RS.op]
   have e0:Qf (ns.take i)++Qf [n]++Qf (ns.drop i)=Qf (ns.take i++[n]++ns.drop i):=by simp[Qf]
   rw[e0]at hgr
   refine⟨_,.c _ _ (hgr.frz kn (Qv _)),hK _ _ _ kn.fin q1 q2 ?_⟩
   simp;omega
  simp only[go_sem,Qe]
  by_cases hlt:i<ns.length
  ·have hgd:ns.getD i 0=ns[i]:=by simp[List.getD_eq_getElem?_getD,hlt]
   simp only[go_sem,hlt,Qe,Qs _ _ hlt]
   intro _
   refine Qh (Qd rfl ?_ ?_)
   ·intro hc2
    have he:ns[i]=n:=by rw[←hgd];simpa[hlt]using hc2
    refine Qa ?_
    simp only[go_sem]
    refine Qk ?_
    simp only[go_sem,Q6,Qad,Qhs,List.mem_singleton,forall_eq,RS.op]
    refine⟨_,.c _ _ (Qaem (noOw_mem (Qv _))),hK _ ns _ (Kn.start0 H).fin ha (fun x=>⟨.inr,?_⟩) (by omega)⟩
    rintro (rfl|h)
    ·rw[←he];exact List.getElem_mem hlt
    ·exact h
   ·intro hc2
    have he:ns[i]≠n:=by rw[←hgd];simpa[hlt]using hc2
    refine Qi ?_
    simp only[go_sem]
    exact tail _ (fun _=>he) rfl rfl rfl
  ·have hdf:decide ((i:Int)<(ns.length:Int))=false:=by simp;omega
   have hgo:(Qf ns).getD i []=[]:=by rw[List.getD_eq_getElem?_getD,List.getElem?_eq_none (by rw[Qe];omega)];rfl
   simp only[go_sem,hdf,hgo,Qe,cond_false]
   intro _
   refine Qh (Qd rfl ?_ ?_)
   ·intro hc2;simp at hc2
   ·intro _
    refine Qi ?_
    simp only[go_sem]
    exact tail _ (fun h=>absurd h hlt) rfl rfl rfl
 refine Qa ?_
 simp only[go_sem]
 refine Qa ?_
 simp only[go_sem]
 refine Qh (Qc (Qu (fun m e1 H1=>∃(i:Nat),m=ns.length-i∧i≤ns.length∧H1=H∧(∀k,k<i→∀(h:k<ns.length),ns[k]<n)∧e1=[(0,.c (.sl fl 1 (Qf ns))),(1,.c (.int .i64 n)),(5,.c (.int .i64 i))]) ns.length ?_ ?_))
 ·exact⟨0,by omega,by omega,rfl,fun k hk=>by omega,rfl⟩
 ·rintro m e1 H1 ⟨i,hm,hi,rfl,hlo,rfl⟩
  refine Q3 ?_
  refine Qa ?_
  by_cases hlt:i<ns.length
  ·have hgd:ns.getD i 0=ns[i]:=by simp[List.getD_eq_getElem?_getD,hlt]
   simp only[go_sem,hlt,Qe,Qs _ _ hlt]
   intro _
   refine Qh (Qd rfl ?_ ?_)
   ·intro hc
    have hv:ns[i]<n:=by rw[←hgd];simpa[hlt]using hc
    refine Qi ?_
    simp only[go_sem]
    refine Qc ?_
    refine Qq ?_
    simp only[go_sem,X.next]
    refine⟨Qo (by omega) (by omega),ns.length-(i+1),by omega,i+1,rfl,by omega,fun k hk h=>?_,rfl⟩
    by_cases h':k<i
    ·exact hlo k h' h
    ·have:k=i:=by omega
     subst this;exact hv
   ·intro hc
    have hv:¬ns[i]<n:=by rw[←hgd];simpa[hlt]using hc
    refine Qt ?_
    simp only[go_sem,X.next]
    exact rest i ⟨hi,hlo,fun _=>by omega⟩
  ·have hdf:decide ((i:Int)<(ns.length:Int))=false:=by simp;omega
   have hgo:(Qf ns).getD i []=[]:=by rw[List.getD_eq_getElem?_getD,List.getElem?_eq_none (by rw[Qe];omega)];rfl
   simp only[go_sem,hdf,hgo,Qe,cond_false]
   intro _
   refine Qh (Qd rfl ?_ ?_)
   ·intro hc2;simp at hc2
   ·intro _
    refine Qt ?_
    simp only[go_sem,X.next]
    exact rest i ⟨hi,hlo,fun h=>absurd h hlt⟩
end Go.AE.Y

namespace Go.AE.Y
attribute [local instance] Classical.propDecidable
variable {g:Nat→List Nat} {n h:Nat}
theorem rchB_iff {a:Int} {x:Nat}:Qhd g a x=true↔Rch g (fun z=>(z:Int)=a) 0 x:=by simp[Qhd]
theorem Qaka (b:Nat):Qhd g (b:Int) b=false:=by
 cases hc:Qhd g (b:Int) b with
 |false=>rfl
 |true=>exact absurd rfl (rchB_iff.1 hc).snd
theorem Qa3e (b:Nat):Qrh g b b=Qhd g (-1) b:=by simp[Qrh,Qaka]
theorem Qa3d {a b:Nat} (h:Qrh g a b=true):Qhd g (-1) a=true∧Qhd g (-1) b=true:=by
 simp only[Qrh,Bool.and_eq_true]at h
 exact⟨h.1.1,h.1.2⟩
structure BWk (n:Nat) (g:Nat→List Nat) (h:Nat) (O W:List Nat):Prop where
 asc:O.Pairwise (· < ·)
 o:∀x∈O,Bdy n g h x
 w:∀x∈W,Qhd g (-1) x=true→Bdy n g h x
 c:∀x∈O,x≠h→∀p∈Qafb n g x,Qhd g (-1) p=true→p∈O∨p∈W
 l:∀p∈Qafb n g h,Qrh g h p=true→p∈O∨p∈W
 h:h∈O
 r:∀x∈W,x<n
variable {O W:List Nat} {b:Nat}
theorem BWk.init:BWk n g h [h] ((Qafb n g h).filter (Qrh g h)):=by
 refine⟨by simp,fun x hx=>?_,fun x hx _=>?_,fun x hx hne=>?_,fun p hp hd=>.inr (List.mem_filter.2 ⟨hp,hd⟩),by simp,fun x hx=>(predL_mem.1 (List.mem_filter.1 hx).1).1⟩
 ·simp at hx;subst hx;exact .head
 ·exact .back (List.mem_filter.1 hx).1 (List.mem_filter.1 hx).2
 ·simp at hx;exact absurd hx hne
theorem BWk.skip (k:BWk n g h O (b::W)) (hb:b∈O∨Qhd g (-1) b=false):BWk n g h O W:=by
 refine⟨k.asc,k.o,fun x hx=>k.w x (List.mem_cons_of_mem _ hx),fun x hx hne p hp hi=>?_,fun p hp hd=>?_,k.h,fun x hx=>k.r x (List.mem_cons_of_mem _ hx)⟩
 ·rcases k.c x hx hne p hp hi with h1|h1
  ·exact .inl h1
  ·rcases List.mem_cons.1 h1 with rfl|h1
   ·rcases hb with hb|hb
    ·exact .inl hb
    ·rw[hb]at hi;simp at hi
   ·exact .inr h1
 ·rcases k.l p hp hd with h1|h1
  ·exact .inl h1
  ·rcases List.mem_cons.1 h1 with rfl|h1
   ·rcases hb with hb|hb
    ·exact .inl hb
    ·rw[(Qa3d hd).2]at hb;simp at hb
   ·exact .inr h1
theorem BWk.go {O':List Nat} (k:BWk n g h O (b::W)) (hbO:b∉O) (hi:Qhd g (-1) b=true) (h1:O'.Pairwise (· < ·)) (h2:∀x,x∈O'↔x=b∨x∈O):BWk n g h O' (W++Qafb n g b):=by
 have hB:=k.w b List.mem_cons_self hi
 have hbh:b≠h:=fun e=>hbO (e▸k.h)
 refine⟨h1,fun x hx=>?_,fun x hx hix=>?_,fun x hx hne p hp hip=>?_,fun p hp hd=>?_,(h2 h).2 (.inr k.h),fun x hx=>?_⟩
 ·rcases (h2 x).1 hx with rfl|hx
  ·exact hB
  ·exact k.o x hx
 ·rcases List.mem_append.1 hx with hx|hx
  ·exact k.w x (List.mem_cons_of_mem _ hx) hix
  ·exact .more hB hbh hx hix
 ·rcases (h2 x).1 hx with rfl|hx
  ·exact .inr (List.mem_append_right _ hp)
  ·rcases k.c x hx hne p hp hip with h3|h3
   ·exact .inl ((h2 p).2 (.inr h3))
   ·rcases List.mem_cons.1 h3 with rfl|h3
    ·exact .inl ((h2 p).2 (.inl rfl))
    ·exact .inr (List.mem_append_left _ h3)
 ·rcases k.l p hp hd with h3|h3
  ·exact .inl ((h2 p).2 (.inr h3))
  ·rcases List.mem_cons.1 h3 with rfl|h3
   ·exact .inl ((h2 p).2 (.inl rfl))
   ·exact .inr (List.mem_append_left _ h3)
 ·rcases List.mem_append.1 hx with hx|hx
  ·exact k.r x (List.mem_cons_of_mem _ hx)
  ·exact (predL_mem.1 hx).1
theorem BWk.fin (hh:h<n) (k:BWk n g h O []):O=Qa27 n g h:=by
 refine Qa23 k.asc Qa28 fun x=>?_
 rw[Qa29 hh]
 refine⟨k.o x,fun hb=>?_⟩
 induction hb with
 |head=>exact k.h
 |back h1 h2=>exact (k.l _ h1 h2).resolve_right (by simp)
 |more h1 h2 h3 h4 ih=>exact (k.c _ ih h2 _ h3 h4).resolve_right (by simp)
theorem BWk.len (k:BWk n g h O W) (hh:h<n):O.length≤n:=by
 have e:=Qait (n:=n) (p:=fun x=>decide (x∈O)) k.asc fun x=>⟨fun hx=>⟨(k.o x hx).lt hh,by simpa using hx⟩,fun hx=>by simpa using hx.2⟩
 have:=List.length_filter_le (fun x=>decide (x∈O)) (List.range n)
 rw[←e]at this
 simpa using this
end Go.AE.Y

namespace Go.AE.Y
open Go.Proofs.Tryz
variable {H H0:Heap} {K:V→Heap→Prop}
structure GF (rows:List (List C)) (nx:Nat→List Int):Prop where
 no:∀r∈rows,noOw r=true
 x:∀i,i<rows.length→∃a1 a2 a3 a4 fl,rows.getD i []=[a1,a2,a3,a4,.sl fl 1 (Qf (nx i))]
 n:rows.length≤10000
 m:∀i,i<rows.length→(nx i).length≤1000
theorem GF.grd {rows:List (List C)} {nx:Nat→List Int} (h:GF rows nx) (H:Heap) (fl:Bool):GRd H (.sl fl 5 rows) rows nx:=⟨.mk' _ _ _ _,rfl,h.no,h.x⟩
theorem Qaq7 {q:CodeD} (h:q.gd):GF (Ql q.blocks) (gnx q):=by
 refine⟨(Qf7 (fun _=>.none) q false).no,(Qf7 (fun _=>.none) q false).x,by rw[Qj];have:=h.b1;omega,fun i hi=>?_⟩
 rw[Qj]at hi
 have:gnx q i=q.blocks[i].next:=by simp[gnx,List.getD_eq_getElem?_getD,hi]
 rw[this]
 have:=h.n _ (List.getElem_mem hi);omega
noncomputable def inL (n:Nat) (g:Nat→List Nat):List Bool:=(List.range n).map (Qhd g (-1))
noncomputable def Qe5 (n:Nat) (g:Nat→List Nat) (a:Nat):List Bool:=(List.range n).map (Qrh g a)
noncomputable def Q16 (n:Nat) (g:Nat→List Nat) (k:Nat):List (List C):=(List.range k).map fun a=>[.sl false 1 (Qm (Qe5 n g a))]
theorem Qd2 (n:Nat) (f:Nat→Bool) {i:Nat} (h:i<n):((List.range n).map f).getD i false=f i:=by simp[List.getD_eq_getElem?_getD,h]
theorem Qaeq {n:Nat} {g:Nat→List Nat}:(inL n g).length=n:=by simp[inL]
theorem Qdl {n:Nat} {g:Nat→List Nat} {a:Nat}:(Qe5 n g a).length=n:=by simp[Qe5]
theorem Qnx {n:Nat} {g:Nat→List Nat} {k:Nat}:(Q16 n g k).length=k:=by simp[Q16]
theorem Qayq {n:Nat} {g:Nat→List Nat} {i:Nat} (h:i<n):(inL n g).getD i false=Qhd g (-1) i:=Qd2 _ _ h
theorem Q2l {n:Nat} {g:Nat→List Nat} {a i:Nat} (h:i<n):(Qe5 n g a).getD i false=Qrh g a i:=Qd2 _ _ h
theorem Q3k {n:Nat} {g:Nat→List Nat} {k a:Nat} (h:a<k):(Q16 n g k).getD a []=[.sl false 1 (Qm (Qe5 n g a))]:=by simp[Q16,List.getD_eq_getElem?_getD,h]
noncomputable def domC (p rg:Int) (fl:Bool) (rows:List (List C)) (g:Nat→List Nat):List C:=
 [.int .i64 p,.int .i64 rg,.sl fl 5 rows,.sl false 1 (Q16 rows.length g rows.length),.sl false 1 (Qm (inL rows.length g))]
noncomputable def ysL (n:Nat) (g:Nat→List Nat) (ys:List Nat):List (Nat×Obj):=ys.zipIdx.map fun x=>(x.1,.vec 1 (Qm (Qe5 n g x.2)))
def ysR (n:Nat) (ys:List Nat):List (List C):=ys.map fun y=>[.vsl y 1 0 n]
theorem Qbbf (n:Nat) (g:Nat→List Nat) (ys:List Nat) (y:Nat):ysL n g (ys++[y])=ysL n g ys++[(y,.vec 1 (Qm (Qe5 n g ys.length)))]:=by
 simp[ysL,List.zipIdx_append]
theorem Qbbg (n:Nat) (ys:List Nat) (y:Nat):ysR n (ys++[y])=ysR n ys++[[.vsl y 1 0 n]]:=by simp[ysR]
theorem Qbd4 (n:Nat) (ys:List Nat):(ysR n ys).length=ys.length:=by simp[ysR]
theorem Qbfj {S:Nat→Bool} {n:Nat} {g:Nat→List Nat} (ys:List Nat):∀(k:Nat),(∀p∈(ys.zipIdx k).map fun x=>(x.1,Obj.vec 1 (Qm (Qe5 n g x.2))),H p.1=p.2∧S p.1=true)→
  FrzR H S (ysR n ys) ((List.range' k ys.length).map fun a=>[.sl false 1 (Qm (Qe5 n g a))]):=by
 induction ys with
 |nil=>intro k _;exact .nil
 |cons y ys ih=>
  intro k h
  rw[List.zipIdx_cons,List.map_cons]at h
  obtain⟨h1,h2⟩:=h _ List.mem_cons_self
  simp only[List.length_cons,List.range'_succ,List.map_cons,ysR]
  refine .cons (.cons ((FrzR.same (Qf1 _)).vsl h2 h1 (by rw[Qx,Qdl])) .nil) (ih (k+1) fun p hp=>h p (List.mem_cons_of_mem _ hp))
theorem Qbd5 {S:Nat→Bool} {n:Nat} {g:Nat→List Nat} (ys:List Nat) (h:∀p∈ysL n g ys,H p.1=p.2∧S p.1=true):FrzR H S (ysR n ys) (Q16 n g ys.length):=by
 have:=Qbfj (H:=H) (S:=S) (n:=n) (g:=g) ys 0 h
 rw[←List.range_eq_range']at this
 exact this
end Go.AE.Y

namespace Go.AE.Y
open Go.Proofs.Tryz
variable {H H0:Heap} {K:V→Heap→Prop}
theorem Qajr (n:Nat) (f:Nat→Bool) {i:Nat} (h:i<n):((List.range i).map f++List.replicate (n-i) false).set i (f i)=(List.range (i+1)).map f++List.replicate (n-(i+1)) false:=by
 refine List.ext_getElem? fun j=>?_
 have e:n-i=(n-(i+1))+1:=by omega
 rw[e,List.replicate_succ,List.range_succ,List.map_append]
 rw[List.set_append]
 simp only[List.length_map,List.length_range,Nat.lt_irrefl,if_false,Nat.sub_self,List.set_cons_zero,List.map_cons,List.map_nil,List.append_assoc,List.singleton_append]
end Go.AE.Y

namespace Go.AE.Y
open Go.Proofs.Tryz
variable {H H0:Heap} {K:V→Heap→Prop}
end Go.AE.Y

namespace Go.AE.Y
variable {P:Program} {H:Heap} {g:G} {w:World}
end Go.AE.Y

namespace Go.AE.Y
structure Cmp (ns R:List Int) (k j:Nat):Prop where
 len:R.length=ns.length
 kj:k<j
 jn:j≤ns.length
 asc:(R.take k).Pairwise (· < ·)
 mem:∀x,x∈R.take k↔x∈ns.take j
 same:∀i,j≤i+1→R.getD i 0=ns.getD i 0
variable {ns R:List Int} {k j:Nat}
theorem take_mem {l:List Int} {j:Nat} {x:Int}:x∈l.take j↔∃i,i<j∧i<l.length∧l.getD i 0=x:=by
 constructor
 ·intro h
  obtain⟨i,hi,rfl⟩:=List.mem_iff_getElem.1 h
  rw[List.length_take]at hi
  refine⟨i,by omega,by omega,?_⟩
  rw[List.getElem_take,List.getD_eq_getElem?_getD,List.getElem?_eq_getElem (by omega)];rfl
 ·rintro⟨i,h1,h2,rfl⟩
  rw[List.getD_eq_getElem?_getD,List.getElem?_eq_getElem h2]
  exact List.mem_iff_getElem.2 ⟨i,by rw[List.length_take];omega,by rw[List.getElem_take];rfl⟩
theorem Qji {ns:List Int} (h:ns.Pairwise (·≤·)) {a b:Nat} (hab:a≤b) (hb:b<ns.length):ns.getD a 0≤ns.getD b 0:=by
 rcases Nat.lt_or_ge a b with h1|h1
 ·have:=List.pairwise_iff_getElem.1 h a b (by omega) hb h1
  simpa[List.getD_eq_getElem?_getD,hb,show a<ns.length by omega]using this
 ·have:a=b:=by omega
  subst this;exact Int.le_refl _
theorem Cmp.start (hs:ns.Pairwise (·≤·)) (hk0:0<k) (hk:k<ns.length) (hne:∀i,0<i→i<k→ns.getD i 0≠ns.getD (i-1) 0) (he:ns.getD k 0=ns.getD (k-1) 0):Cmp ns ns k (k+1):=by
 refine⟨rfl,by omega,by omega,?_,fun x=>?_,fun i _=>rfl⟩
 ·rw[List.pairwise_iff_getElem]
  intro a b ha hb hab
  rw[List.length_take]at ha hb
  rw[List.getElem_take,List.getElem_take]
  have h1:=Qji hs (a:=a) (b:=b-1) (by omega) (by omega)
  have h2:=Qji hs (a:=b-1) (b:=b) (by omega) (by omega)
  have h3:=hne b (by omega) (by omega)
  have e1:ns.getD a 0=ns[a]:=by simp[List.getD_eq_getElem?_getD,show a<ns.length by omega]
  have e2:ns.getD b 0=ns[b]:=by simp[List.getD_eq_getElem?_getD,show b<ns.length by omega]
  rw[e1]at h1;rw[e2]at h2 h3
  omega
 ·rw[take_mem,take_mem]
  constructor
  ·rintro⟨i,h1,h2,h3⟩;exact⟨i,by omega,h2,h3⟩
  ·rintro⟨i,h1,h2,h3⟩
   by_cases h:i<k
   ·exact⟨i,h,h2,h3⟩
   ·have:i=k:=by omega
    subst this
    exact⟨i-1,by omega,by omega,by rw[←he];exact h3⟩
theorem Cmp.ne (c:Cmp ns R k j) (hs:ns.Pairwise (·≤·)) (hj:j<ns.length) (he:ns.getD j 0≠ns.getD (j-1) 0):Cmp ns (R.set k (ns.getD j 0)) (k+1) (j+1):=by
 have hkj:=c.kj
 have hkl:k<R.length:=by rw[c.len];omega
 have htk:(R.set k (ns.getD j 0)).take (k+1)=R.take k++[ns.getD j 0]:=by
  rw[List.take_succ_eq_append_getElem (by rw[List.length_set];exact hkl),List.getElem_set_self]
  congr 1
  rw[List.take_set_of_le (Nat.le_refl _)]
 refine⟨by rw[List.length_set];exact c.len,by omega,by omega,?_,fun x=>?_,fun i hi=>?_⟩
 ·rw[htk,List.pairwise_append]
  refine⟨c.asc,by simp,fun a ha b hb=>?_⟩
  simp at hb;subst hb
  obtain⟨i,h1,h2,rfl⟩:=take_mem.1 ((c.mem a).1 ha)
  have h3:=Qji hs (a:=i) (b:=j-1) (by omega) (by omega)
  have h4:=Qji hs (a:=j-1) (b:=j) (by omega) hj
  simp only[List.getD_eq_getElem?_getD]at *
  omega
 ·rw[htk,List.mem_append,c.mem,take_mem,take_mem]
  simp only[List.mem_singleton]
  constructor
  ·rintro (⟨i,h1,h2,h3⟩|rfl)
   ·exact⟨i,by omega,h2,h3⟩
   ·exact⟨j,by omega,hj,rfl⟩
  ·rintro⟨i,h1,h2,h3⟩
   by_cases h:i<j
   ·exact .inl ⟨i,h,h2,h3⟩
   ·have:i=j:=by omega
    subst this;exact .inr h3.symm
 ·have:k≠i:=by omega
  rw[←c.same i (by omega)]
  simp[List.getD_eq_getElem?_getD,this]
def srt (ns:List Int):List Int:=ns.mergeSort fun x y=>decide (x≤y)
end Go.AE.Y

namespace Go.Proofs
open Go.Shelf
def Tryz.lays189_ren:Go.Shelf.Ren:=⟨fun|189=>135|125=>168|257=>167|128=>196|129=>197|294=>187|295=>188|296=>189|297=>190|298=>191|299=>192|216=>193|300=>194|301=>195|328=>209|329=>210|330=>211|331=>212|332=>213|215=>214|343=>229|n=>n,fun|28=>28|3=>3|46=>152|0=>0|51=>174|53=>176|4=>4|183=>167|182=>166|131=>171|5=>5|9=>9|218=>197|222=>201|228=>221|229=>222|n=>n,fun|n=>n⟩
end Go.Proofs

namespace Go.AE.Y
open Go.Proofs.Tryz
variable {H H0:Heap} {K:V→Heap→Prop} {E B Lg:List (Nat×Obj)}
def Qbey (ks:List Nat):List (C×V):=ks.map fun k:Nat=>(.int .i64 (k:Int),.c (.bool true))
end Go.AE.Y

namespace Go.AE.Y
open Go.Proofs.Tryz
variable {H H0:Heap} {K:V→Heap→Prop}
structure InB (n:Nat) (g:Nat→List Nat) (S:List Bool) (ks:List Nat):Prop where
 len:S.length=n
 s:∀x,x<n→S.getD x false=(decide (x∈ks) || !Qhd g (-1) x)
 nd:ks.Nodup
 lt:∀x∈ks,x<n
 i:∀x∈ks,Qhd g (-1) x=true
 c:ks.length≤cnt S
theorem InB.add {n:Nat} {g:Nat→List Nat} {S:List Bool} {ks:List Nat} {b:Nat} (h:InB n g S ks) (hb:b<n) (hbs:b∉ks) (hi:Qhd g (-1) b=true):S.getD b false=false∧InB n g (S.set b true) (ks++[b]):=by
 have hsb:S.getD b false=false:=by rw[h.s b hb];simp[hbs,hi]
 have hbS:b<S.length:=by rw[h.len];exact hb
 refine⟨hsb,by rw[List.length_set];exact h.len,fun x hx=>?_,?_,fun x hx=>?_,fun x hx=>?_,?_⟩
 ·rw[Qnt]
  by_cases hxb:x=b
  ·subst hxb;simp[hbS]
  ·simp only[hxb,false_and,if_false,List.mem_append,List.mem_singleton,or_false]
   exact h.s x hx
 ·refine List.nodup_append.2 ⟨h.nd,by simp,fun a ha c hc=>?_⟩
  simp at hc;subst hc;exact fun e=>hbs (e▸ha)
 ·rcases List.mem_append.1 hx with hx|hx
  ·exact h.lt x hx
  ·simp at hx;omega
 ·rcases List.mem_append.1 hx with hx|hx
  ·exact h.i x hx
  ·simp at hx;subst hx;exact hi
 ·rw[Q2k hbS hsb,List.length_append]
  have:=h.c
  simp;omega
def Qbeb (x5 x6:Nat) (dc:List C):List C:=[.ptr x5 0,.pp [.pp dc],.ptr x6 0]
def bdE (M x5 x6 ver:Nat) (dc:List C) (ks:List Nat):List (Nat×Obj):=
 [(M,.map ver (Qbey ks)),(x5,.st [.mp M]),(x6,.st [.fn Qrk (Qbeb x5 x6 dc)])]
end Go.AE.Y

namespace Go.AE.Y
open Go.Proofs.Tryz
variable {H H0:Heap} {K:V→Heap→Prop} {E B Lg:List (Nat×Obj)}
def Gw (Lg:List (Nat×Obj)) (sz:Nat) (rows:List (List C)) (c:C):Prop:=
 (c=.sl true sz []∧rows=[]∧Lg=[])∨∃y R,c=.vsl y sz 0 rows.length∧Lg=[(y,.vec sz R)]∧R.take rows.length=rows
theorem Gw.isOw {sz:Nat} {rows:List (List C)} {c:C} (h:Gw Lg sz rows c):c.isOw=false:=by rcases h with ⟨rfl,_⟩|⟨y,R,rfl,_⟩ <;> rfl
theorem Gw.frz {ns:List Int} {c:C} (h:Gw Lg 1 (Qf ns) c) (kn:Kn H0 H E (B++Lg)):FrzC H (un H0) c (.sl false 1 (Qf ns)):=by
 rcases h with ⟨rfl,h2,_⟩|⟨y,R,rfl,rfl,hR⟩
 ·rw[h2];exact FrzR.nil.sl
 ·have hle:(Qf ns).length≤R.length:=by
   have:=congrArg List.length hR
   rw[List.length_take]at this
   omega
  have h:=FrzR.same (H:=H) (S:=un H0) (Qv ns)
  exact .vsl y 1 0 _ R (Qf ns) (Qf ns) (Qd0 (kn.loc (y,.vec 1 R) (by simp))) (kn.get (y,.vec 1 R) (by simp)).1 (by omega) (by simpa using hR.symm) h.spec.1 (fun i r r' h1 h2=>(h.spec.2 i r r' h1 h2).spec.1) fun i r r' j c c' h1 h2 h3 h4=>(h.spec.2 i r r' h1 h2).spec.2 j c c' h3 h4
end Go.AE.Y

namespace Go.AE.Y
open Go.Proofs.Tryz
variable {H H0:Heap} {K:V→Heap→Prop} {E B Lg:List (Nat×Obj)}
noncomputable def Qben (n:Nat) (nx:Nat→List Int):List Nat:=if Qiu n nx then Qbfv n (nxN nx)else []
noncomputable def loopL (n:Nat) (nx:Nat→List Int) (h:Int):List Nat:=if ((Qben n nx).map Int.ofNat).contains h then Qa27 n (nxN nx) h.toNat else []
noncomputable def reachL (n:Nat) (nx:Nat→List Int):List Nat:=if Qiu n nx then (List.range n).filter (Qhd (nxN nx) (-1))else []
end Go.AE.Y

namespace Go.AE.Y
open Go.Proofs.Tryz
variable {H H0:Heap} {K:V→Heap→Prop} {E B Lg:List (Nat×Obj)}
theorem Q2g {n:Nat} {S:List Bool} {f:Nat→Bool} (hl:S.length=n) (h:∀x,x<n→S.getD x false=f x):S=(List.range n).map f:=by
 refine List.ext_getElem (by simp[hl]) fun i h1 h2=>?_
 have hi:i<n:=by rw[←hl];exact h1
 have:=h i hi
 simp only[List.getD_eq_getElem?_getD,List.getElem?_eq_getElem h1,Option.getD_some]at this
 simp[this]
theorem Qacz {n:Nat} {nx:Nat→List Int} {S:List Bool} {o:List Nat} (hf:Qiu n nx=true) (hd:Dfs (nxN nx) [0] (List.replicate n false) [] S o):S=inL n (nxN nx):=by
 have hn0:=Qrj hf
 have hgl:∀x,x<(List.replicate n false).length→∀y∈nxN nx x,y<(List.replicate n false).length:=by
  rw[List.length_replicate];exact fun x hx y hy=>Qajv hf hx hy
 have hx0:∀x∈[0],x<(List.replicate n false).length:=by rw[List.length_replicate];simpa using hn0
 have hl:=hd.len
 rw[List.length_replicate]at hl
 refine Q2g hl fun x hx=>?_
 have hs:=hd.seen hgl hx0 x
 rw[Qa1]at hs
 simp only[Bool.false_eq_true,false_or,List.mem_singleton,exists_eq_left]at hs
 rw[Bool.eq_iff_iff,hs,rchB_iff]
 exact⟨fun hr=>hr.mono fun z hz=>by omega,fun hr=>hr.mono fun z hz=>by rw[Qa1]at hz;simp at hz⟩
theorem Qacx {n:Nat} {nx:Nat→List Int} {S:List Bool} {o:List Nat} {a:Nat} (hf:Qiu n nx=true) (ha:a<n) (hd:Dfs (nxN nx) [0] ((List.replicate n false).set a true) [] S o) :
  S.set a false=(List.range n).map (Qhd (nxN nx) a):=by
 have hn0:=Qrj hf
 have hgl:∀x,x<((List.replicate n false).set a true).length→∀y∈nxN nx x,y<((List.replicate n false).set a true).length:=by
  rw[List.length_set,List.length_replicate];exact fun x hx y hy=>Qajv hf hx hy
 have hx0:∀x∈[0],x<((List.replicate n false).set a true).length:=by rw[List.length_set,List.length_replicate];simpa using hn0
 have hl:=hd.len
 rw[List.length_set,List.length_replicate]at hl
 refine Q2g (by rw[List.length_set];exact hl) fun x hx=>?_
 have hs0:∀z,((List.replicate n false).set a true).getD z false=true↔z=a:=by
  intro z
  rw[Qnt,List.length_replicate,Qa1]
  by_cases hz:z=a
  ·simp[hz,ha]
  ·simp[hz]
 have hset:(S.set a false).getD x false=if x=a then false else S.getD x false:=by
  simp only[List.getD_eq_getElem?_getD,List.getElem?_set]
  by_cases hxa:a=x
  ·subst hxa;simp[hl,ha]
  ·have:¬x=a:=fun h=>hxa h.symm
   simp[hxa,this]
 rw[hset]
 by_cases hxa:x=a
 ·subst hxa
  rw[if_pos rfl,Qaka]
 ·rw[if_neg hxa,Bool.eq_iff_iff,hd.seen hgl hx0 x,hs0,rchB_iff]
  simp only[hxa,false_or,List.mem_singleton,exists_eq_left]
  exact⟨fun hr=>hr.mono fun z hz=>(hs0 z).2 (by omega),fun hr=>hr.mono fun z hz=>by have:=(hs0 z).1 hz;omega⟩
theorem Qbbd {n:Nat} {g:Nat→List Nat}:((List.replicate n false).set 0 true).set 0 false=(List.range n).map (Qhd g (0:Nat)):=by
 refine Q2g (by simp) fun x hx=>?_
 have:Qhd g ((0:Nat):Int) x=false:=by
  cases hc:Qhd g ((0:Nat):Int) x with
  |false=>rfl
  |true=>exact absurd rfl (rchB_iff.1 hc).fst
 rw[this,List.set_set]
 have:(List.replicate n false).set 0 false=List.replicate n false:=by
  cases n with
  |zero=>rfl
  |succ n=>rfl
 rw[this,Qa1]
set_option maxHeartbeats 4000000 in
theorem Qaja {p rg:Int} {fl:Bool} {rows:List (List C)} {nx:Nat→List Int} (hg:GF rows nx) (hf:Qiu rows.length nx=true)
  (hK:∀H',Upd H H' []→K (.c (.sl false 1 (Q16 rows.length (nxN nx) rows.length))) H') :
  Qw prog Qnp [.ag [.int .i64 p,.int .i64 rg,.sl fl 5 rows]] H K:=by
 have hn:=hg.n
 have hn0:=Qrj hf
 have hyb:∀(y:Nat) l a b d,C.sl fl 5 rows=.vsl l a b d→l≠y:=by intro y l a b d h;cases h
 refine Qz ?_
 refine Qb Qat Qa4w ?_
 refine Qa ?_
 simp only[go_sem]
 refine Qa ?_
 simp only[go_sem]
 intro _
 refine Qa ?_
 simp only[go_sem]
 refine Qa ?_
 simp only[go_sem,Qbg]
 refine⟨by simp only[LIM];omega,fun al hal H1 h1=>?_⟩
 have kn:Kn H H1 [] ([(al,.vec 1 (Qm (List.replicate rows.length false)))]++[]):=(Kn.start0 H).al hal h1
 simp only[go_sem,Qxw]
 refine Qa ?_
 simp only[go_sem]
 refine Qu1 (F:=H1) hf (by omega) (hg.grd H1 fl) (hyb al) rows.length 0 (List.replicate rows.length false) [] (.sl true 1 []) [] H1 _ (by simp) (by omega) hn0 (Qa1 _ _) kn.mid (.nil 1) (by simp) fun S o oc Lg0 H2 hd k2 _=>?_
 have kn:Kn H H2 [] [(al,.vec 1 (Qm (inL rows.length (nxN nx))))]:=by
  have:=(kn.comp k2 rfl).drop
  rw[Qacz hf hd]at this
  exact this
 refine Q3 ?_
 refine Qa ?_
 simp only[go_sem]
 refine Qh (Qc (Qu (fun m e1 H1=>∃(ys:List Nat) (oc:C) (Lg:List (Nat×Obj)),m=rows.length-ys.length∧ys.length≤rows.length∧Gr Lg 1 (ysR rows.length ys) oc∧
  Kn H H1 [] (([(al,.vec 1 (Qm (inL rows.length (nxN nx))))]++ysL rows.length (nxN nx) ys)++Lg)∧
  e1=[(1,.c (.pp [.int .i64 p,.int .i64 rg,.sl fl 5 rows])),(3,.c (.int .i64 rows.length)),(4,.c oc),(5,.c (.vsl al 1 0 rows.length)),(6,.c (.int .i64 ys.length))]) rows.length ?_ ?_))
 ·exact⟨[],_,[],by simp,by simp,.nil 1,kn,rfl⟩
 ·rintro m e1 H3 ⟨ys,oc,Lg,hm,hi,hgr,kn,rfl⟩
  have hoc:=hgr.isOw
  refine Q3 ?_
  refine Qa ?_
  simp only[go_sem,hoc]
  refine Qh (Qd rfl ?_ ?_)
  ·intro hc
   have hlt:ys.length<rows.length:=by simpa using hc
   have hlti:ys.length<(inL rows.length (nxN nx)).length:=by rw[Qaeq];exact hlt
   refine Qi ?_
   simp only[go_sem]
   refine Qc6 (fun e2 H4=>∃(oc:C) (Lg:List (Nat×Obj)) (y:Nat),Gr Lg 1 (ysR rows.length (ys++[y])) oc∧
    Kn H H4 [] (([(al,.vec 1 (Qm (inL rows.length (nxN nx))))]++ysL rows.length (nxN nx) (ys++[y]))++Lg)∧
    lk 1 e2=.c (.pp [.int .i64 p,.int .i64 rg,.sl fl 5 rows])∧lk 3 e2=.c (.int .i64 rows.length)∧lk 4 e2=.c oc∧lk 5 e2=.c (.vsl al 1 0 rows.length)∧lk 6 e2=.c (.int .i64 ys.length)) ?_ ?_
   ·intro Q hnr _ _
    refine Qc ?_
    refine Qa ?_
    simp only[go_sem,hoc,Qbg]
    refine⟨by simp only[LIM];omega,fun y2 hy2 H4 h4=>?_⟩
    have kn:Kn H H4 [] ([(y2,.vec 1 (Qm (List.replicate rows.length false)))]++([(al,.vec 1 (Qm (inL rows.length (nxN nx))))]++(ysL rows.length (nxN nx) ys++Lg))):=
     (kn.al hy2 h4).perm (Qr fun f hf h0 hc hp=>by simp only[hf];omega)
    have hy:=kn.l 0 rfl
    have hr0:ys.length<(List.replicate rows.length false).length:=by rw[List.length_replicate];exact hlt
    simp only[go_sem,Qxx]
    refine Qa ?_
    have htk0:∀(S:List Bool),S.length=rows.length→(Qm S).take rows.length=Qm S:=fun S h=>List.take_of_length_le (by rw[Qx];omega)
    simp only[go_sem,hoc,hy,hlt,Qx,List.length_replicate,Q0 _ _ hr0,Qbh,Nat.zero_add,Nat.le_refl]
    intro H5 h5
    have kn:Kn H H5 [] ([(y2,.vec 1 (Qm ((List.replicate rows.length false).set ys.length true)))]++([(al,.vec 1 (Qm (inL rows.length (nxN nx))))]++(ysL rows.length (nxN nx) ys++Lg))):=kn.stL 0 rfl h5
    refine Q3 ?_
    refine Qa ?_
    simp only[go_sem,hoc]
    have rest:∀(e:Env) (H6:Heap),lk 1 e=.c (.pp [.int .i64 p,.int .i64 rg,.sl fl 5 rows])→lk 3 e=.c (.int .i64 rows.length)→lk 4 e=.c oc→lk 5 e=.c (.vsl al 1 0 rows.length)→lk 6 e=.c (.int .i64 ys.length)→lk 7 e=.c (.vsl y2 1 0 rows.length)→
      Kn H H6 [] ([(y2,.vec 1 (Qm ((List.range rows.length).map (Qhd (nxN nx) ys.length))))]++([(al,.vec 1 (Qm (inL rows.length (nxN nx))))]++(ysL rows.length (nxN nx) ys++Lg)))→
      Qac prog Qxv Q e H6:=by
     intro e H6 l1 l3 l4 l5 l6 l7 kn
     refine Qa ?_
     simp only[go_sem,l1,l3,l4,l5,l6,l7,Qbg]
     refine⟨by simp only[LIM];omega,fun y3 hy3 H7 h7=>?_⟩
     have kn:Kn H H7 [] ([(y3,.vec 1 (Qm (List.replicate rows.length false)))]++([(y2,.vec 1 (Qm ((List.range rows.length).map (Qhd (nxN nx) ys.length))))]++([(al,.vec 1 (Qm (inL rows.length (nxN nx))))]++(ysL rows.length (nxN nx) ys++Lg)))):=
      (kn.al hy3 h7).perm (Qr fun f hf h0 hc hp=>by simp only[hf];omega)
     simp only[go_sem,Qxy,l1,l3,l4,l5,l6,l7]
     refine Q3 ?_
     refine Qa ?_
     simp only[go_sem,hoc]
     refine Qh (Qc (Qu (fun m e1 H1=>∃b:Nat,m=rows.length-b∧b≤rows.length∧
      Kn H H1 [] ([(y3,.vec 1 (Qm ((List.range b).map (Qrh (nxN nx) ys.length)++List.replicate (rows.length-b) false)))]++([(y2,.vec 1 (Qm ((List.range rows.length).map (Qhd (nxN nx) ys.length))))]++([(al,.vec 1 (Qm (inL rows.length (nxN nx))))]++(ysL rows.length (nxN nx) ys++Lg))))∧
      e1=[(1,.c (.pp [.int .i64 p,.int .i64 rg,.sl fl 5 rows])),(3,.c (.int .i64 rows.length)),(4,.c oc),(5,.c (.vsl al 1 0 rows.length)),(6,.c (.int .i64 ys.length)),(7,.c (.vsl y2 1 0 rows.length)),(8,.c (.vsl y3 1 0 rows.length)),(9,.c (.int .i64 b))]) rows.length ?_ ?_))
     ·exact⟨0,by omega,by omega,by simpa using kn,rfl⟩
     ·rintro m2 e1 H8 ⟨b,hm2,hb,kn,rfl⟩
      have hy3:=kn.l 0 rfl
      have hy2:=kn.l 1 rfl
      have hal:=kn.l 2 rfl
      have hyl:((List.range b).map (Qrh (nxN nx) ys.length)++List.replicate (rows.length-b) false).length=rows.length:=by simp;omega
      refine Q3 ?_
      refine Qa ?_
      simp only[go_sem,hoc]
      refine Qh (Qd rfl ?_ ?_)
      ·intro hc2
       have hbl:b<rows.length:=by simpa using hc2
       have hbi:b<(inL rows.length (nxN nx)).length:=by rw[Qaeq];exact hbl
       have hbr:b<((List.range rows.length).map (Qhd (nxN nx) ys.length)).length:=by simpa using hbl
       have hby:b<((List.range b).map (Qrh (nxN nx) ys.length)++List.replicate (rows.length-b) false).length:=by rw[hyl];exact hbl
       have t1:=htk0 (inL rows.length (nxN nx)) Qaeq
       have t2:=htk0 ((List.range rows.length).map (Qhd (nxN nx) ys.length)) (by simp)
       have t3:=htk0 _ hyl
       refine Qi ?_
       simp only[go_sem]
       refine Qh (Qc ?_)
       refine Qq ?_
       simp only[go_sem,hoc,hy3,hy2,hal,hbl,hlt,t1,t2,t3,Qx,hyl,Qaeq,List.length_map,List.length_range,Q0 _ _ hlti,Qayq hlt,Q0 _ _ hbi,Qayq hbl,Q0 _ _ hbr,Qd2 _ _ hbl,Q0 _ _ hby,Qbh,Nat.zero_add,Nat.le_refl]
       intro H9 h9
       have kn:=kn.stL 0 rfl h9
       refine Qq ?_
       simp only[go_sem,hoc,X.next]
       refine⟨Qo (by omega) (by omega),rows.length-(b+1),by omega,b+1,rfl,by omega,?_,rfl⟩
       rw[←Qajr _ _ hbl]
       have:Qrh (nxN nx) ys.length b=(bif (bif Qhd (nxN nx) (-1) ys.length then Qhd (nxN nx) (-1) b else false)then !Qhd (nxN nx) (↑ys.length) b else false):=by
        simp only[Qrh]
        cases Qhd (nxN nx) (-1) ys.length <;> cases Qhd (nxN nx) (-1) b <;> rfl
       rw[this]
       exact kn
      ·intro hc2
       have hbe:b=rows.length:=by have:¬b<rows.length:=(by simpa using hc2);omega
       subst hbe
       refine Qt ?_
       simp only[go_sem,X.next]
       refine Qq ?_
       simp only[go_sem,hoc]
       have kn:Kn H H8 [] (([(al,.vec 1 (Qm (inL rows.length (nxN nx))))]++ysL rows.length (nxN nx) (ys++[y3]))++Lg):=by
        have hrow:(List.range rows.length).map (Qrh (nxN nx) ys.length)++List.replicate (rows.length-rows.length) false=Qe5 rows.length (nxN nx) ys.length:=by simp[Qe5]
        rw[hrow]at kn
        have:=kn.perm (L':=(([(al,.vec 1 (Qm (inL rows.length (nxN nx))))]++ysL rows.length (nxN nx) (ys++[y3]))++Lg)++[(y2,.vec 1 (Qm ((List.range rows.length).map (Qhd (nxN nx) ys.length))))]) (Qr fun f hf h0 hc hp=>by simp only[Qbbf,hf];omega)
        exact this.drop
       refine kn.growR (new:=[[.vsl y3 1 0 rows.length]]) hgr (.mk' _ _ _ _) (by simp[Go.AE.noOw,C.isOw]) (by simp only[Qbd4,LIM,List.length_cons,List.length_nil];omega) fun t Lg' H9 hgr ht kn=>?_
       simp only[go_sem,Qxz,ht]
       refine hnr _ _ ⟨t,Lg',y3,?_,kn,rfl,rfl,rfl,rfl,rfl⟩
       rw[Qbbg];exact hgr
    refine Qh (Qd rfl ?_ ?_)
    ·intro ha
     have ha0:ys.length≠0:=by simpa using ha
     refine Qa ?_
     simp only[go_sem,hoc]
     refine Qu1 (F:=H5) hf (by omega) (hg.grd H5 fl) (hyb y2) rows.length 0 ((List.replicate rows.length false).set ys.length true) [] (.sl true 1 []) [] H5 _ (by simp) (by omega) hn0 (by rw[Qnt,Qa1,if_neg (by omega)]) kn.mid (.nil 1) (by simp) fun S o oc' Lg0 H6 hd k2 _=>?_
     have hSl:=hd.len
     rw[List.length_set,List.length_replicate]at hSl
     have kn:Kn H H6 [] ([(y2,.vec 1 (Qm S))]++([(al,.vec 1 (Qm (inL rows.length (nxN nx))))]++(ysL rows.length (nxN nx) ys++Lg))):=(kn.comp k2 rfl).drop
     have hy:=kn.l 0 rfl
     have hyS:ys.length<S.length:=by omega
     refine Qq ?_
     simp only[go_sem,hoc,hy,hlt,Qx,hSl,htk0 S hSl,Q0 _ _ hyS,Qbh,Nat.zero_add,Nat.le_refl]
     intro H7 h7
     have kn:=kn.stL 0 rfl h7
     refine rest _ H7 rfl rfl rfl rfl rfl rfl ?_
     rw[←Qacx hf hlt hd];exact kn
    ·intro ha
     have ha0:ys.length=0:=by simpa using ha
     have hy:=kn.l 0 rfl
     have hyS:ys.length<((List.replicate rows.length false).set ys.length true).length:=by simpa using hlt
     refine Qq ?_
     simp only[go_sem,hoc,hy,hlt,Qx,List.length_set,List.length_replicate,Q0 _ _ hyS,Qbh,Nat.zero_add,Nat.le_refl]
     intro H7 h7
     have kn:=kn.stL 0 rfl h7
     refine rest _ H7 rfl rfl rfl rfl rfl rfl ?_
     have:=Qbbd (n:=rows.length) (g:=nxN nx)
     rw[ha0]at kn⊢
     rw[←this];exact kn
   ·rintro e2 H4 ⟨oc2,Lg2,y,hgr,kn,l1,l3,l4,l5,l6⟩
    refine Qq ?_
    simp only[go_sem,X.next,l1,l3,l4,l5,l6]
    exact⟨Qo (by omega) (by omega),rows.length-(ys.length+1),by omega,ys++[y],oc2,Lg2,by simp,by simp;omega,hgr,kn,by simp⟩
  ·intro hc
   have hge:ys.length=rows.length:=by have:¬ys.length<rows.length:=(by simpa using hc);omega
   refine Qt ?_
   simp only[go_sem,X.next]
   refine Qa ?_
   simp only[go_sem,hoc]
   refine Qk ?_
   simp only[go_sem,Q6,Qad,Qaj1,List.mem_singleton,forall_eq,RS.op,hoc]
   have hfr:=Qbd5 (H:=H3) (S:=un H) (n:=rows.length) (g:=nxN nx) ys (fun q hq=>⟨(kn.get q (by simp[hq])).1,Qd0 (kn.loc q (by simp[hq]))⟩)
   rw[hge]at hfr
   exact⟨_,.c _ _ (hgr.frzR kn hfr),hK _ kn.fin⟩
end Go.AE.Y

namespace Go.AE.Y
open Go.Proofs.Tryz
def Qsu:List Item:=mJ 3 12::[]
def Qsv:List Item:=.chk 6 none (.ld 3 true (.t 1))::aJ 12 Qdo [.t 6,kI 0,.t 10,.t 11]::Qsu
def Qsw:List Item:=mJ 4 27::[]
def Qakr:SC:=(.reg ( mJ 19 5::cJ 20 .sub 19 1::mJ 5 20::[]) [3,4,5])
def Qaks:SC:=(.seq (.block 1 (.reg ( mJ 21 4::mJ 22 3::mJ 23 5::iJ 24 1 22 23::lJ 25 24::fI 26 (.bsl 1 [.t 25])::eI 27 (.app 1 (.t 21) (.t 26))::Qsw) [3,4,5])) Qakr)
def Qafx:SC:=(.seq (.seq (.reg ( mJ 17 5::cJ 18 .geq 17 0::[]) [3,4,5,18]) (.cond (.t 18) .skip (.exit 0))) Qaks)
def Qakt:SC:=(.seq (.reg ( mJ 28 4::mJ 2 28::[]) [2]) .ret)
def Qaku:SC:=(.seq (.seq (.reg ( mJ 14 3::nJ 15 14::cJ 16 .sub 15 1::mJ 5 16::[]) [3,4,5]) (.block 0 (.loop Qafx))) Qakt)
def Qakv:SC:=(.seq (.reg ( fI 13 (.bsl 1 [])::mJ 4 13::[]) [3,4]) Qaku)
def Qakw:SC:=(.seq (.dreg 8 [0,1,2,3,5,4,0,6,7] ( tJ 6 3 1::fJ 7 2 1::lJ 8 7::nJ 9 8::fI 11 (.bsl 1 [])::eI 10 (.mks 1 [.bool false] (.t 9))::Qsv) [3]) Qakv)
def Qa00:SC:=(.seq (.reg ( fI 1 (.box (.t 0))::fI 2 (.mv (.k (.c (.sl true 1 []))))::[]) [1]) Qakw)
def Qadk:List RS:=[.tmp 2]
theorem Qa0d:mFn prog Qiy 1 29 Qa00 Qadk=true:=by kernel_rfl
def Qo0:List Item:=mJ 3 17::[]
def Qaf5:SC:=(.reg ( mJ 10 4::cJ 11 .add 10 1::mJ 4 11::[]) [0,3,4])
def Qaf6:SC:=(.seq (.block 1 (.reg ( mJ 12 3::mJ 13 0::mJ 14 4::iJ 15 1 13 14::lJ 16 15::aJ 17 Qdp [.t 12,.t 16]::Qo0) [0,3,4])) Qaf5)
def Qaat:SC:=(.seq (.seq (.reg ( mJ 6 4::mJ 7 0::nJ 8 7::bJ 9 .lss 6 8::[]) [0,3,4,9]) (.cond (.t 9) .skip (.exit 0))) Qaf6)
def Qaf7:SC:=(.seq (.reg ( mJ 18 3::mJ 2 18::[]) [2]) .ret)
def Qaf8:SC:=(.seq (.seq (.reg ( fI 4 (.mv (kI 0))::[]) [0,3,4]) (.block 0 (.loop Qaat))) Qaf7)
def Qaf9:SC:=(.seq (.reg ( fI 5 (.bsl 1 [])::mJ 3 5::[]) [0,3]) Qaf8)
def Qasx:SC:=(.seq (.reg ( fI 2 (.mv (.k (.c (.sl true 1 []))))::[]) [0]) Qaf9)
def Q3u:List RS:=[.tmp 2]
theorem Qarj:mFn prog Qk5 1 19 Qasx Q3u=true:=by kernel_rfl
def Qih:List Item:=oJ 5 4::[]
def Q1v:SC:=(.cond (.t 5) (.seq (.reg ( fI 6 (.bsl 1 [])::mJ 2 6::[]) [2]) .ret) .skip)
def Qii:List Item:=mJ 2 9::[]
def Qij:List Item:=aJ 9 Qk5 [.t 8]::Qii
def Q1w:SC:=(.seq (.reg ( tJ 7 3 1::aJ 8 Qiy [.t 7]::Qij) [2]) .ret)
def Q1x:SC:=(.seq (.seq (.reg ( tJ 3 3 1::aJ 4 Qul [.t 3]::Qih) [1,5]) Q1v) Q1w)
def Qacv:SC:=(.seq (.reg ( fI 1 (.box (.t 0))::fI 2 (.mv (.k (.c (.sl true 1 []))))::[]) [1]) Q1x)
def Qoo:List RS:=[.tmp 2]
theorem Q9x:mFn prog Qfh 1 10 Qacv Qoo=true:=by kernel_rfl
def Qs1:List Item:=mJ 5 9::[]
def Qale:SC:=(.reg ( mJ 13 6::cJ 14 .add 13 1::mJ 6 14::[]) [0,1,5,6])
def Qalf:SC:=(.seq (.block 1 (.reg ( mJ 15 5::mJ 16 6::iJ 17 1 15 16::.e none none (.sto 1 (.t 17) (kI (-1)))::[]) [0,1,5,6])) Qale)
def Qaf3:SC:=(.seq (.seq (.reg ( mJ 10 6::mJ 11 0::bJ 12 .lss 10 11::[]) [0,1,5,6,12]) (.cond (.t 12) .skip (.exit 0))) Qalf)
def Qalg:SC:=(.reg ( mJ 22 7::cJ 23 .add 22 1::mJ 7 23::[]) [1,5,7])
def Qalh:SC:=(.seq (.block 3 (.reg ( mJ 24 5::mJ 25 1::mJ 26 7::iJ 27 1 25 26::lJ 28 27::mJ 29 7::iJ 30 1 24 28::.e none none (.sto 1 (.t 30) (.t 29))::[]) [1,5,7])) Qalg)
def Qaf4:SC:=(.seq (.seq (.reg ( mJ 18 7::mJ 19 1::nJ 20 19::bJ 21 .lss 18 20::[]) [1,5,7,21]) (.cond (.t 21) .skip (.exit 2))) Qalh)
def Qali:SC:=(.seq (.reg ( mJ 31 5::mJ 4 31::[]) [4]) .ret)
def Qalj:SC:=(.seq (.seq (.reg ( fI 7 (.mv (kI 0))::[]) [1,5,7]) (.block 2 (.loop Qaf4))) Qali)
def Qalk:SC:=(.seq (.seq (.reg ( fI 6 (.mv (kI 0))::[]) [0,1,5,6]) (.block 0 (.loop Qaf3))) Qalj)
def Qaf2:SC:=(.seq (.reg ( mJ 8 0::eI 9 (.mks 1 [.int .i64 0] (.t 8))::Qs1) [0,1,5]) Qalk)
def Qa01:SC:=(.seq (.reg ( fI 4 (.mv (.k (.c (.sl true 1 []))))::[]) [0,1]) Qaf2)
def Qadl:List RS:=[.tmp 4]
theorem Qa0e:mFn prog Qp0 2 32 Qa01 Qadl=true:=by kernel_rfl
def Qxk:List Item:=mJ 5 20::[]
def Qxl:List Item:=.e none none (.sto 3 (.t 6) (.t 25))::[]
def Qxm:List Item:=.chk 33 none (.ld 1 false (.t 32))::.chk 36 none (.iad 1 (.t 34) (.t 35))::.chk 37 none (.ld 1 false (.t 36))::.chk 38 none (.iad 5 (.t 33) (.t 37))::.chk 39 none (.ld 5 true (.t 38))::.e none none (.sto 5 (.t 8) (.t 40))::[]
def Qxn:List Item:=eI 8 (.alloc [.sl true 2 [],.sl true 4 [],.int .i64 0,.int .i64 0,.sl true 1 []])::Qxm
def Qast:SC:=(.reg ( mJ 46 9::cJ 47 .add 46 1::mJ 9 47::[]) [1,2,4,5,6,7,8,9])
def Qasu:SC:=(.seq (.block 3 (.dreg 13 [0,1,2,3,4,5,6,7,8,9,10,11,12] ( fJ 48 4 8::lJ 49 48::mJ 50 9::mJ 51 5::fJ 52 4 8::lJ 53 52::mJ 54 9::iJ 55 1 53 54::lJ 56 55::iJ 57 1 51 56::lJ 58 57::iJ 59 1 49 50::.e none none (.sto 1 (.t 59) (.t 58))::[]) [1,2,4,5,6,7,8,9])) Qast)
def Qald:SC:=(.seq (.seq (.reg ( mJ 41 9::fJ 42 4 8::lJ 43 42::nJ 44 43::bJ 45 .lss 41 44::[]) [1,2,4,5,6,7,8,9,45]) (.cond (.t 45) .skip (.exit 2))) Qasu)
def Qxo:List Item:=fJ 65 2 6::.e none none (.sto 1 (.t 65) (.t 64))::[]
def Qasv:SC:=(.reg ( fJ 60 2 6::lJ 61 60::tJ 62 5 8::fI 63 (.bsl 5 [.t 62])::eI 64 (.app 5 (.t 61) (.t 63))::Qxo) [1,2,4,5,6,7])
def Qasw:SC:=(.seq (.seq (.reg ( fI 9 (.mv (kI 0))::[]) [1,2,4,5,6,7,8,9]) (.block 2 (.loop Qald))) (.seq .gh Qasv))
def Qakx:SC:=(.reg ( mJ 30 7::cJ 31 .add 30 1::mJ 7 31::[]) [1,2,4,5,6,7])
def Qaky:SC:=(.seq (.block 1 (.seq (.dreg 9 [0,1,2,3,4,5,6,7,8,9,1,4,5,6,7,10] ( fJ 32 2 2::lJ 33 32::mJ 34 1::mJ 35 7::iJ 36 1 34 35::lJ 37 36::iJ 38 5 33 37::tJ 39 5 38::aJ 40 Qd1 [.t 39]::Qxn) [1,2,4,5,6,7,8]) Qasw)) Qakx)
def Qafy:SC:=(.seq (.seq (.reg ( mJ 26 7::mJ 27 1::nJ 28 27::bJ 29 .lss 26 28::[]) [1,2,4,5,6,7,29]) (.cond (.t 29) .skip (.exit 0))) Qaky)
def Qsx:List Item:=mJ 11 77::[]
def Qsy:List Item:=mJ 12 80::[]
def Qsz:List Item:=mJ 14 122::[]
def Qs0:List Item:=.chk 101 none (.ld 1 false (.t 100))::.chk 103 none (.iad 5 (.t 101) (.t 102))::.chk 105 none (.ld 1 false (.t 104))::.chk 107 none (.iad 2 (.t 105) (.t 106))::.chk 109 none (.ld 1 false (.t 108))::iJ 119 1 109 118::lJ 120 119::fI 121 (.bsl 1 [.t 120])::eI 122 (.app 1 (.t 99) (.t 121))::Qsz
def Qakz:SC:=(.reg ( mJ 97 15::cJ 98 .add 97 1::mJ 15 98::[]) [1,2,4,6,10,11,12,13,14,15])
def Qak0:SC:=(.seq (.block 9 (.dreg 25 [0,1,2,3,4,5,6,7,8,9,10,11,12,13,14,15,16,17,18,19,2,4,6,8,10,20,21,22,23,24] ( mJ 99 14::fJ 100 2 6::lJ 101 100::mJ 102 10::iJ 103 5 101 102::fJ 104 0 103::lJ 105 104::mJ 106 13::iJ 107 2 105 106::fJ 108 1 107::lJ 109 108::mJ 110 11::mJ 111 1::mJ 112 12::mJ 113 15::iJ 114 1 112 113::lJ 115 114::iJ 116 1 111 115::lJ 117 116::aJ 118 Qnl [.t 110,.t 117]::Qs0) [1,2,4,6,10,11,12,13,14,15])) Qakz)
def Qafz:SC:=(.seq (.seq (.reg ( mJ 93 15::mJ 94 12::nJ 95 94::bJ 96 .lss 93 95::[]) [1,2,4,6,10,11,12,13,14,15,96]) (.cond (.t 96) .skip (.exit 8))) Qak0)
def Qak1:SC:=(.reg ( fJ 123 2 6::lJ 124 123::mJ 125 10::iJ 126 5 124 125::fJ 127 0 126::lJ 128 127::mJ 129 13::mJ 130 14::iJ 131 2 128 129::fJ 132 1 131::.e none none (.sto 1 (.t 132) (.t 130))::[]) [1,2,4,6,10,11,12,13])
def Qak2:SC:=(.seq (.seq (.reg ( fI 15 (.mv (kI 0))::[]) [1,2,4,6,10,11,12,13,14,15]) (.block 8 (.loop Qafz))) (.seq .gh Qak1))
def Qak3:SC:=(.reg ( mJ 90 13::cJ 91 .add 90 1::mJ 13 91::[]) [1,2,4,6,10,11,12,13])
def Qak4:SC:=(.seq (.block 7 (.seq (.reg ( fI 92 (.bsl 1 [])::mJ 14 92::[]) [1,2,4,6,10,11,12,13,14]) Qak2)) Qak3)
def Qaf0:SC:=(.seq (.seq (.reg ( mJ 81 13::fJ 82 2 6::lJ 83 82::mJ 84 10::iJ 85 5 83 84::fJ 86 0 85::lJ 87 86::nJ 88 87::bJ 89 .lss 81 88::[]) [1,2,4,6,10,11,12,13,89]) (.cond (.t 89) .skip (.exit 6))) Qak4)
def Qak5:SC:=(.seq (.reg ( fI 13 (.mv (kI 0))::[]) [1,2,4,6,10,11,12,13]) (.block 6 (.loop Qaf0)))
def Qak6:SC:=(.seq (.reg ( tJ 78 3 6::mJ 79 10::aJ 80 Qb5 [.t 78,.t 79]::Qsy) [1,2,4,6,10,11,12]) Qak5)
def Qak7:SC:=(.reg ( mJ 70 10::cJ 71 .add 70 1::mJ 10 71::[]) [1,2,4,6,10])
def Qak8:SC:=(.seq (.block 5 (.seq (.dreg 7 [0,1,2,3,4,5,6] ( tJ 72 3 2::mJ 73 1::mJ 74 10::iJ 75 1 73 74::lJ 76 75::aJ 77 Qb5 [.t 72,.t 76]::Qsx) [1,2,4,6,10,11]) Qak6)) Qak7)
def Qaf1:SC:=(.seq (.seq (.reg ( mJ 66 10::mJ 67 1::nJ 68 67::bJ 69 .lss 66 68::[]) [1,2,4,6,10,69]) (.cond (.t 69) .skip (.exit 4))) Qak8)
def Qak9:SC:=(.seq (.reg ( tJ 133 3 6::.e none none (.sto 3 (.t 4) (.t 133))::[]) [4]) .ret)
def Qxj:SC:=(.seq (.seq (.reg ( fI 10 (.mv (kI 0))::[]) [1,2,4,6,10]) (.block 4 (.loop Qaf1))) Qak9)
def Qala:SC:=(.seq (.seq (.reg ( fI 7 (.mv (kI 0))::[]) [1,2,4,5,6,7]) (.block 0 (.loop Qafy))) Qxj)
def Qalb:SC:=(.seq (.reg ( fJ 21 0 2::lJ 22 21::fJ 23 1 2::lJ 24 23::fI 25 (.bld [.int .i64 0,.int .i64 0,.sl true 5 []] [(0,1,.t 22),(1,1,.t 24)])::eI 6 (.alloc [.int .i64 0,.int .i64 0,.sl true 5 []])::Qxl) [1,2,4,5,6]) Qala)
def Qalc:SC:=(.seq (.reg ( fJ 16 2 2::lJ 17 16::nJ 18 17::mJ 19 1::aJ 20 Qp0 [.t 18,.t 19]::Qxk) [1,2,4,5]) Qalb)
def Qa57:SC:=(.seq (.reg ( fI 2 (.box (.t 0))::eI 4 (.alloc [.int .i64 0,.int .i64 0,.sl true 5 []])::[]) [1,2,4]) Qalc)
def Qajz:List RS:=[.cell 4 3 true]
theorem Qa4t:mFn prog Qnn 2 134 Qa57 Qajz=true:=by kernel_rfl
def Qxa:List Item:=.e none none (.sto 3 (.t 2) (.t 6))::[]
def Qxb:List Item:=.chk 3 none (.ld 3 true (.t 1))::aJ 6 Qnn [.t 3,.t 5]::Qxa
def Qasi:SC:=(.seq (.dreg 5 [0,1,2,0,3,4] ( tJ 3 3 1::tJ 4 3 1::aJ 5 Qfh [.t 4]::Qxb) [2]) .ret)
def Qa54:SC:=(.seq (.reg ( fI 1 (.box (.t 0))::eI 2 (.alloc [.int .i64 0,.int .i64 0,.sl true 5 []])::[]) [1,2]) Qasi)
def Qajy:List RS:=[.cell 2 3 true]
theorem Qa4q:mFn prog Qnm 1 7 Qa54 Qajy=true:=by kernel_rfl
def Qjs:List Item:=mJ 9 20::[]
def Qjt:List Item:=mJ 7 54::[]
def Q4o:SC:=(.cond (.t 51) (.reg ( mJ 52 7::mJ 53 8::aJ 54 Qdp [.t 52,.t 53]::Qjt) [1,2,3,7,8,9,10]) .skip)
def Q4p:SC:=(.reg ( mJ 25 10::cJ 26 .add 25 1::mJ 10 26::[]) [1,2,3,7,8,9,10])
def Q4q:SC:=(.seq (.block 3 (.seq (.dreg 25 [0,1,2,3,4,5,6,7,8,9,10,11,12,13,14,15,16,17,18,19,20,21,22,23,24] ( mJ 27 1::mJ 28 2::iJ 29 1 27 28::lJ 30 29::mJ 31 9::mJ 32 10::iJ 33 1 31 32::lJ 34 33::iJ 35 1 30 34::lJ 36 35::mJ 37 36::gTm 38 37 8::gTm 39 37 2::gT 40 37 (.bin 0 .eql (.t 38) (.t 39))::gTm 41 37 40::gFm 42 41 1::gFm 43 41 2::gF 44 41 (.iad 1 (.t 42) (.t 43))::gFl 45 41 44::gFm 46 41 8::gF 47 41 (.iad 1 (.t 45) (.t 46))::gFl 48 41 47::gF 49 41 (.not (.t 48))::gT 50 37 (.pick (.t 41) (.k (.c (.bool true))) (.t 49))::fI 51 (.pick (.t 37) (.t 50) (.k (.c (.bool false))))::[]) [1,2,3,7,8,9,10,51]) Q4o)) Q4p)
def Q0z:SC:=(.seq (.seq (.reg ( mJ 21 10::mJ 22 9::nJ 23 22::bJ 24 .lss 21 23::[]) [1,2,3,7,8,9,10,24]) (.cond (.t 24) .skip (.exit 2))) Q4q)
def Q4r:SC:=(.seq (.reg ( fI 10 (.mv (kI 0))::[]) [1,2,3,7,8,9,10]) (.block 2 (.loop Q0z)))
def Q4s:SC:=(.reg ( mJ 16 8::cJ 17 .add 16 1::mJ 8 17::[]) [1,2,3,7,8])
def Q4t:SC:=(.seq (.block 1 (.seq (.reg ( tJ 18 3 3::mJ 19 8::aJ 20 Qb5 [.t 18,.t 19]::Qjs) [1,2,3,7,8,9]) Q4r)) Q4s)
def Q00:SC:=(.seq (.seq (.reg ( mJ 12 8::mJ 13 1::nJ 14 13::bJ 15 .lss 12 14::[]) [1,2,3,7,8,15]) (.cond (.t 15) .skip (.exit 0))) Q4t)
def Q0w:SC:=(.seq (.reg ( mJ 55 7::mJ 6 55::[]) [6]) .ret)
def Q0x:SC:=(.seq (.seq (.reg ( fI 8 (.mv (kI 0))::[]) [1,2,3,7,8]) (.block 0 (.loop Q00))) Q0w)
def Q0y:SC:=(.seq (.reg ( fI 11 (.bsl 1 [])::mJ 7 11::[]) [1,2,3,7]) Q0x)
def Qagf:SC:=(.seq (.reg ( fI 3 (.box (.t 0))::fI 6 (.mv (.k (.c (.sl true 1 []))))::[]) [1,2,3]) Q0y)
def Qr4:List RS:=[.tmp 6]
theorem Qae1:mFn prog Qgw 3 56 Qagf Qr4=true:=by kernel_rfl
def Qh4:List Item:=mJ 8 15::[]
def Qh5:List Item:=oJ 29 28::[]
def Qh6:List Item:=mJ 10 33::[]
def Qh7:List Item:=cJ 46 .lss 45 0::[]
def Qh8:List Item:=mJ 7 52::[]
def Qh9:List Item:=mJ 8 59::[]
def Q01:SC:=(.reg ( mJ 53 8::mJ 54 10::mJ 55 11::iJ 56 1 54 55::lJ 57 56::fI 58 (.bsl 1 [.t 57])::eI 59 (.app 1 (.t 53) (.t 58))::Qh9) [1,3,7,8,10,11])
def Q02:SC:=(.cond (.t 46) (.seq (.reg ( mJ 47 7::mJ 48 10::mJ 49 11::iJ 50 1 48 49::lJ 51 50::aJ 52 Qdp [.t 47,.t 51]::Qh8) [1,3,7,8,10,11]) Q01) .skip)
def Q03:SC:=(.reg ( mJ 38 11::cJ 39 .add 38 1::mJ 11 39::[]) [1,3,7,8,10,11])
def Q04:SC:=(.seq (.block 3 (.seq (.reg ( mJ 40 7::mJ 41 10::mJ 42 11::iJ 43 1 41 42::lJ 44 43::aJ 45 Qnl [.t 40,.t 44]::Qh7) [1,3,7,8,10,11,46]) Q02)) Q03)
def Qs4:SC:=(.seq (.seq (.reg ( mJ 34 11::mJ 35 10::nJ 36 35::bJ 37 .lss 34 36::[]) [1,3,7,8,10,11,37]) (.cond (.t 37) .skip (.exit 2))) Q04)
def Qvp:SC:=(.seq (.reg ( fI 11 (.mv (kI 0))::[]) [1,3,7,8,10,11]) (.block 2 (.loop Qs4)))
def Qvq:SC:=(.seq (.reg ( tJ 30 3 3::mJ 31 1::mJ 32 9::aJ 33 Qgw [.t 30,.t 31,.t 32]::Qh6) [1,3,7,8,10]) Qvp)
def Qvr:SC:=(.seq (.seq (.reg ( mJ 24 9::mJ 25 1::nJ 26 25::cJ 27 .sub 26 1::aJ 28 Qbd [.t 24,kI 0,.t 27]::Qh5) [1,3,7,8,9,29]) (.cond (.t 29) (.exit 1) .skip)) Qvq)
def Qvs:SC:=(.seq (.reg ( mJ 22 8::fI 23 (.sli 1 (.t 22) (some (kI 1)) none)::mJ 8 23::[]) [1,3,7,8,9]) Qvr)
def Qvt:SC:=(.block 1 (.seq (.reg ( mJ 19 8::fI 20 (.iad 1 (.t 19) (kI 0))::lJ 21 20::mJ 9 21::[]) [1,3,7,8,9]) Qvs))
def Qs5:SC:=(.seq (.seq (.reg ( mJ 16 8::nJ 17 16::cJ 18 .gtr 17 0::[]) [1,3,7,8,18]) (.cond (.t 18) .skip (.exit 0))) Qvt)
def Qvu:SC:=(.seq (.reg ( mJ 60 7::mJ 6 60::[]) [6]) .ret)
def Qvv:SC:=(.seq (.reg ( fI 13 (.bsl 1 [])::mJ 14 2::eI 15 (.app 1 (.t 13) (.t 14))::Qh4) [1,3,7,8]) (.seq (.block 0 (.loop Qs5)) Qvu))
def Qvw:SC:=(.seq (.reg ( fI 12 (.bsl 1 [])::mJ 7 12::[]) [1,2,3,7]) Qvv)
def Qaau:SC:=(.seq (.reg ( fI 3 (.box (.t 0))::fI 6 (.mv (.k (.c (.sl true 1 []))))::[]) [1,2,3]) Qvw)
def Qon:List RS:=[.tmp 6]
theorem Q9t:mFn prog Qfd 3 61 Qaau Qon=true:=by kernel_rfl
def Qamq:SC:=(.cond (.t 44) (.reg ( mJ 45 6::mJ 5 45::[]) [0,3,4,5,6]) .skip)
def Qamr:SC:=(.reg ( mJ 18 6::cJ 19 .add 18 1::mJ 6 19::[]) [0,3,4,5,6])
def Qams:SC:=(.seq (.block 3 (.seq (.reg ( mJ 20 6::mJ 21 4::bJ 22 .neq 20 21::mJ 23 22::gTm 24 23 0::gTm 25 23 6::gT 26 23 (.iad 1 (.t 24) (.t 25))::gTl 27 23 26::gTm 28 23 4::gT 29 23 (.iad 1 (.t 27) (.t 28))::gTl 30 23 29::fI 31 (.pick (.t 23) (.t 30) (.k (.c (.bool false))))::mJ 32 31::gTm 33 32 5::gT 34 32 (.bin 0 .lss (.t 33) (kI 0))::gTm 35 32 34::gFm 36 35 0::gFm 37 35 5::gF 38 35 (.iad 1 (.t 36) (.t 37))::gFl 39 35 38::gFm 40 35 6::gF 41 35 (.iad 1 (.t 39) (.t 40))::gFl 42 35 41::gT 43 32 (.pick (.t 35) (.k (.c (.bool true))) (.t 42))::fI 44 (.pick (.t 32) (.t 43) (.k (.c (.bool false))))::[]) [0,3,4,5,6,44]) Qamq)) Qamr)
def Qagj:SC:=(.seq (.seq (.reg ( mJ 14 6::mJ 15 0::nJ 16 15::bJ 17 .lss 14 16::[]) [0,3,4,5,6,17]) (.cond (.t 17) .skip (.exit 2))) Qams)
def Qs6:List Item:=mJ 3 49::[]
def Qamt:SC:=(.reg ( mJ 46 3::mJ 47 5::fI 48 (.bsl 1 [.t 47])::eI 49 (.app 1 (.t 46) (.t 48))::Qs6) [0,3,4])
def Qamu:SC:=(.seq (.seq (.reg ( fI 6 (.mv (kI 0))::[]) [0,3,4,5,6]) (.block 2 (.loop Qagj))) Qamt)
def Qamv:SC:=(.reg ( mJ 12 4::cJ 13 .add 12 1::mJ 4 13::[]) [0,3,4])
def Qamw:SC:=(.seq (.block 1 (.seq (.reg ( fI 5 (.mv (kI (-1)))::[]) [0,3,4,5]) Qamu)) Qamv)
def Qagk:SC:=(.seq (.seq (.reg ( mJ 8 4::mJ 9 0::nJ 10 9::bJ 11 .lss 8 10::[]) [0,3,4,11]) (.cond (.t 11) .skip (.exit 0))) Qamw)
def Qagg:SC:=(.seq (.reg ( mJ 50 3::mJ 2 50::[]) [2]) .ret)
def Qagh:SC:=(.seq (.seq (.reg ( fI 4 (.mv (kI 0))::[]) [0,3,4]) (.block 0 (.loop Qagk))) Qagg)
def Qagi:SC:=(.seq (.reg ( fI 7 (.bsl 1 [])::mJ 3 7::[]) [0,3]) Qagh)
def Qa03:SC:=(.seq (.reg ( fI 2 (.mv (.k (.c (.sl true 1 []))))::[]) [0]) Qagi)
def Qadn:List RS:=[.tmp 2]
theorem Qa0g:mFn prog Qp1 1 51 Qa03 Qadn=true:=by kernel_rfl
def Qx0:List Item:=mJ 5 23::[]
def Qas7:SC:=(.cond (.t 19) (.reg ( mJ 20 5::mJ 21 6::fI 22 (.bsl 1 [.t 21])::eI 23 (.app 1 (.t 20) (.t 22))::Qx0) [0,1,5,6]) .skip)
def Qas8:SC:=(.reg ( mJ 12 6::cJ 13 .add 12 1::mJ 6 13::[]) [0,1,5,6])
def Qas9:SC:=(.seq (.block 1 (.seq (.reg ( mJ 14 0::mJ 15 6::iJ 16 1 14 15::lJ 17 16::mJ 18 1::bJ 19 .eql 17 18::[]) [0,1,5,6,19]) Qas7)) Qas8)
def Qamx:SC:=(.seq (.seq (.reg ( mJ 8 6::mJ 9 0::nJ 10 9::bJ 11 .lss 8 10::[]) [0,1,5,6,11]) (.cond (.t 11) .skip (.exit 0))) Qas9)
def Qata:SC:=(.seq (.reg ( mJ 24 5::mJ 4 24::[]) [4]) .ret)
def Qatb:SC:=(.seq (.seq (.reg ( fI 6 (.mv (kI 0))::[]) [0,1,5,6]) (.block 0 (.loop Qamx))) Qata)
def Qatc:SC:=(.seq (.reg ( fI 7 (.bsl 1 [])::mJ 5 7::[]) [0,1,5]) Qatb)
def Qa6b:SC:=(.seq (.reg ( fI 4 (.mv (.k (.c (.sl true 1 []))))::[]) [0,1]) Qatc)
def Qaj2:List RS:=[.tmp 4]
theorem Qa4x:mFn prog Qun 2 25 Qa6b Qaj2=true:=by kernel_rfl
def Qyn:List Item:=mJ 3 11::[]
def Qyo:List Item:=iJ 50 1 40 41::.e none none (.sto 1 (.t 50) (.t 49))::[]
def Qatw:SC:=(.reg ( mJ 40 3::mJ 41 6::mJ 42 3::mJ 43 6::iJ 44 1 42 43::lJ 45 44::mJ 46 4::fI 47 (.bsl 1 [.t 46,kI (-1)])::fI 48 (.bsl 1 [.t 47])::eI 49 (.app 1 (.t 45) (.t 48))::Qyo) [1,3,4,5])
def Qatx:SC:=(.reg ( mJ 28 5::cJ 29 .add 28 1::mJ 5 29::[]) [1,3,4,5])
def Qaty:SC:=(.seq (.block 3 (.seq (.reg ( fJ 30 2 1::lJ 31 30::mJ 32 4::iJ 33 5 31 32::fJ 34 0 33::lJ 35 34::mJ 36 5::iJ 37 2 35 36::fJ 38 0 37::lJ 39 38::mJ 6 39::[]) [1,3,4,5,6]) Qatw)) Qatx)
def Qaok:SC:=(.seq (.seq (.reg ( mJ 19 5::fJ 20 2 1::lJ 21 20::mJ 22 4::iJ 23 5 21 22::fJ 24 0 23::lJ 25 24::nJ 26 25::bJ 27 .lss 19 26::[]) [1,3,4,5,27]) (.cond (.t 27) .skip (.exit 2))) Qaty)
def Qyp:List Item:=mJ 8 71::[]
def Qyq:List Item:=iJ 85 1 74 75::.e none none (.sto 1 (.t 85) (.t 84))::[]
def Qatz:SC:=(.cond (.t 73) (.reg ( mJ 74 3::mJ 75 8::mJ 76 3::mJ 77 8::iJ 78 1 76 77::lJ 79 78::mJ 80 4::mJ 81 7::fI 82 (.bsl 1 [.t 80,.t 81])::fI 83 (.bsl 1 [.t 82])::eI 84 (.app 1 (.t 79) (.t 83))::Qyq) [1,3,4,7]) .skip)
def Qat0:SC:=(.seq (.reg ( mJ 72 8::cJ 73 .geq 72 0::[]) [1,3,4,7,8,73]) Qatz)
def Qaoc:SC:=(.reg ( mJ 60 7::cJ 61 .add 60 1::mJ 7 61::[]) [1,3,4,7])
def Qaod:SC:=(.seq (.block 5 (.seq (.reg ( fJ 62 2 1::lJ 63 62::mJ 64 4::iJ 65 5 63 64::fJ 66 1 65::lJ 67 66::mJ 68 7::iJ 69 4 67 68::tJ 70 4 69::aJ 71 Qf6 [.t 70]::Qyp) [1,3,4,7,8]) Qat0)) Qaoc)
def Qag7:SC:=(.seq (.seq (.reg ( mJ 51 7::fJ 52 2 1::lJ 53 52::mJ 54 4::iJ 55 5 53 54::fJ 56 1 55::lJ 57 56::nJ 58 57::bJ 59 .lss 51 58::[]) [1,3,4,7,59]) (.cond (.t 59) .skip (.exit 4))) Qaod)
def Qaoe:SC:=(.seq (.reg ( fI 7 (.mv (kI 0))::[]) [1,3,4,7]) (.block 4 (.loop Qag7)))
def Qaof:SC:=(.reg ( mJ 17 4::cJ 18 .add 17 1::mJ 4 18::[]) [1,3,4])
def Qaog:SC:=(.seq (.block 1 (.seq (.seq (.reg ( fI 5 (.mv (kI 0))::[]) [1,3,4,5]) (.block 2 (.loop Qaok))) Qaoe)) Qaof)
def Qag8:SC:=(.seq (.seq (.reg ( mJ 12 4::fJ 13 2 1::lJ 14 13::nJ 15 14::bJ 16 .lss 12 15::[]) [1,3,4,16]) (.cond (.t 16) .skip (.exit 0))) Qaog)
def Qaoh:SC:=(.seq (.reg ( mJ 86 3::mJ 2 86::[]) [2]) .ret)
def Qaoi:SC:=(.seq (.seq (.reg ( fI 4 (.mv (kI 0))::[]) [1,3,4]) (.block 0 (.loop Qag8))) Qaoh)
def Qaoj:SC:=(.seq (.reg ( fJ 9 1 1::lJ 10 9::eI 11 (.mks 1 [.sl true 1 []] (.t 10))::Qyn) [1,3]) Qaoi)
def Qa6h:SC:=(.seq (.reg ( fI 1 (.box (.t 0))::fI 2 (.mv (.k (.c (.sl true 1 []))))::[]) [1]) Qaoj)
def Qaj6:List RS:=[.tmp 2]
theorem Qa43:mFn prog Qus 1 87 Qa6h Qaj6=true:=by kernel_rfl
def Qs8:List Item:=.e none none (.sto 3 (.t 3) (.t 8))::[]
def Qs9:List Item:=eI 3 (.alloc [.int .i64 0,.int .i64 0,.sl true 5 []])::Qs8
def Qta:List Item:=fI 11 (.fld 0 1 false (.t 10))::fI 12 (.iad 1 (.t 11) (kI 0))::lJ 13 12::mJ 4 13::[]
def Qtb:List Item:=mJ 5 32::[]
def Qanp:SC:=(.cond (.t 26) (.reg ( mJ 27 5::mJ 28 6::fI 29 (.bsl 1 [])::fI 30 (.bld [.int .i64 0,.int .i64 0,.sl true 1 [],.int .i64 0] [(0,1,kI 1),(1,1,.t 28),(2,1,.t 29)])::fI 31 (.bsl 4 [.t 30])::eI 32 (.app 4 (.t 27) (.t 31))::Qtb) [2,3,4,5,6]) .skip)
def Qanq:SC:=(.reg ( mJ 21 6::cJ 22 .add 21 1::mJ 6 22::[]) [2,3,4,5,6])
def Qanr:SC:=(.seq (.block 1 (.seq (.reg ( mJ 23 4::mJ 24 6::iJ 25 1 23 24::lJ 26 25::[]) [2,3,4,5,6,26]) Qanp)) Qanq)
def Qag2:SC:=(.seq (.seq (.reg ( mJ 17 6::fJ 18 1 3::lJ 19 18::bJ 20 .lss 17 19::[]) [2,3,4,5,6,20]) (.cond (.t 20) .skip (.exit 0))) Qanr)
def Qtc:List Item:=.chk 34 none (.ld 1 false (.t 33))::fI 42 (.iad 5 (.t 34) (kI 0))::fJ 43 1 42::.e none none (.sto 1 (.t 43) (.t 41))::[]
def Qans:SC:=(.seq (.reg ( tJ 44 3 3::.e none none (.sto 3 (.t 2) (.t 44))::[]) [2]) .ret)
def Qagx:SC:=(.seq (.dreg 12 [0,1,2,3,4,5,6,7,8,1,9,10,11] ( fJ 33 2 3::lJ 34 33::mJ 35 5::fJ 36 2 3::lJ 37 36::fI 38 (.iad 5 (.t 37) (kI 0))::fJ 39 1 38::lJ 40 39::eI 41 (.app 4 (.t 35) (.t 40))::Qtc) [2,3]) Qans)
def Qagy:SC:=(.seq (.seq (.reg ( fJ 15 0 3::lJ 16 15::mJ 6 16::[]) [2,3,4,5,6]) (.block 0 (.loop Qag2))) Qagx)
def Qagz:SC:=(.seq (.reg ( fI 14 (.bsl 4 [])::mJ 5 14::[]) [2,3,4,5]) Qagy)
def Qag0:SC:=(.seq (.reg ( tJ 9 3 3::aJ 10 Qnq [.t 9]::Qta) [2,3,4]) Qagz)
def Qag1:SC:=(.seq (.reg ( tJ 7 3 1::aJ 8 Qnm [.t 7]::Qs9) [2,3]) Qag0)
def Qa05:SC:=(.seq (.reg ( fI 1 (.box (.t 0))::eI 2 (.alloc [.int .i64 0,.int .i64 0,.sl true 5 []])::[]) [1,2]) Qag1)
def Qado:List RS:=[.cell 2 3 true]
theorem Qa0h:mFn prog Qp2 1 45 Qa05 Qado=true:=by kernel_rfl
def Qyg:List Item:=.e none none (.sto 3 (.t 3) (.t 14))::[]
def Qyh:List Item:=eI 3 (.alloc [.int .i64 0,.int .i64 0,.sl true 5 []])::Qyg
def Qyi:List Item:=mJ 4 16::[]
def Qyj:List Item:=.e none none (.sto 2 (.t 5) (.t 18))::[]
def Qyk:List Item:=eI 5 (.alloc [.sl true 1 [],.sl true 1 []])::Qyj
def Qyl:List Item:=mJ 6 20::[]
def Qatt:SC:=(.cond (.t 32) (.reg ( fI 33 (.bsl 1 [kI 0])::mJ 8 33::[]) [1,2,3,4,5,6,7,8]) .skip)
def Qym:List Item:=mJ 8 53::[]
def Qatu:SC:=(.reg ( mJ 41 9::cJ 42 .add 41 1::mJ 9 42::[]) [1,2,3,4,5,6,7,8,9])
def Qatv:SC:=(.seq (.block 3 (.reg ( mJ 43 8::mJ 44 6::mJ 45 7::iJ 46 1 44 45::lJ 47 46::mJ 48 9::iJ 49 1 47 48::lJ 50 49::fI 51 (.iad 1 (.t 50) (kI 0))::lJ 52 51::aJ 53 Qdp [.t 43,.t 52]::Qym) [1,2,3,4,5,6,7,8,9])) Qatu)
def Qag3:SC:=(.seq (.seq (.reg ( mJ 34 9::mJ 35 6::mJ 36 7::iJ 37 1 35 36::lJ 38 37::nJ 39 38::bJ 40 .lss 34 39::[]) [1,2,3,4,5,6,7,8,9,40]) (.cond (.t 40) .skip (.exit 2))) Qatv)
def Qtl:List Item:=mJ 10 57::[]
def Qtm:List Item:=.e none none (.sto 2 (.t 12) (.t 78))::[]
def Qtn:List Item:=nJ 85 84::[]
def Qto:List Item:=fJ 93 1 12::.e none none (.sto 1 (.t 93) (.t 92))::[]
def Qant:SC:=(.reg ( cJ 94 .add 86 1::mJ 86 94::[]) [1,2,3,4,5,6,7,10,11,12,85,86])
def Qanu:SC:=(.seq (.block 7 (.reg ( fJ 88 1 12::lJ 89 88::mJ 90 7::fI 91 (.bsl 1 [.t 90])::eI 92 (.app 1 (.t 89) (.t 91))::Qto) [1,2,3,4,5,6,7,10,11,12,85,86])) Qant)
def Qag4:SC:=(.seq (.reg ( bJ 87 .lss 86 85::[]) [1,2,3,4,5,6,7,10,11,12,85,86,87]) (.seq (.cond (.t 87) .skip (.exit 6)) Qanu))
def Qtp:List Item:=.chk 96 none (.ld 1 false (.t 95))::.chk 99 none (.iad 1 (.t 97) (.t 98))::.chk 100 none (.ld 1 false (.t 99))::iJ 113 5 96 100::fJ 114 0 113::.e none none (.sto 1 (.t 114) (.t 112))::[]
def Qtq:List Item:=.chk 96 none (.ld 1 false (.t 95))::.chk 99 none (.iad 1 (.t 97) (.t 98))::.chk 100 none (.ld 1 false (.t 99))::.chk 104 none (.ld 1 false (.t 103))::.chk 107 none (.iad 1 (.t 105) (.t 106))::.chk 108 none (.ld 1 false (.t 107))::.chk 109 none (.iad 5 (.t 104) (.t 108))::.chk 111 none (.ld 1 false (.t 110))::eI 112 (.app 2 (.t 102) (.t 111))::Qtp
def Qanv:SC:=(.dreg 21 [0,1,2,3,4,5,6,8,9,10,11,12,13,14,15,16,7,1,4,5,9,12,13,14,16,17,1,4,5,18,19,20] ( fJ 95 2 3::lJ 96 95::mJ 97 10::mJ 98 11::iJ 99 1 97 98::lJ 100 99::tJ 101 2 12::fJ 103 2 3::lJ 104 103::mJ 105 10::mJ 106 11::iJ 107 1 105 106::lJ 108 107::iJ 109 5 104 108::fJ 110 0 109::lJ 111 110::eI 102 (.bslm 2 [.t 101])::Qtq) [1,2,3,4,5,6,7,10,11])
def Qanw:SC:=(.seq (.seq (.dreg 8 [0,1,2,3,4,7,5,6] ( tJ 79 3 1::mJ 80 10::mJ 81 11::iJ 82 1 80 81::lJ 83 82::fI 86 (.mv (kI 0))::aJ 84 Qb5 [.t 79,.t 83]::Qtn) [1,2,3,4,5,6,7,10,11,12,85,86]) (.block 6 (.loop Qag4))) Qanv)
def Qanx:SC:=(.seq (.reg ( mJ 76 7::fI 77 (.bsl 1 [])::fI 78 (.bld [.int .i64 0,.sl true 1 []] [(0,1,.t 76),(1,1,.t 77)])::eI 12 (.alloc [.int .i64 0,.sl true 1 []])::Qtm) [1,2,3,4,5,6,7,10,11,12]) Qanw)
def Qany:SC:=(.reg ( mJ 62 11::cJ 63 .add 62 1::mJ 11 63::[]) [1,2,3,4,5,6,7,10,11])
def Qanz:SC:=(.seq (.block 5 (.seq (.seq (.dreg 12 [0,1,2,3,4,5,6,7,8,9,10,11] ( fJ 64 0 5::lJ 65 64::mJ 66 10::mJ 67 11::iJ 68 1 66 67::lJ 69 68::iJ 70 1 65 69::lJ 71 70::mJ 72 7::iJ 73 1 71 72::lJ 74 73::oJ 75 74::[]) [1,2,3,4,5,6,7,10,11,75]) (.cond (.t 75) (.exit 5) .skip)) Qanx)) Qany)
def Qag5:SC:=(.seq (.seq (.reg ( mJ 58 11::mJ 59 10::nJ 60 59::bJ 61 .lss 58 60::[]) [1,2,3,4,5,6,7,10,11,61]) (.cond (.t 61) .skip (.exit 4))) Qanz)
def Qan0:SC:=(.seq (.reg ( fI 11 (.mv (kI 0))::[]) [1,2,3,4,5,6,7,10,11]) (.block 4 (.loop Qag5)))
def Qan1:SC:=(.seq (.reg ( tJ 54 3 1::mJ 55 4::mJ 56 8::aJ 57 Qfd [.t 54,.t 55,.t 56]::Qtl) [1,2,3,4,5,6,7,10]) Qan0)
def Qan2:SC:=(.seq (.seq (.reg ( fI 9 (.mv (kI 0))::[]) [1,2,3,4,5,6,7,8,9]) (.block 2 (.loop Qag3))) Qan1)
def Qan3:SC:=(.seq (.seq (.reg ( mJ 29 7::fJ 30 0 1::lJ 31 30::bJ 32 .lss 29 31::[]) [1,2,3,4,5,6,7,8,32]) Qatt) Qan2)
def Qan4:SC:=(.reg ( mJ 26 7::cJ 27 .sub 26 1::mJ 7 27::[]) [1,2,3,4,5,6,7])
def Qan5:SC:=(.seq (.block 1 (.seq (.reg ( fI 28 (.bsl 1 [])::mJ 8 28::[]) [1,2,3,4,5,6,7,8]) Qan3)) Qan4)
def Qag6:SC:=(.seq (.seq (.reg ( mJ 24 7::cJ 25 .geq 24 0::[]) [1,2,3,4,5,6,7,25]) (.cond (.t 25) .skip (.exit 0))) Qan5)
def Qan6:SC:=(.seq (.reg ( tJ 115 3 3::.e none none (.sto 3 (.t 2) (.t 115))::[]) [2]) .ret)
def Qan7:SC:=(.seq (.seq (.reg ( fJ 21 1 1::lJ 22 21::cJ 23 .sub 22 1::mJ 7 23::[]) [1,2,3,4,5,6,7]) (.block 0 (.loop Qag6))) Qan6)
def Qan8:SC:=(.seq (.reg ( tJ 19 3 1::aJ 20 Qus [.t 19]::Qyl) [1,2,3,4,5,6]) Qan7)
def Qan9:SC:=(.seq (.reg ( tJ 17 3 1::aJ 18 Qnq [.t 17]::Qyk) [1,2,3,4,5]) Qan8)
def Qaoa:SC:=(.seq (.reg ( tJ 15 3 1::aJ 16 Qnp [.t 15]::Qyi) [1,2,3,4]) Qan9)
def Qaob:SC:=(.seq (.reg ( tJ 13 3 1::aJ 14 Qhi [.t 13]::Qyh) [1,2,3]) Qaoa)
def Qa6g:SC:=(.seq (.reg ( fI 1 (.box (.t 0))::eI 2 (.alloc [.int .i64 0,.int .i64 0,.sl true 5 []])::[]) [1,2]) Qaob)
def Qaj5:List RS:=[.cell 2 3 true]
theorem Qa42:mFn prog Qur 1 116 Qa6g Qaj5=true:=by kernel_rfl
def Qtj:SC:=(.seq (.reg ( mJ 11 0::kJ 12 11::fJ 13 7 12::lJ 14 13::cJ 15 .sub 14 1::mJ 2 15::[]) [2]) .ret)
def Qtk:SC:=(.seq (.reg ( mJ 3 0::mJ 4 0::kJ 5 4::fJ 6 7 5::lJ 7 6::cJ 8 .add 7 1::kJ 9 3::fJ 10 7 9::.e none none (.sto 1 (.t 10) (.t 8))::[]) [0]) Qtj)
def Q06:SC:=(.seq (.reg ( fI 2 (.mv (kI 0))::[]) [0]) Qtk)
def Qjp:List RS:=[.tmp 2]
theorem Qz7:mFn prog Qcf 1 16 Q06 Qjp=true:=by kernel_rfl
def Qft:List Item:=.chk 37 none (.ld 1 false (.t 36))::iJ 41 2 37 38::fJ 42 0 41::.e none none (.sto 1 (.t 42) (.t 40))::[]
def Qtd:SC:=(.reg ( mJ 32 7::cJ 33 .add 32 1::mJ 7 33::[]) [0,1,2,6,7])
def Qte:SC:=(.seq (.block 1 (.dreg 10 [0,1,2,3,4,5,6,3,7,8,9] ( mJ 34 6::kJ 35 34::fJ 36 0 35::lJ 37 36::mJ 38 7::mJ 39 0::aJ 40 Qcf [.t 39]::Qft) [0,1,2,6,7])) Qtd)
def Qqx:SC:=(.seq (.seq (.reg ( mJ 25 7::mJ 26 6::kJ 27 26::fJ 28 0 27::lJ 29 28::nJ 30 29::bJ 31 .lss 25 30::[]) [0,1,2,6,7,31]) (.cond (.t 31) .skip (.exit 0))) Qte)
def Qtf:SC:=(.reg ( mJ 50 8::cJ 51 .add 50 1::mJ 8 51::[]) [0,1,2,6,8])
def Qtg:SC:=(.seq (.block 3 (.dreg 24 [0,1,2,3,4,5,6,7,8,9,10,11,12,13,14,15,16,17,18,19,20,21,22,23] ( mJ 52 2::mJ 53 0::kJ 54 53::fJ 55 0 54::fJ 56 2 55::lJ 57 56::mJ 58 1::iJ 59 5 57 58::fJ 60 0 59::lJ 61 60::mJ 62 8::iJ 63 2 61 62::fJ 64 0 63::lJ 65 64::mJ 66 6::kJ 67 66::fJ 68 0 67::lJ 69 68::mJ 70 8::iJ 71 2 69 70::fJ 72 0 71::lJ 73 72::iJ 74 1 52 65::.e none none (.sto 1 (.t 74) (.t 73))::[]) [0,1,2,6,8])) Qtf)
def Qqy:SC:=(.seq (.seq (.reg ( mJ 43 8::mJ 44 6::kJ 45 44::fJ 46 0 45::lJ 47 46::nJ 48 47::bJ 49 .lss 43 48::[]) [0,1,2,6,8,49]) (.cond (.t 49) .skip (.exit 2))) Qtg)
def Qth:SC:=(.reg ( mJ 95 10::cJ 96 .add 95 1::mJ 10 96::[]) [0,1,2,6,9,10])
def Qti:SC:=(.seq (.block 7 (.dreg 25 [0,1,2,3,4,5,6,7,8,9,10,11,12,13,14,15,16,17,18,19,20,21,22,23,24] ( mJ 97 6::kJ 98 97::fJ 99 1 98::lJ 100 99::mJ 101 9::iJ 102 4 100 101::fJ 103 2 102::lJ 104 103::mJ 105 10::mJ 106 2::mJ 107 6::kJ 108 107::fJ 109 1 108::lJ 110 109::mJ 111 9::iJ 112 4 110 111::fJ 113 2 112::lJ 114 113::mJ 115 10::iJ 116 1 114 115::lJ 117 116::iJ 118 1 106 117::lJ 119 118::iJ 120 1 104 105::.e none none (.sto 1 (.t 120) (.t 119))::[]) [0,1,2,6,9,10])) Qth)
def Qqz:SC:=(.seq (.seq (.reg ( mJ 84 10::mJ 85 6::kJ 86 85::fJ 87 1 86::lJ 88 87::mJ 89 9::iJ 90 4 88 89::fJ 91 2 90::lJ 92 91::nJ 93 92::bJ 94 .lss 84 93::[]) [0,1,2,6,9,10,94]) (.cond (.t 94) .skip (.exit 6))) Qti)
def Qej:List Item:=mJ 11 131::[]
def Qqh:SC:=(.reg ( mJ 143 6::kJ 144 143::fJ 145 1 144::lJ 146 145::mJ 147 9::mJ 148 11::iJ 149 4 146 147::fJ 150 1 149::.e none none (.sto 1 (.t 150) (.t 148))::[]) [0,1,2,6,9])
def Qqi:SC:=(.seq (.reg ( mJ 132 2::mJ 133 6::kJ 134 133::fJ 135 1 134::lJ 136 135::mJ 137 9::iJ 138 4 136 137::fJ 139 1 138::lJ 140 139::mJ 141 11::iJ 142 1 132 140::.e none none (.sto 1 (.t 142) (.t 141))::[]) [0,1,2,6,9,11]) Qqh)
def Qqj:SC:=(.cond (.t 129) (.seq (.reg ( mJ 130 0::aJ 131 Qcf [.t 130]::Qej) [0,1,2,6,9,11]) Qqi) .skip)
def Qqk:SC:=(.seq (.reg ( mJ 121 6::kJ 122 121::fJ 123 1 122::lJ 124 123::mJ 125 9::iJ 126 4 124 125::fJ 127 0 126::lJ 128 127::aJ 129 Qdq [.t 128]::[]) [0,1,2,6,9,129]) Qqj)
def Qql:SC:=(.reg ( mJ 82 9::cJ 83 .add 82 1::mJ 9 83::[]) [0,1,2,6,9])
def Qqm:SC:=(.seq (.block 5 (.seq (.seq (.reg ( fI 10 (.mv (kI 0))::[]) [0,1,2,6,9,10]) (.block 6 (.loop Qqz))) Qqk)) Qql)
def Qn4:SC:=(.seq (.seq (.reg ( mJ 75 9::mJ 76 6::kJ 77 76::fJ 78 1 77::lJ 79 78::nJ 80 79::bJ 81 .lss 75 80::[]) [0,1,2,6,9,81]) (.cond (.t 81) .skip (.exit 4))) Qqm)
def Qqn:SC:=(.cond (.t 155) (.reg ( mJ 156 6::mJ 157 2::mJ 158 6::kJ 159 158::fJ 160 3 159::lJ 161 160::iJ 162 1 157 161::lJ 163 162::kJ 164 156::fJ 165 3 164::.e none none (.sto 1 (.t 165) (.t 163))::[]) [0,1,2,6]) .skip)
def Qek:List Item:=mJ 14 189::[]
def Qel:List Item:=mJ 188 1::aJ 189 Qnl [.t 187,.t 188]::Qek
def Qqo:SC:=(.reg ( mJ 202 15::cJ 203 .add 202 1::mJ 15 203::[]) [0,1,2,6,12,13,14,15])
def Qqp:SC:=(.seq (.block 11 (.dreg 35 [0,1,2,3,4,5,6,7,8,9,10,11,12,13,14,15,16,17,18,19,20,21,22,23,24,25,26,27,28,29,30,31,32,33,34] ( mJ 204 0::kJ 205 204::fJ 206 3 205::fJ 207 2 206::lJ 208 207::mJ 209 13::iJ 210 5 208 209::fJ 211 0 210::lJ 212 211::mJ 213 15::iJ 214 2 212 213::fJ 215 1 214::lJ 216 215::mJ 217 14::mJ 218 2::mJ 219 0::kJ 220 219::fJ 221 0 220::fJ 222 2 221::lJ 223 222::mJ 224 13::iJ 225 5 223 224::fJ 226 0 225::lJ 227 226::mJ 228 15::iJ 229 2 227 228::fJ 230 1 229::lJ 231 230::mJ 232 14::iJ 233 1 231 232::lJ 234 233::iJ 235 1 218 234::lJ 236 235::iJ 237 1 216 217::.e none none (.sto 1 (.t 237) (.t 236))::[]) [0,1,2,6,12,13,14,15])) Qqo)
def Qn5:SC:=(.seq (.seq (.reg ( mJ 190 15::mJ 191 0::kJ 192 191::fJ 193 0 192::fJ 194 2 193::lJ 195 194::mJ 196 13::iJ 197 5 195 196::fJ 198 0 197::lJ 199 198::nJ 200 199::bJ 201 .lss 190 200::[]) [0,1,2,6,12,13,14,15,201]) (.cond (.t 201) .skip (.exit 10))) Qqp)
def Qqq:SC:=(.seq (.reg ( fI 15 (.mv (kI 0))::[]) [0,1,2,6,12,13,14,15]) (.block 10 (.loop Qn5)))
def Qqr:SC:=(.seq (.reg ( mJ 182 0::kJ 183 182::fJ 184 0 183::tJ 185 3 184::mJ 186 13::aJ 187 Qb5 [.t 185,.t 186]::Qel) [0,1,2,6,12,13,14]) Qqq)
def Qqs:SC:=(.reg ( mJ 173 12::cJ 174 .add 173 1::mJ 12 174::[]) [0,1,2,6,12])
def Qqt:SC:=(.seq (.block 9 (.seq (.reg ( mJ 175 6::kJ 176 175::fJ 177 4 176::lJ 178 177::mJ 179 12::iJ 180 1 178 179::lJ 181 180::mJ 13 181::[]) [0,1,2,6,12,13]) Qqr)) Qqs)
def Qn6:SC:=(.seq (.seq (.reg ( mJ 166 12::mJ 167 6::kJ 168 167::fJ 169 4 168::lJ 170 169::nJ 171 170::bJ 172 .lss 166 171::[]) [0,1,2,6,12,172]) (.cond (.t 172) .skip (.exit 8))) Qqt)
def Qem:List Item:=mJ 16 243::[]
def Qen:List Item:=.chk 253 none (.iad 1 (.t 251) (.t 252))::.chk 254 none (.ld 1 false (.t 253))::aJ 258 Qce [.t 250,.t 254,.t 257]::[]
def Qqu:SC:=(.reg ( mJ 248 17::cJ 249 .add 248 1::mJ 17 249::[]) [0,2,16,17])
def Qqv:SC:=(.seq (.block 13 (.dreg 9 [0,1,2,3,4,5,6,7,3,4,8] ( mJ 250 0::mJ 251 16::mJ 252 17::iJ 253 1 251 252::lJ 254 253::fI 255 (.bsl 1 [])::mJ 256 2::eI 257 (.app 1 (.t 255) (.t 256))::Qen) [0,2,16,17])) Qqu)
def Qn7:SC:=(.seq (.seq (.reg ( mJ 244 17::mJ 245 16::nJ 246 245::bJ 247 .lss 244 246::[]) [0,2,16,17,247]) (.cond (.t 247) .skip (.exit 12))) Qqv)
def Qqw:SC:=(.seq (.reg ( fI 17 (.mv (kI 0))::[]) [0,2,16,17]) (.block 12 (.loop Qn7)))
def Qfr:SC:=(.seq (.reg ( mJ 238 0::kJ 239 238::fJ 240 6 239::lJ 241 240::mJ 242 1::aJ 243 Qun [.t 241,.t 242]::Qem) [0,2,16]) Qqw)
def Qcx:SC:=(.seq (.seq (.reg ( fI 12 (.mv (kI 0))::[]) [0,1,2,6,12]) (.block 8 (.loop Qn6))) Qfr)
def Qcy:SC:=(.seq (.seq (.reg ( mJ 151 6::kJ 152 151::fJ 153 2 152::lJ 154 153::cJ 155 .neq 154 1::[]) [0,1,2,6,155]) Qqn) Qcx)
def Qcz:SC:=(.seq (.seq (.reg ( fI 9 (.mv (kI 0))::[]) [0,1,2,6,9]) (.block 4 (.loop Qn4))) Qcy)
def Qc0:SC:=(.seq (.seq (.reg ( fI 8 (.mv (kI 0))::[]) [0,1,2,6,8]) (.block 2 (.loop Qqy))) Qcz)
def Qfs:SC:=(.seq (.seq (.reg ( fI 7 (.mv (kI 0))::[]) [0,1,2,6,7]) (.block 0 (.loop Qqx))) Qc0)
def Q05:SC:=(.seq (.reg ( mJ 18 0::kJ 19 18::fJ 20 3 19::fJ 21 2 20::lJ 22 21::mJ 23 1::iJ 24 5 22 23::mJ 6 24::[]) [0,1,2,6]) Qfs)
def Qjo:List RS:=[]
theorem Qz6:mFn prog Qce 3 259 Q05 Qjo=true:=by kernel_rfl
def Qo4:List Item:=.e none none (.sto 3 (.t 3) (.t 9))::[]
def Qo5:List Item:=eI 3 (.alloc [.int .i64 0,.int .i64 0,.sl true 5 []])::Qo4
def Qo6:List Item:=aJ 9 Qur [.t 8]::Qo5
def Qo7:List Item:=mJ 4 19::[]
def Qo8:List Item:=.chk 10 none (.ld 3 true (.t 3))::.chk 17 none (.ld 1 false (.t 16))::fI 18 (.bld [.int .i64 0,.int .i64 0,.sl true 5 [],.int .i64 0,.int .i64 0,.sl true 5 [],.sl true 1 [],.int .i64 0] [(0,3,.t 10),(3,3,.t 12),(6,1,.t 15),(7,1,.t 17)])::eI 19 (.boxm (.t 18))::Qo7
def Qo9:List Item:=.chk 10 none (.ld 3 true (.t 3))::.chk 17 none (.ld 1 false (.t 16))::aJ 15 Qp1 [.t 14]::Qo8
def Qpa:List Item:=.chk 10 none (.ld 3 true (.t 3))::.chk 13 none (.ld 3 true (.t 3))::.chk 17 none (.ld 1 false (.t 16))::aJ 14 Qnp [.t 13]::Qo9
def Qpb:List Item:=mJ 5 22::[]
def Qag9:SC:=(.reg ( mJ 27 6::cJ 28 .add 27 1::mJ 6 28::[]) [1,2,4,5,6])
def Qaha:SC:=(.seq (.block 1 (.reg ( mJ 29 5::mJ 30 6::mJ 31 6::iJ 32 1 29 30::.e none none (.sto 1 (.t 32) (.t 31))::[]) [1,2,4,5,6])) Qag9)
def Q4w:SC:=(.seq (.seq (.reg ( mJ 23 6::fJ 24 0 1::lJ 25 24::bJ 26 .lss 23 25::[]) [1,2,4,5,6,26]) (.cond (.t 26) .skip (.exit 0))) Qaha)
def Qaa3:SC:=(.seq (.reg ( mJ 44 4::kJ 45 44::fJ 46 3 45::tJ 47 3 46::.e none none (.sto 3 (.t 2) (.t 47))::[]) [2]) .ret)
def Qaa4:SC:=(.seq (.reg ( mJ 36 4::mJ 37 4::kJ 38 37::fJ 39 7 38::lJ 40 39::kJ 41 36::fJ 42 3 41::fJ 43 1 42::.e none none (.sto 1 (.t 43) (.t 40))::[]) [2,4]) Qaa3)
def Qaa5:SC:=(.seq (.reg ( mJ 33 4::mJ 34 5::aJ 35 Qce [.t 33,kI 0,.t 34]::[]) [2,4]) Qaa4)
def Qaa6:SC:=(.seq (.seq (.reg ( fI 6 (.mv (kI 0))::[]) [1,2,4,5,6]) (.block 0 (.loop Q4w))) Qaa5)
def Qaa7:SC:=(.seq (.reg ( fJ 20 1 3::lJ 21 20::eI 22 (.mks 1 [.int .i64 0] (.t 21))::Qpb) [1,2,4,5]) Qaa6)
def Qaa8:SC:=(.seq (.dreg 11 [0,1,3,6,7,2,0,3,7,4,0,7,5,0,7,8,9,10] ( tJ 10 3 3::tJ 11 3 3::tJ 13 3 3::fJ 16 0 1::lJ 17 16::aJ 12 Qhi [.t 11]::Qpa) [1,2,3,4]) Qaa7)
def Qaa9:SC:=(.seq (.reg ( tJ 7 3 1::aJ 8 Qp2 [.t 7]::Qo6) [1,2,3]) Qaa8)
def Qat1:SC:=(.seq (.reg ( fI 1 (.box (.t 0))::eI 2 (.alloc [.int .i64 0,.int .i64 0,.sl true 5 []])::[]) [1,2]) Qaa9)
def Q3y:List RS:=[.cell 2 3 true]
theorem Qarl:mFn prog Qk7 1 48 Qat1 Q3y=true:=by kernel_rfl
def Qalz:List Item:=.e none none (.sto 3 (.t 4) (.t 9))::[]
def Qal0:List Item:=.e none none (.sto 3 (.t 4) (.t 15))::[]
def Qal1:List Item:=.chk 12 none (.ld 3 true (.t 2))::aJ 15 Qnn [.t 12,.t 14]::Qal0
def Qal2:List Item:=.e none none (.sto 3 (.t 4) (.t 19))::[]
def Qal3:List Item:=.e none none (.sto 3 (.t 4) (.t 23))::[]
def Qxp:List Item:=.e none none (.sto 3 (.t 4) (.t 27))::[]
def Qal4:List Item:=.e none none (.sto 3 (.t 4) (.t 31))::[]
def Qal5:List Item:=.e none none (.sto 3 (.t 4) (.t 35))::[]
def Qal6:List Item:=.e none none (.sto 3 (.t 4) (.t 39))::[]
def Qal7:List Item:=.e none none (.sto 3 (.t 4) (.t 43))::[]
def Qaga:List Item:=.e none none (.sto 3 (.t 4) (.t 47))::[]
def Qagb:List Item:=.e none none (.sto 3 (.t 4) (.t 51))::[]
def Qall:SC:=(.cond (.t 48) (.seq (.reg ( tJ 50 3 2::aJ 51 Qazz [.t 50]::Qagb) [4]) .ret) .skip)
def Qalm:SC:=(.cond (.t 44) (.seq (.reg ( tJ 46 3 2::aJ 47 Qaz0 [.t 46]::Qaga) [4]) .ret) (.seq (.reg ( fI 49 (.bin 0 .eql (.t 5) (.k (.c (.str [106,111,105,110]))))::mJ 48 49::[]) [2,4,48]) Qall))
def Qaln:SC:=(.cond (.t 40) (.seq (.reg ( tJ 42 3 2::aJ 43 Qazy [.t 42]::Qal7) [4]) .ret) (.seq (.reg ( fI 45 (.bin 0 .eql (.t 5) (.k (.c (.str [115,107,105,112]))))::mJ 44 45::[]) [2,4,5,44]) Qalm))
def Qalo:SC:=(.cond (.t 36) (.seq (.reg ( tJ 38 3 2::aJ 39 Qaqz [.t 38]::Qal6) [4]) .ret) (.seq (.reg ( fI 41 (.bin 0 .eql (.t 5) (.k (.c (.str [101,118,101,110]))))::mJ 40 41::[]) [2,4,5,40]) Qaln))
def Qalp:SC:=(.cond (.t 32) (.seq (.reg ( tJ 34 3 2::aJ 35 Qaqy [.t 34]::Qal5) [4]) .ret) (.seq (.reg ( fI 37 (.bin 0 .eql (.t 5) (.k (.c (.str [104,111,105,115,116]))))::mJ 36 37::[]) [2,4,5,36]) Qalo))
def Qalq:SC:=(.cond (.t 28) (.seq (.reg ( tJ 30 3 2::aJ 31 Qa3o [.t 30]::Qal4) [4]) .ret) (.seq (.reg ( fI 33 (.bin 0 .eql (.t 5) (.k (.c (.str [115,104,97,114,101]))))::mJ 32 33::[]) [2,4,5,32]) Qalp))
def Qalr:SC:=(.cond (.t 24) (.seq (.reg ( tJ 26 3 2::aJ 27 Qk7 [.t 26]::Qxp) [4]) .ret) (.seq (.reg ( fI 29 (.bin 0 .eql (.t 5) (.k (.c (.str [107,110,111,119,110]))))::mJ 28 29::[]) [2,4,5,28]) Qalq))
def Qals:SC:=(.cond (.t 20) (.seq (.reg ( tJ 22 3 2::aJ 23 Qazx [.t 22]::Qal3) [4]) .ret) (.seq (.reg ( fI 25 (.bin 0 .eql (.t 5) (.k (.c (.str [115,105,110,103,108,101]))))::mJ 24 25::[]) [2,4,5,24]) Qalr))
def Qalt:SC:=(.cond (.t 16) (.seq (.reg ( tJ 18 3 2::aJ 19 Qaqx [.t 18]::Qal2) [4]) .ret) (.seq (.reg ( fI 21 (.bin 0 .eql (.t 5) (.k (.c (.str [105,100,108,101]))))::mJ 20 21::[]) [2,4,5,20]) Qals))
def Qalu:SC:=(.cond (.t 10) (.seq (.dreg 5 [0,1,2,0,3,4] ( tJ 12 3 2::tJ 13 3 2::aJ 14 Qiy [.t 13]::Qal1) [4]) .ret) (.seq (.reg ( fI 17 (.bin 0 .eql (.t 5) (.k (.c (.str [115,112,108,105,116]))))::mJ 16 17::[]) [2,4,5,16]) Qalt))
def Qalv:SC:=(.cond (.t 6) (.seq (.reg ( tJ 8 3 2::aJ 9 Qnm [.t 8]::Qalz) [4]) .ret) (.seq (.reg ( fI 11 (.bin 0 .eql (.t 5) (.k (.c (.str [111,114,100,101,114]))))::mJ 10 11::[]) [2,4,5,10]) Qalu))
def Qalw:SC:=(.block 0 (.seq (.reg ( fI 7 (.bin 0 .eql (.t 5) (.k (.c (.str [114,101,97,99,104]))))::mJ 6 7::[]) [2,4,5,6]) Qalv))
def Qagc:List Item:=.e none none (.sto 3 (.t 4) (.t 53))::[]
def Qalx:SC:=(.seq (.reg ( tJ 52 3 2::aJ 53 Qaq0 [.t 52]::Qagc) [4]) .ret)
def Qaly:SC:=(.seq (.seq (.reg ( mJ 5 1::[]) [2,4,5]) Qalw) Qalx)
def Qa58:SC:=(.seq (.reg ( fI 2 (.box (.t 0))::eI 4 (.alloc [.int .i64 0,.int .i64 0,.sl true 5 []])::[]) [1,2,4]) Qaly)
def Qaj0:List RS:=[.cell 4 3 true]
theorem Qa4u:mFn prog Qum 2 54 Qa58 Qaj0=true:=by kernel_rfl
def Qxc:List Item:=fI 5 (.mv (.k (.c (.bool false))))::[]
def Qxd:List Item:=oJ 10 9::[]
def Qxe:List Item:=fI 5 (.mv (.k (.c (.bool false))))::[]
def Qasj:SC:=(.cond (.t 10) (.seq (.reg ( fI 11 (.bld [.sl true 3 []] [])::.e none none (.sto 1 (.t 4) (.t 11))::Qxe) [4,5]) .ret) .skip)
def Qxf:List Item:=.e none none (.sto 1 (.t 6) (.t 12))::[]
def Qxg:List Item:=fJ 31 0 6::.e none none (.sto 1 (.t 31) (.t 30))::[]
def Qxh:List Item:=.chk 21 none (.ld 1 false (.t 20))::fI 29 (.bsl 3 [.t 28])::eI 30 (.app 3 (.t 21) (.t 29))::Qxg
def Qask:SC:=(.reg ( mJ 18 7::cJ 19 .add 18 1::mJ 7 19::[]) [1,2,4,6,7])
def Qasl:SC:=(.seq (.block 1 (.dreg 13 [0,1,2,3,4,5,6,7,8,1,9,10,11,12] ( fJ 20 0 6::lJ 21 20::fJ 22 0 2::lJ 23 22::mJ 24 7::iJ 25 3 23 24::tJ 26 3 25::mJ 27 1::aJ 28 Qum [.t 26,.t 27]::Qxh) [1,2,4,6,7])) Qask)
def Qako:SC:=(.seq (.seq (.reg ( mJ 13 7::fJ 14 0 2::lJ 15 14::nJ 16 15::bJ 17 .lss 13 16::[]) [1,2,4,6,7,17]) (.cond (.t 17) .skip (.exit 0))) Qasl)
def Qsr:List Item:=oJ 34 33::[]
def Qss:List Item:=fI 5 (.mv (.k (.c (.bool false))))::[]
def Qaki:SC:=(.cond (.t 34) (.seq (.reg ( fI 35 (.bld [.sl true 3 []] [])::.e none none (.sto 1 (.t 4) (.t 35))::Qss) [4,5]) .ret) .skip)
def Qst:List Item:=fI 5 (.mv (.k (.c (.bool true))))::[]
def Qakj:SC:=(.seq (.reg ( tJ 36 1 6::.e none none (.sto 1 (.t 4) (.t 36))::Qst) [4,5]) .ret)
def Qakk:SC:=(.seq .gh (.seq (.seq (.reg ( tJ 32 1 6::aJ 33 Qbj [.t 32]::Qsr) [4,6,34]) Qaki) Qakj))
def Qakl:SC:=(.seq (.seq (.reg ( fI 7 (.mv (kI 0))::[]) [1,2,4,6,7]) (.block 0 (.loop Qako))) Qakk)
def Qakm:SC:=(.seq (.reg ( fI 12 (.bld [.sl true 3 []] [])::eI 6 (.alloc [.sl true 3 []])::Qxf) [1,2,4,6]) Qakl)
def Qakn:SC:=(.seq (.seq (.reg ( tJ 8 1 2::aJ 9 Qbj [.t 8]::Qxd) [1,2,4,10]) Qasj) Qakm)
def Qa55:SC:=(.seq (.reg ( fI 2 (.box (.t 0))::eI 4 (.alloc [.sl true 3 []])::Qxc) [1,2,4]) Qakn)
def Qr2:List RS:=[.cell 4 1 true,.tmp 5]
theorem Qa4r:mFn prog Quk 2 37 Qa55 Qr2=true:=by kernel_rfl
def Qgp:List Item:=fI 3 (.mv (.k (.c (.bool false))))::[]
def Qgq:List Item:=mJ 3 7::[]
def Qgr:List Item:=fI 6 (.ext (.t 5) 0)::fI 7 (.ext (.t 5) 1)::.e none none (.sto 1 (.t 2) (.t 6))::Qgq
def Qwi:SC:=(.seq (.reg ( tJ 4 1 1::eI 5 (.call Quk [.t 4,.k (.c (.str [115,105,110,103,108,101]))])::Qgr) [2,3]) .ret)
def Q86:SC:=(.seq (.reg ( fI 1 (.box (.t 0))::eI 2 (.alloc [.sl true 3 []])::Qgp) [1,2]) Qwi)
def Qlp:List RS:=[.cell 2 1 true,.tmp 3]
theorem Q3g:mFn prog Qef 1 8 Q86 Qlp=true:=by kernel_rfl
def Qyc:List Item:=mJ 4 10::[]
def Qyd:List Item:=.e none none (.sto 1 (.t 3) (.t 9))::Qyc
def Qye:List Item:=mJ 5 8::fI 9 (.ext (.t 5) 0)::fI 10 (.ext (.t 5) 1)::eI 3 (.alloc [.sl true 3 []])::Qyd
def Qyf:List Item:=aJ 8 Qef [.t 7]::Qye
def Qatp:SC:=(.cond (.t 12) (.seq (.reg ( fI 13 (.bsl 1 [])::fI 14 (.bld [.int .i64 0,.int .i64 0,.sl true 1 [],.int .i64 0] [(0,1,kI 1),(2,1,.t 13)])::fI 15 (.bsl 4 [.t 14])::fI 16 (.bld [.sl true 2 [],.sl true 4 [],.int .i64 0,.int .i64 0,.sl true 1 []] [(1,1,.t 15),(2,1,kI 3)])::fI 17 (.bsl 5 [.t 16])::fI 18 (.bld [.int .i64 0,.int .i64 0,.sl true 5 []] [(1,1,kI 1),(2,1,.t 17)])::fI 19 (.bsl 3 [.t 18])::fI 20 (.bld [.sl true 3 []] [(0,1,.t 19)])::.e none none (.sto 1 (.t 2) (.t 20))::[]) [2]) .ret) .skip)
def Qatq:SC:=(.seq (.reg ( tJ 21 1 3::.e none none (.sto 1 (.t 2) (.t 21))::[]) [2]) .ret)
def Qatr:SC:=(.seq (.seq (.reg ( mJ 11 4::oJ 12 11::[]) [2,3,12]) Qatp) Qatq)
def Qats:SC:=(.seq (.reg ( mJ 6 0::aJ 7 Qno [.t 6]::Qyf) [2,3,4]) Qatr)
def Qa6f:SC:=(.seq (.reg ( eI 2 (.alloc [.sl true 3 []])::[]) [0,2]) Qats)
def Q3x:List RS:=[.cell 2 1 true]
theorem Qa41:mFn prog Quq 1 22 Qa6f Q3x=true:=by kernel_rfl
def Qx9:List Item:=cJ 5 .eql 4 0::[]
def Qya:List Item:=.e none none (.sto 1 (.t 2) (.t 7))::[]
def Qatm:SC:=(.cond (.t 5) (.seq (.reg ( mJ 6 0::aJ 7 Qhf [.t 6]::Qya) [2]) .ret) .skip)
def Qyb:List Item:=.e none none (.sto 1 (.t 2) (.t 9))::[]
def Qatn:SC:=(.seq (.reg ( mJ 8 0::aJ 9 Quq [.t 8]::Qyb) [2]) .ret)
def Qato:SC:=(.seq (.seq (.reg ( mJ 3 0::aJ 4 Qn [.t 3,kI 8]::Qx9) [0,2,5]) Qatm) Qatn)
def Qa6e:SC:=(.seq (.reg ( eI 2 (.alloc [.sl true 3 []])::[]) [0,2]) Qato)
def Q3w:List RS:=[.cell 2 1 true]
theorem Qa40:mFn prog Qup 1 10 Qa6e Q3w=true:=by kernel_rfl
def Qpc:List Item:=cJ 5 .eql 4 0::[]
def Qpd:List Item:=.e none none (.sto 1 (.t 2) (.t 7))::[]
def Qahb:SC:=(.cond (.t 5) (.seq (.reg ( mJ 6 0::aJ 7 Qup [.t 6]::Qpd) [2]) .ret) .skip)
def Qpe:List Item:=.e none none (.sto 1 (.t 2) (.t 9))::[]
def Qahc:SC:=(.seq (.reg ( mJ 8 0::aJ 9 Qhf [.t 8]::Qpe) [2]) .ret)
def Qahd:SC:=(.seq (.seq (.reg ( mJ 3 0::aJ 4 Qn [.t 3,kI 3]::Qpc) [0,2,5]) Qahb) Qahc)
def Qat2:SC:=(.seq (.reg ( eI 2 (.alloc [.sl true 3 []])::[]) [0,2]) Qahd)
def Qp7:List RS:=[.cell 2 1 true]
theorem Qarm:mFn prog Qk8 1 10 Qat2 Qp7=true:=by kernel_rfl
def Qgm:List Item:=oJ 13 12::[]
def Qwb:SC:=(.cond (.t 13) (.seq (.reg ( mJ 14 5::mJ 4 14::[]) [4]) .ret) .skip)
def Qgn:List Item:=.e none none (.sto 3 (.t 6) (.t 19))::[]
def Qgo:List Item:=mJ 5 54::[]
def Qwc:SC:=(.cond (.t 48) (.reg ( mJ 49 5::mJ 50 7::mJ 51 8::fI 52 (.bsl 1 [.t 50,.t 51])::fI 53 (.bsl 1 [.t 52])::eI 54 (.app 1 (.t 49) (.t 53))::Qgo) [5,6,7,8]) .skip)
def Qwd:SC:=(.reg ( mJ 36 8::cJ 37 .add 36 1::mJ 8 37::[]) [5,6,7,8])
def Qwe:SC:=(.seq (.block 3 (.seq (.reg ( fJ 38 2 6::lJ 39 38::mJ 40 7::iJ 41 5 39 40::fJ 42 1 41::lJ 43 42::mJ 44 8::iJ 45 4 43 44::fJ 46 0 45::lJ 47 46::cJ 48 .eql 47 14::[]) [5,6,7,8,48]) Qwc)) Qwd)
def Qt9:SC:=(.seq (.seq (.reg ( mJ 27 8::fJ 28 2 6::lJ 29 28::mJ 30 7::iJ 31 5 29 30::fJ 32 1 31::lJ 33 32::nJ 34 33::bJ 35 .lss 27 34::[]) [5,6,7,8,35]) (.cond (.t 35) .skip (.exit 2))) Qwe)
def Qwf:SC:=(.reg ( mJ 25 7::cJ 26 .add 25 1::mJ 7 26::[]) [5,6,7])
def Qwg:SC:=(.seq (.block 1 (.seq (.reg ( fI 8 (.mv (kI 0))::[]) [5,6,7,8]) (.block 2 (.loop Qt9)))) Qwf)
def Qq8:SC:=(.seq (.seq (.reg ( mJ 20 7::fJ 21 2 6::lJ 22 21::nJ 23 22::bJ 24 .lss 20 23::[]) [5,6,7,24]) (.cond (.t 24) .skip (.exit 0))) Qwg)
def Qt4:SC:=(.seq (.reg ( mJ 55 5::mJ 4 55::[]) [4]) .ret)
def Qt5:SC:=(.seq (.seq (.reg ( fI 7 (.mv (kI 0))::[]) [5,6,7]) (.block 0 (.loop Qq8))) Qt4)
def Qt6:SC:=(.seq (.reg ( fJ 15 0 2::lJ 16 15::mJ 17 1::iJ 18 3 16 17::tJ 19 3 18::eI 6 (.alloc [.int .i64 0,.int .i64 0,.sl true 5 []])::Qgn) [5,6]) Qt5)
def Qt7:SC:=(.seq (.seq (.reg ( tJ 10 1 2::mJ 11 1::aJ 12 Q2t [.t 10,.t 11]::Qgm) [1,2,5,13]) Qwb) Qt6)
def Qt8:SC:=(.seq (.reg ( fI 9 (.bsl 1 [])::mJ 5 9::[]) [1,2,5]) Qt7)
def Q84:SC:=(.seq (.reg ( fI 2 (.box (.t 0))::fI 4 (.mv (.k (.c (.sl true 1 []))))::[]) [1,2]) Qt8)
def Qfm:List RS:=[.tmp 4]
theorem Q3f:mFn prog Qct 2 56 Q84 Qfm=true:=by kernel_rfl
def Qyr:List Item:=.e none none (.sto 1 (.t 3) (.t 7))::[]
def Qys:List Item:=eI 3 (.alloc [.sl true 3 []])::Qyr
def Qlx:List Item:=gT 19 12 (.len (.t 18))::gT 20 12 (.bin 0 .gtr (.t 19) (kI 0))::fI 21 (.pick (.t 12) (.t 20) (.k (.c (.bool false))))::[]
def Qat3:SC:=(.cond (.t 21) (.seq (.reg ( tJ 22 1 3::.e none none (.sto 1 (.t 2) (.t 22))::[]) [2]) .ret) .skip)
def Qat4:SC:=(.seq (.reg ( fJ 8 0 3::lJ 9 8::nJ 10 9::cJ 11 .gtr 10 1::mJ 12 11::gT 13 12 (.ld 1 true (.t 3))::gTf 14 12 0 3::gTl 15 12 14::gT 16 12 (.len (.t 15))::gT 17 12 (.bin 0 .sub (.t 16) (kI 1))::.e (some 18) (some (12,true)) (.call Qct [.t 13,.t 17])::Qlx) [0,2,3,4,21]) Qat3)
def Qat5:SC:=(.reg ( cJ 23 .add 4 1::mJ 4 23::[]) [0,2,4])
def Qat6:SC:=(.seq (.block 1 (.seq (.reg ( mJ 6 0::aJ 7 Qk8 [.t 6]::Qys) [0,2,3,4]) Qat4)) Qat5)
def Qaom:SC:=(.seq (.reg ( cJ 5 .lss 4 4::[]) [0,2,4,5]) (.seq (.cond (.t 5) .skip (.exit 0)) Qat6))
def Qyt:List Item:=.e none none (.sto 1 (.t 2) (.t 25))::[]
def Qat7:SC:=(.seq (.reg ( mJ 24 0::aJ 25 Qhf [.t 24]::Qyt) [2]) .ret)
def Qaol:SC:=(.seq (.seq (.reg ( fI 4 (.mv (kI 0))::[]) [0,2,4]) (.block 0 (.loop Qaom))) Qat7)
def Qa6i:SC:=(.seq (.reg ( eI 2 (.alloc [.sl true 3 []])::[]) [0,2]) Qaol)
def Q3z:List RS:=[.cell 2 1 true]
theorem Qa44:mFn prog Qut 1 26 Qa6i Q3z=true:=by kernel_rfl
def Qdf:List Item:=fI 3 (.mv (kI 0))::[]
def Qdg:List Item:=mJ 4 7::[]
def Qdh:List Item:=.e none none (.sto 1 (.t 5) (.t 9))::[]
def Qdi:List Item:=eI 5 (.alloc [.sl true 3 []])::Qdh
def Qdj:List Item:=mJ 3 24::[]
def Qdk:List Item:=.chk 10 none (.ld 1 true (.t 5))::.e none none (.sto 1 (.t 2) (.t 10))::Qdj
def Qnd:SC:=(.seq (.dreg 17 [0,1,2,3,4,5,6,7,8,9,10,11,12,13,14,0,15,16] ( tJ 10 1 5::mJ 11 4::fJ 12 0 5::lJ 13 12::nJ 14 13::cJ 15 .sub 14 1::fJ 16 0 5::lJ 17 16::nJ 18 17::cJ 19 .sub 18 1::fJ 20 0 5::lJ 21 20::nJ 22 21::fI 23 (.bsl 1 [.t 15,kI 0,.t 19,kI (-1),.t 22])::aJ 24 Q8 [.t 11,.t 23]::Qdk) [2,3]) .ret)
def Qne:SC:=(.seq (.reg ( mJ 8 4::aJ 9 Qut [.t 8]::Qdi) [2,4,5]) Qnd)
def Qnf:SC:=(.seq (.reg ( mJ 6 0::aJ 7 Quw [.t 6]::Qdg) [2,4]) Qne)
def Qq9:SC:=(.seq (.reg ( eI 2 (.alloc [.sl true 3 []])::Qdf) [0,2]) Qnf)
def Qfn:List RS:=[.cell 2 1 true,.tmp 3]
theorem Qp5:mFn prog Qcn 1 25 Qq9 Qfn=true:=by kernel_rfl
def Q1k:SC:=(.cond (.t 10) (.seq (.reg ( fI 2 (.mv (.k (.c (.bool true))))::[]) [2]) .ret) .skip)
def Qia:List Item:=mJ 4 15::[]
def Qib:List Item:=.e none none (.sto 1 (.t 3) (.t 14))::Qia
def Qic:List Item:=mJ 11 13::fI 14 (.ext (.t 11) 0)::fI 15 (.ext (.t 11) 1)::eI 3 (.alloc [.sl true 3 []])::Qib
def Qid:List Item:=mJ 5 18::[]
def Qie:List Item:=oJ 24 23::[]
def Qif:List Item:=aJ 23 Qi5 [.t 19,.t 22]::Qie
def Q1l:SC:=(.cond (.t 24) (.seq (.reg ( fI 2 (.mv (.k (.c (.bool false))))::[]) [2]) .ret) .skip)
def Q1m:SC:=(.cond (.t 93) (.seq (.reg ( fI 2 (.mv (.k (.c (.bool false))))::[]) [2]) .ret) .skip)
def Q1n:SC:=(.seq (.dreg 62 [0,1,2,3,4,5,6,7,8,9,10,11,12,13,14,15,16,17,18,19,20,21,22,23,24,25,26,27,28,29,30,31,32,33,34,35,36,37,38,39,40,41,42,43,44,45,46,47,48,49,50,51,52,53,54,55,56,57,58,59,60,61] ( fJ 32 0 3::lJ 33 32::mJ 34 4::iJ 35 3 33 34::fJ 36 2 35::lJ 37 36::mJ 38 7::fI 39 (.iad 1 (.t 38) (kI 0))::lJ 40 39::iJ 41 5 37 40::fJ 42 1 41::lJ 43 42::mJ 44 7::fI 45 (.iad 1 (.t 44) (kI 1))::lJ 46 45::iJ 47 4 43 46::fJ 48 0 47::lJ 49 48::cJ 50 .neq 49 14::mJ 51 50::gFm 52 51 6::gF 53 51 (.bin 0 .gtr (.t 52) (kI 0))::gFm 54 51 53::gTm 55 54 5::gTm 56 54 6::gT 57 54 (.bin 0 .sub (.t 56) (kI 1))::gT 58 54 (.iad 1 (.t 55) (.t 57))::gTl 59 54 58::gT 60 54 (.iad 1 (.t 59) (kI 0))::gTl 61 54 60::gTm 62 54 7::gT 63 54 (.iad 1 (.t 62) (kI 0))::gTl 64 54 63::gT 65 54 (.bin 0 .gtr (.t 61) (.t 64))::gTm 66 54 65::gFm 67 66 5::gFm 68 66 6::gF 69 66 (.bin 0 .sub (.t 68) (kI 1))::gF 70 66 (.iad 1 (.t 67) (.t 69))::gFl 71 66 70::gF 72 66 (.iad 1 (.t 71) (kI 0))::gFl 73 66 72::gFm 74 66 7::gF 75 66 (.iad 1 (.t 74) (kI 0))::gFl 76 66 75::gF 77 66 (.bin 0 .eql (.t 73) (.t 76))::gFm 78 66 77::gTm 79 78 5::gTm 80 78 6::gT 81 78 (.bin 0 .sub (.t 80) (kI 1))::gT 82 78 (.iad 1 (.t 79) (.t 81))::gTl 83 78 82::gT 84 78 (.iad 1 (.t 83) (kI 1))::gTl 85 78 84::gTm 86 78 7::gT 87 78 (.iad 1 (.t 86) (kI 1))::gTl 88 78 87::gT 89 78 (.bin 0 .geq (.t 85) (.t 88))::gF 90 66 (.pick (.t 78) (.t 89) (.k (.c (.bool false))))::gT 91 54 (.pick (.t 66) (.k (.c (.bool true))) (.t 90))::gF 92 51 (.pick (.t 54) (.t 91) (.k (.c (.bool false))))::fI 93 (.pick (.t 51) (.k (.c (.bool true))) (.t 92))::[]) [3,4,5,25,26,27,93]) Q1m)
def Qv1:SC:=(.reg ( cJ 94 .add 27 1::mJ 27 94::[]) [3,4,5,25,26,27])
def Qv2:SC:=(.seq (.block 1 (.seq (.reg ( mJ 29 27::iJ 30 1 25 27::lJ 31 30::mJ 6 29::mJ 7 31::[]) [3,4,5,6,7,25,26,27]) Q1n)) Qv1)
def Qt2:SC:=(.seq (.reg ( bJ 28 .lss 27 26::[]) [3,4,5,25,26,27,28]) (.seq (.cond (.t 28) .skip (.exit 0)) Qv2))
def Qv3:SC:=(.seq (.reg ( mJ 95 4::cJ 96 .neq 95 0::mJ 97 96::gFm 98 97 5::gF 99 97 (.len (.t 98))::gF 100 97 (.bin 0 .eql (.t 99) (kI 0))::fI 101 (.pick (.t 97) (.k (.c (.bool true))) (.t 100))::mJ 2 101::[]) [2]) .ret)
def Qv4:SC:=(.seq (.seq (.reg ( mJ 25 5::nJ 26 25::fI 27 (.mv (kI 0))::[]) [3,4,5,25,26,27]) (.block 0 (.loop Qt2))) Qv3)
def Qv5:SC:=(.seq (.seq (.reg ( mJ 19 5::tJ 20 1 3::mJ 21 4::aJ 22 Qct [.t 20,.t 21]::Qif) [3,4,5,24]) Q1l) Qv4)
def Qv6:SC:=(.seq (.reg ( tJ 16 1 3::mJ 17 4::aJ 18 Qee [.t 16,.t 17]::Qid) [3,4,5]) Qv5)
def Qv7:SC:=(.seq (.reg ( mJ 12 0::aJ 13 Qcn [.t 12]::Qic) [3,4]) Qv6)
def Qv8:SC:=(.seq (.seq (.reg ( mJ 8 0::nJ 9 8::cJ 10 .gtr 9 1048576::[]) [0,10]) Q1k) Qv7)
def Qacl:SC:=(.seq (.reg ( fI 2 (.mv (.k (.c (.bool false))))::[]) [0]) Qv8)
def Qg4:List RS:=[.tmp 2]
theorem Q9u:mFn prog Qlc 1 102 Qacl Qg4=true:=by kernel_rfl
def Qgf:List Item:=oJ 8 7::[]
def Qvb:SC:=(.cond (.t 8) (.seq (.reg ( fI 4 (.mv (.k (.c (.sl true 1 []))))::[]) [4]) .ret) .skip)
def Qgg:List Item:=mJ 4 14::[]
def Qvc:SC:=(.seq (.reg ( fJ 9 0 2::lJ 10 9::mJ 11 1::iJ 12 3 10 11::tJ 13 3 12::aJ 14 Qjm [.t 13]::Qgg) [4]) .ret)
def Qvd:SC:=(.seq (.seq (.reg ( tJ 5 1 2::mJ 6 1::aJ 7 Qk2 [.t 5,.t 6]::Qgf) [1,2,8]) Qvb) Qvc)
def Q4d:SC:=(.seq (.reg ( fI 2 (.box (.t 0))::fI 4 (.mv (.k (.c (.sl true 1 []))))::[]) [1,2]) Qvd)
def Qfk:List RS:=[.tmp 4]
theorem Q3d:mFn prog Qee 2 15 Q4d Qfk=true:=by kernel_rfl
def Qna:List Item:=oJ 23 22::[]
def Qacn:SC:=(.cond (.t 23) (.seq (.reg ( fI 4 (.mv (.k (.c (.bool false))))::[]) [4]) .ret) .skip)
def Qaco:SC:=(.seq (.dreg 10 [0,1,2,3,4,5,6,7,8,9] ( mJ 14 0::mJ 15 5::iJ 16 1 14 15::lJ 17 16::mJ 18 1::mJ 19 5::iJ 20 1 18 19::lJ 21 20::aJ 22 Qld [.t 17,.t 21]::Qna) [0,1,10,11,23]) Qacn)
def Qacp:SC:=(.reg ( cJ 24 .add 11 1::mJ 11 24::[]) [0,1,10,11])
def Qacq:SC:=(.seq (.block 1 (.seq (.reg ( mJ 13 11::mJ 5 13::[]) [0,1,5,10,11]) Qaco)) Qacp)
def Q82:SC:=(.seq (.reg ( bJ 12 .lss 11 10::[]) [0,1,10,11,12]) (.seq (.cond (.t 12) .skip (.exit 0)) Qacq))
def Qacr:SC:=(.seq (.reg ( mJ 25 0::nJ 26 25::mJ 27 1::nJ 28 27::bJ 29 .eql 26 28::mJ 4 29::[]) [4]) .ret)
def Qacs:SC:=(.seq (.seq (.reg ( mJ 6 0::nJ 7 6::mJ 8 1::nJ 9 8::fI 10 (.mn (.t 7) (.t 9))::fI 11 (.mv (kI 0))::[]) [0,1,10,11]) (.block 0 (.loop Q82))) Qacr)
def Qap6:SC:=(.seq (.reg ( fI 4 (.mv (.k (.c (.bool false))))::[]) [0,1]) Qacs)
def Qw4:List RS:=[.tmp 4]
theorem Qajq:mFn prog Qi5 2 30 Qap6 Qw4=true:=by kernel_rfl
def Qgh:List Item:=mJ 4 13::.e none none (.sto 5 (.t 5) (.t 15))::[]
def Qgi:List Item:=mJ 6 21::.e none none (.sto 4 (.t 7) (.t 23))::[]
def Qgj:List Item:=mJ 3 32::[]
def Qvi:SC:=(.cond (.t 26) (.reg ( mJ 27 3::mJ 28 4::mJ 29 6::fI 30 (.bsl 1 [.t 28,.t 29])::fI 31 (.bsl 1 [.t 30])::eI 32 (.app 1 (.t 27) (.t 31))::Qgj) [3,4,9,10,11,17,18,19]) .skip)
def Qvj:SC:=(.seq (.reg ( fJ 24 0 7::lJ 25 24::cJ 26 .eql 25 14::[]) [3,4,6,9,10,11,17,18,19,26]) Qvi)
def Qvk:SC:=(.reg ( cJ 33 .add 19 1::mJ 19 33::[]) [3,4,9,10,11,17,18,19])
def Qvl:SC:=(.seq (.block 3 (.seq (.reg ( mJ 21 19::iJ 22 4 17 19::tJ 23 4 22::eI 7 (.alloc [.int .i64 0,.int .i64 0,.sl true 1 [],.int .i64 0])::Qgi) [3,4,6,7,9,10,11,17,18,19]) Qvj)) Qvk)
def Qsk:SC:=(.seq (.reg ( bJ 20 .lss 19 18::[]) [3,4,9,10,11,17,18,19,20]) (.seq (.cond (.t 20) .skip (.exit 2)) Qvl))
def Qvm:SC:=(.seq (.reg ( fJ 16 1 5::lJ 17 16::nJ 18 17::fI 19 (.mv (kI 0))::[]) [3,4,9,10,11,17,18,19]) (.block 2 (.loop Qsk)))
def Qvn:SC:=(.reg ( cJ 34 .add 11 1::mJ 11 34::[]) [3,9,10,11])
def Qsg:SC:=(.seq (.block 1 (.seq (.reg ( mJ 13 11::iJ 14 5 9 11::tJ 15 5 14::eI 5 (.alloc [.sl true 2 [],.sl true 4 [],.int .i64 0,.int .i64 0,.sl true 1 []])::Qgh) [3,4,5,9,10,11]) Qvm)) Qvn)
def Qqe:SC:=(.seq (.reg ( bJ 12 .lss 11 10::[]) [3,9,10,11,12]) (.seq (.cond (.t 12) .skip (.exit 0)) Qsg))
def Qsh:SC:=(.seq (.reg ( mJ 35 3::mJ 2 35::[]) [2]) .ret)
def Qsi:SC:=(.seq (.seq (.reg ( fJ 8 2 1::lJ 9 8::nJ 10 9::fI 11 (.mv (kI 0))::[]) [3,9,10,11]) (.block 0 (.loop Qqe))) Qsh)
def Qsj:SC:=(.seq (.reg ( fI 3 (.mv (.k (.c (.sl true 1 []))))::[]) [1,3]) Qsi)
def Q4i:SC:=(.seq (.reg ( fI 1 (.box (.t 0))::fI 2 (.mv (.k (.c (.sl true 1 []))))::[]) [1]) Qsj)
def Qlm:List RS:=[.tmp 2]
theorem Q3e:mFn prog Qjm 1 36 Q4i Qlm=true:=by kernel_rfl
end Go.AE.Y

namespace Go.AE.Y
attribute [local instance] Classical.propDecidable
variable {g:Nat→List Nat} {n:Nat}
theorem Qayj {a b:Nat}:Qrh g a b=true↔Qhd g (-1) a=true∧Qhd g (-1) b=true∧¬Rch g (fun z=>(z:Int)=a) 0 b:=by
 simp only[Qrh,Bool.and_eq_true,Bool.not_eq_true',and_assoc]
 refine and_congr_right fun _=>and_congr_right fun _=>?_
 rw[←Bool.not_eq_true,rchB_iff]
theorem Rch.via {A:Nat→Prop} {a b:Nat} (h:Rch g A 0 b) (hn:¬Rch g (fun z=>(z:Int)=a) 0 b):Rch g A 0 a:=by
 induction h with
 |refl h=>
  by_cases ha:0=a
  ·subst ha;exact .refl h
  ·exact absurd (Rch.refl fun hh=>ha (by omega)) hn
 |@step y z h1 h2 h3 ih=>
  by_cases hy:Rch g (fun z=>(z:Int)=a) 0 y
  ·by_cases ha:z=a
   ·subst ha;exact .step h1 h2 h3
   ·exact absurd (Rch.step hy h2 fun hh=>ha (by omega)) hn
  ·exact ih hy
theorem Qazr {x a b:Nat} (h1:Qrh g x a=true) (h2:Qrh g a b=true):Qrh g x b=true:=by
 rw[Qayj]at *
 exact⟨h1.1,h2.2.1,fun h=>h1.2.2 (h.via h2.2.2)⟩
theorem Rch.two {A:Nat→Prop} {a b z:Nat} (hab:a≠b) (h:Rch g A 0 z):Rch g (fun w=>w=a∨w=b) 0 z∨Rch g (fun w=>(w:Int)=b) 0 a∨Rch g (fun w=>(w:Int)=a) 0 b:=by
 induction h with
 |refl _=>
  by_cases ha:0=a
  ·subst ha;exact .inr (.inl (.refl fun hh=>hab (by omega)))
  ·by_cases hb:0=b
   ·subst hb;exact .inr (.inr (.refl fun hh=>hab (by omega)))
   ·exact .inl (.refl fun hh=>hh.elim ha hb)
 |@step y z h1 h2 h3 ih=>
  rcases ih with h|h
  ·by_cases ha:z=a
   ·subst ha
    exact .inr (.inl (.step (h.mono fun w hw=>.inr (by omega)) h2 fun hh=>hab (by omega)))
   ·by_cases hb:z=b
    ·subst hb
     exact .inr (.inr (.step (h.mono fun w hw=>.inl (by omega)) h2 fun hh=>hab (by omega)))
    ·exact .inl (.step h h2 fun hh=>hh.elim ha hb)
  ·exact .inr h
theorem Qa3c {a b:Nat} (h1:Qrh g a b=true) (h2:Qrh g b a=true):a=b:=by
 by_cases hab:a=b
 ·exact hab
 rw[Qayj]at *
 rcases (rchB_iff.1 h1.1).two hab with h|h|h
 ·exact absurd (.inl rfl) h.snd
 ·exact absurd h h2.2.2
 ·exact absurd h h1.2.2
noncomputable def depL (n:Nat) (g:Nat→List Nat) (b:Nat):Nat:=((List.range n).filter fun a=>Qrh g a b).length
theorem Qa3m {α:Type} {p q:α→Bool} {l:List α} (h:∀x∈l,p x=true→q x=true) {y:α} (hy:y∈l) (hq:q y=true) (hp:p y=false):(l.filter p).length<(l.filter q).length:=by
 have le:∀(l:List α),(∀x∈l,p x=true→q x=true)→(l.filter p).length≤(l.filter q).length:=fun l=>by
  induction l with
  |nil=>intro _;simp
  |cons x l ih=>
   intro h
   have h1:=ih fun z hz=>h z (List.mem_cons_of_mem _ hz)
   have h2:=h x List.mem_cons_self
   cases hpx:p x with
   |false=>cases hqx:q x <;> simp[hpx,hqx] <;> omega
   |true=>have:=h2 hpx;simp[hpx,this];omega
 induction l with
 |nil=>simp at hy
 |cons x l ih=>
  have h2:=h x List.mem_cons_self
  have h3:=le l fun z hz=>h z (List.mem_cons_of_mem _ hz)
  rcases List.mem_cons.1 hy with rfl|hy
  ·simp[hq,hp];omega
  ·have h1:=ih (fun z hz=>h z (List.mem_cons_of_mem _ hz)) hy
   cases hpx:p x with
   |false=>cases hqx:q x <;> simp[hpx,hqx] <;> omega
   |true=>have:=h2 hpx;simp[hpx,this];omega
theorem Qbca {a b:Nat} (hb:b<n) (h:Qrh g a b=true) (hab:a≠b):depL n g a<depL n g b:=by
 refine Qa3m (fun x _ hx=>Qazr hx h) (y:=b) (List.mem_range.2 hb) ?_ ?_
 ·rw[Qa3e];exact (Qa3d h).2
 ·cases hc:Qrh g b a with
  |false=>rfl
  |true=>exact absurd (Qa3c h hc) hab
def Tree (n:Nat) (ids:List Int) (dp:Nat→Nat):Prop:=ids.length=n∧∀b,b<n→ids.getD b 0=-1∨∃a:Nat,ids.getD b 0=a∧a<n∧dp a<dp b
inductive Sub (ids:List Int) (b:Nat):Nat→Prop
 |refl:Sub ids b b
 |step {y x:Nat}:Sub ids b y→x<ids.length→ids.getD x 0=(y:Int)→Sub ids b x
variable {ids:List Int} {dp:Nat→Nat}
def Qn3 (ids:List Int) (b:Nat):List Nat:=(List.range ids.length).filter fun i=>decide (ids.getD i 0=(b:Int))
theorem kidsL_mem {b k:Nat}:k∈Qn3 ids b↔k<ids.length∧ids.getD k 0=(b:Int):=by simp[Qn3]
theorem Tree.up (t:Tree n ids dp) {b k:Nat} (hk:k<ids.length) (h:ids.getD k 0=(b:Int)):b<n∧dp b<dp k:=by
 have hk':k<n:=by rw[←t.1];exact hk
 rcases t.2 k hk' with h1|⟨a,h1,h2,h3⟩
 ·omega
 ·have:a=b:=by omega
  subst this;exact⟨h2,h3⟩
theorem Sub.dep (t:Tree n ids dp) {b x:Nat} (h:Sub ids b x):x=b∨dp b<dp x:=by
 induction h with
 |refl=>exact .inl rfl
 |step h1 h2 h3 ih=>
  have:=(t.up h2 h3).2
  rcases ih with rfl|ih
  ·exact .inr this
  ·exact .inr (by omega)
theorem Sub.kid {b k x:Nat} (hk:k∈Qn3 ids b) (h:Sub ids k x):Sub ids b x:=by
 obtain⟨h1,h2⟩:=kidsL_mem.1 hk
 induction h with
 |refl=>exact .step .refl h1 h2
 |step _ h3 h4 ih=>exact ih.step h3 h4
theorem Sub.kid_ne (t:Tree n ids dp) {b k:Nat} (hk:k∈Qn3 ids b):¬Sub ids k b:=fun h=>by
 obtain⟨h1,h2⟩:=kidsL_mem.1 hk
 have:=(t.up h1 h2).2
 rcases h.dep t with rfl|h
 ·omega
 ·omega
theorem Sub.line {a b x:Nat} (h1:Sub ids a x) (h2:Sub ids b x):Sub ids a b∨Sub ids b a:=by
 induction h1 with
 |refl=>exact .inr h2
 |@step y x h3 h4 h5 ih=>
  cases h2 with
  |refl=>exact .inl (.step h3 h4 h5)
  |@step y' _ h6 h7 h8=>
   have:y=y':=by omega
   subst this;exact ih h6
theorem Sub.kids_apart (t:Tree n ids dp) {b k j x:Nat} (hk:k∈Qn3 ids b) (hj:j∈Qn3 ids b) (h1:Sub ids k x) (h2:Sub ids j x):k=j:=by
 have one:∀{k j:Nat},k∈Qn3 ids b→j∈Qn3 ids b→Sub ids k j→k=j:=fun {k j} hk hj h=>by
  cases h with
  |refl=>rfl
  |@step y _ h3 h4 h5=>
   have h6:=(kidsL_mem.1 hj).2
   have:y=b:=by omega
   subst this
   exact absurd h3 (Sub.kid_ne t hk)
 rcases h1.line h2 with h|h
 ·exact one hk hj h
 ·exact (one hj hk h).symm
theorem Sub.split {b x:Nat} (h:Sub ids b x):x=b∨∃k∈Qn3 ids b,Sub ids k x:=by
 induction h with
 |refl=>exact .inl rfl
 |@step y x h1 h2 h3 ih=>
  rcases ih with rfl|⟨k,hk,h⟩
  ·exact .inr ⟨x,kidsL_mem.2 ⟨h2,h3⟩,.refl⟩
  ·exact .inr ⟨k,hk,h.step h2 h3⟩
theorem Sub.lt {b x:Nat} (hb:b<ids.length) (h:Sub ids b x):x<ids.length:=by
 cases h with
 |refl=>exact hb
 |step _ h _=>exact h
def potW (n:Nat) (w:Nat→Nat) (U:Nat→Prop) [DecidablePred U]:Nat:=(((List.range n).filter fun x=>decide (U x)).map w).sum
theorem Qa98 {w:Nat→Nat} {U V:Nat→Prop} {b:Nat} (hb:b<n) (hU:U b) (hV:∀x,V x↔U x∧x≠b):potW n w V+w b=potW n w U:=by
 have key:∀m,(((List.range m).filter fun x=>decide (V x)).map w).sum+(if b<m then w b else 0)=(((List.range m).filter fun x=>decide (U x)).map w).sum:=fun m=>by
  induction m with
  |zero=>simp
  |succ m ih=>
   rw[List.range_succ,List.filter_append,List.filter_append,List.map_append,List.map_append,List.sum_append,List.sum_append]
   by_cases hm:m=b
   ·subst hm
    have h1:decide (V m)=false:=decide_eq_false fun h=>((hV m).1 h).2 rfl
    have h2:decide (U m)=true:=decide_eq_true hU
    have h3:¬m<m:=by omega
    rw[if_neg h3]at ih
    simp[h1,h2];omega
   ·have h1:decide (V m)=decide (U m):=by rw[decide_eq_decide,hV];exact⟨fun h=>h.1,fun h=>⟨h,hm⟩⟩
    have h2:(b<m+1)=(b<m):=by rw[eq_iff_iff];omega
    simp only[List.filter_cons,List.filter_nil,h1,h2]
    omega
 have:=key n
 rw[if_pos hb]at this
 exact this
theorem Qbdm {w:Nat→Nat} {U V:Nat→Prop} (h:∀x,V x→U x):potW n w V≤potW n w U:=by
 have key:∀m,(((List.range m).filter fun x=>decide (V x)).map w).sum≤(((List.range m).filter fun x=>decide (U x)).map w).sum:=fun m=>by
  induction m with
  |zero=>simp
  |succ m ih=>
   rw[List.range_succ,List.filter_append,List.filter_append,List.map_append,List.map_append,List.sum_append,List.sum_append]
   by_cases hv:V m
   ·have h1:decide (V m)=true:=decide_eq_true hv
    have h2:decide (U m)=true:=decide_eq_true (h m hv)
    simp[h1,h2];omega
   ·have h1:decide (V m)=false:=decide_eq_false hv
    simp[h1];omega
 exact key n
end Go.AE.Y

namespace Go.AE.Y
attribute [local go_sem] cond_true cond_false Bool.not_true Bool.not_false
open Go.Proofs.Tryz
variable {H H0:Heap} {K:V→Heap→Prop} {E B Lg:List (Nat×Obj)}
theorem Qaq9 {fl:Bool} {l:List Nat} (hl:l.length≤2 ^ 30) (hK:∀(fl':Bool) (k:List Nat) H',Upd H H' []→k.Pairwise (· < ·)→(∀x,x∈k↔x∈l)→K (.c (.sl false 1 (Qaa k))) H') :
  Qw prog Qk5 [.c (.sl fl 1 (Qaa l))] H K:=by
 refine Qz ?_
 refine Qb Qat Qarj ?_
 refine Qa ?_
 simp only[go_sem]
 refine Qa ?_
 simp only[go_sem]
 refine Q3 ?_
 refine Qa ?_
 simp only[go_sem]
 refine Qh (Qc (Qu (fun m e1 H1=>∃(i:Nat) (fl':Bool) (ns:List Int),m=l.length-i∧i≤l.length∧ns.Pairwise (· < ·)∧(∀x,x∈ns↔∃y∈l.take i,(y:Int)=x)∧ns.length≤i∧Kn H H1 [] []∧
  lk 0 e1=.c (.sl fl 1 (Qaa l))∧lk 3 e1=.c (.sl fl' 1 (Qf ns))∧lk 4 e1=.c (.int .i64 i)) l.length ?_ ?_))
 ·exact⟨0,_,[],by omega,by omega,by simp,by simp,by simp,Kn.start0 H,rfl,rfl,rfl⟩
 ·rintro m e1 H1 ⟨i,fl',ns,hm,hi,ha,hns,hnl,kn,l0,l3,l4⟩
  refine Q3 ?_
  refine Qa ?_
  simp only[go_sem,l0,l3,l4,Q1]
  intro _
  refine Qh (Qd rfl ?_ ?_)
  ·intro hc
   have hlt:i<l.length:=by simpa using hc
   have hg:l.getD i 0=l[i]:=by simp[List.getD_eq_getElem?_getD,hlt]
   refine Qi ?_
   try simp only[go_sem]
   refine Qh (Qc ?_)
   refine Qq ?_
   simp only[go_sem,hlt,Q1,Qas _ _ hlt,hg]
   refine Qnv ha (by omega) fun fl2 ns2 H2 hu ha2 hm2 hl2=>?_
   have kn:=kn.call0 hu
   simp only[go_sem,Qo0]
   refine Qq ?_
   simp only[go_sem,X.next]
   refine⟨Qo (by omega) (by omega),l.length-(i+1),by omega,i+1,fl2,ns2,rfl,by omega,ha2,fun x=>?_,by omega,kn,?_⟩
   ·rw[hm2,hns,List.take_succ_eq_append_getElem hlt]
    constructor
    ·rintro (rfl|⟨y,hy,rfl⟩)
     ·exact⟨l[i],List.mem_append_right _ (List.mem_singleton.2 rfl),rfl⟩
     ·exact⟨y,List.mem_append_left _ hy,rfl⟩
    ·rintro⟨y,hy,rfl⟩
     rcases List.mem_append.1 hy with hy|hy
     ·exact .inr ⟨y,hy,rfl⟩
     ·simp only[List.mem_singleton]at hy;rw[hy];exact .inl rfl
   ·first|exact⟨rfl,rfl,rfl⟩|exact rfl|trivial
  ·intro hc
   have hge:l.length≤i:=by simpa using hc
   rw[List.take_of_length_le hge]at hns
   have hk:ns=(ns.map Int.toNat).map Int.ofNat:=by
    rw[List.map_map]
    conv=>lhs;rw[←List.map_id ns]
    refine List.map_congr_left fun x hx=>?_
    obtain⟨y,_,rfl⟩:=(hns x).1 hx
    simp
   have hko:Qf ns=Qaa (ns.map Int.toNat):=by (conv=>lhs;rw[hk]);rfl
   refine Qt ?_
   simp only[go_sem,X.next]
   refine Qa ?_
   simp only[go_sem,l3,hko]
   refine Qk ?_
   simp only[go_sem,Q6,Qad,Q3u,List.mem_singleton,forall_eq,RS.op]
   refine⟨_,.c _ _ (FrzR.same (Qbl _)).sl,hK true (ns.map Int.toNat) _ kn.fin ?_ fun x=>?_⟩
   ·rw[hk,List.pairwise_map]at ha
    exact ha.imp fun h=>by simpa using h
   ·rw[List.mem_map]
    constructor
    ·rintro⟨v,hv,rfl⟩
     obtain⟨y,hy,rfl⟩:=(hns v).1 hv
     simpa using hy
    ·exact fun h=>⟨(x:Int),(hns _).2 ⟨x,h,rfl⟩,by simp⟩
set_option maxHeartbeats 1000000 in
theorem Qaz4 {p rg:Int} {fl:Bool} {rows:List (List C)} {nx:Nat→List Int} (hg:GF rows nx) (hf:Qiu rows.length nx=true)
  (hK:∀(o:List Nat) H',Upd H H' []→o.length≤rows.length→(∀x,x∈o↔x<rows.length∧Qhd (nxN nx) (-1) x=true)→K (.c (.sl false 1 (Qaa o))) H') :
  Qw prog Qiy [.ag [.int .i64 p,.int .i64 rg,.sl fl 5 rows]] H K:=by
 have hn:=hg.n
 have hn0:=Qrj hf
 have hyb:∀(y:Nat) l a b d,C.sl fl 5 rows=.vsl l a b d→l≠y:=by intro y l a b d h;cases h
 refine Qz ?_
 refine Qb Qat Qa0d ?_
 refine Qa ?_
 simp only[go_sem]
 refine Qal ?_
 simp only[go_sem,Qbg]
 try intro _
 refine⟨by simp only[LIM];omega,fun al hal H1 h1=>?_⟩
 have kn:Kn H H1 [] ([(al,.vec 1 (Qm (List.replicate rows.length false)))]++[]):=(Kn.start0 H).al hal h1
 simp only[go_sem,Qsv]
 refine Qu1 (F:=H1) hf (by omega) (hg.grd H1 fl) (hyb al) rows.length 0 (List.replicate rows.length false) [] (.sl true 1 []) [] H1 _ (by simp) (by omega) hn0 (Qa1 _ _) kn.mid (.nil 1) (by simp) fun S o oc Lg0 H2 hd k2 hgo=>?_
 have kn:Kn H H2 [] ([(al,.vec 1 (Qm S))]++Lg0):=by
  have:=(kn.comp k2 rfl)
  simpa using this
 have how:=hgo.isOw
 have hsz:=hgo.elemSz
 have hlen:=hgo.lenC
 rw[Q1]at hlen
 have hgl:∀x,x<(List.replicate rows.length false).length→∀y∈nxN nx x,y<(List.replicate rows.length false).length:=by
  rw[List.length_replicate];exact fun x hx y hy=>Qajv hf hx hy
 have hx0:∀x∈[0],x<(List.replicate rows.length false).length:=by rw[List.length_replicate];simpa using hn0
 have hmem:∀x,x∈o↔x<rows.length∧Qhd (nxN nx) (-1) x=true:=fun x=>by
  rw[hd.list hgl hx0 (Qa1 _),Qacz hf hd,inL]
  by_cases hx:x<rows.length
  ·rw[Qd2 _ _ hx];simp[hx]
  ·rw[List.getD_eq_getElem?_getD,List.getElem?_eq_none (by simpa using hx)];simp[hx]
 have hol:o.length≤rows.length:=by
  have h1:=hd.count hgl hx0
  have h2:=Qayi S
  rw[hd.len,List.length_replicate]at h2
  simp only[List.length_nil]at h1
  omega
 simp only[go_sem,Qsu,how]
 refine Qa ?_
 simp only[go_sem,how]
 refine Q3 ?_
 refine Qa ?_
 have hok0:=eq_true (hgo.get kn).1
 simp only[go_sem,how,hok0,hlen]
 try intro _
 refine⟨Qo (by omega) (by omega),?_⟩
 refine Qh (Qc (Qu (fun m e1 H1=>∃(k:Nat) (r:List Nat) (t:C) (Lg:List (Nat×Obj)),m=k∧k≤o.length∧r.length+k=o.length∧(∀x,x∈r↔x∈o.drop k)∧Gr Lg 1 (Qaa r) t∧Kn H H1 [] (([(al,.vec 1 (Qm S))]++Lg0)++Lg)∧
  lk 3 e1=.c oc∧lk 4 e1=.c t∧lk 5 e1=.c (.int .i64 ((k:Int)-1))) o.length ?_ ?_))
 ·exact⟨o.length,[],_,[],rfl,by omega,by simp,by simp,.nil 1,by simpa using kn,rfl,rfl,rfl⟩
 ·clear kn hok0
  rintro m e1 H3 ⟨k,r,t,Lg,rfl,hk,hrl,hrm,hgr,kn,l3,l4,l5⟩
  have htw:=hgr.isOw
  have hok0:=eq_true (hgo.get kn.drop).1
  have hrw:=(hgo.get kn.drop).2
  refine Q3 ?_
  refine Qa ?_
  simp only[go_sem,l3,l4,l5,htw,how]
  refine Qh (Qd rfl ?_ ?_)
  ·intro hc
   have hge:(0:Int)≤(m:Int)-1:=by simpa using hc
   obtain⟨k,rfl⟩:∃k,m=k+1:=⟨m-1,by omega⟩
   have ek:((k+1:Nat):Int)-1=(k:Int):=by omega
   have hlt:k<o.length:=by omega
   have hgd:o.getD k 0=o[k]:=by simp[List.getD_eq_getElem?_getD,hlt]
   rw[ek]
   refine Qi ?_
   try simp only[go_sem]
   refine Qh (Qc ?_)
   refine Qq ?_
   simp only[go_sem,htw,how,hok0,hlen,hsz,hrw,hlt,Q1,Qas _ _ hlt,hgd]
   refine kn.growR (new:=Qaa [o[k]]) hgr (.mk' _ _ _ _) (Qbl _) (by simp only[Q1,LIM,List.length_cons,List.length_nil];omega) fun t2 Lg2 H4 hgr2 ht2 kn=>?_
   simp only[go_sem,Qsw,how,ht2]
   refine Qq ?_
   simp only[go_sem,X.next,how,ht2]
   refine⟨Qo (by omega) (by omega),k,by omega,k,r++[o[k]],t2,Lg2,rfl,by omega,by simp only[List.length_append,List.length_cons,List.length_nil];omega,fun x=>?_,?_,kn,?_⟩
   ·rw[List.drop_eq_getElem_cons hlt]
    simp only[List.mem_append,hrm,List.mem_cons,List.not_mem_nil,or_false]
    exact or_comm
   ·rw[Qu5];exact hgr2
   ·first|exact⟨rfl,rfl,rfl⟩|exact rfl|trivial
  ·intro hc
   have hk0:m=0:=by have:¬(0:Int)≤(m:Int)-1:=(by simpa using hc);omega
   subst hk0
   refine Qt ?_
   simp only[go_sem,X.next]
   refine Qa ?_
   simp only[go_sem,l4,htw]
   refine Qk ?_
   simp only[go_sem,Q6,Qad,Qadk,List.mem_singleton,forall_eq,RS.op,htw]
   exact⟨_,.c _ _ (hgr.frz kn (Qbl _)),hK r _ kn.fin (by omega) fun x=>by rw[hrm,List.drop_zero,hmem]⟩
noncomputable def rchL (n:Nat) (g:Nat→List Nat):List Nat:=(List.range n).filter (Qhd g (-1))
theorem Qaik {p rg:Int} {fl:Bool} {rows:List (List C)} {nx:Nat→List Int} (hg:GF rows nx) (hf:Qiu rows.length nx=true)
  (hK:∀H',Upd H H' []→K (.c (.sl false 1 (Qaa (rchL rows.length (nxN nx))))) H') :
  Qw prog Qfh [.ag [.int .i64 p,.int .i64 rg,.sl fl 5 rows]] H K:=by
 have hn:=hg.n
 refine Qz ?_
 refine Qb Qat Q9x ?_
 refine Qa ?_
 simp only[go_sem]
 refine Q3 ?_
 refine Qa ?_
 simp only[go_sem]
 refine Qa34 (hg.grd H fl) ?_
 simp only[go_sem,Qih,hf]
 refine Qh (Qd rfl (fun h=>by simp at h) (fun _=>?_))
 refine Qi ?_
 try simp only[go_sem]
 refine Qa ?_
 simp only[go_sem]
 refine Qaz4 hg hf fun o H1 hu hol hom=>?_
 have kn:=(Kn.start0 H).call0 hu
 simp only[go_sem,Qij]
 refine Qaq9 (by omega) fun _ k H2 hu ha hk=>?_
 have kn:=kn.call0 hu
 simp only[go_sem,Qii]
 have e:k=rchL rows.length (nxN nx):=Qait ha fun x=>by rw[hk,hom]
 refine Qk ?_
 simp only[go_sem,Q6,Qad,Qoo,List.mem_singleton,forall_eq,RS.op]
 rw[e]
 exact⟨_,.c _ _ (FrzR.same (Qbl _)).sl,hK _ kn.fin⟩
end Go.AE.Y

namespace Go.AE.Y
attribute [local go_sem] cond_true cond_false Bool.not_true Bool.not_false
open Go.Proofs.Tryz
variable {H H0:Heap} {K:V→Heap→Prop} {E B Lg:List (Nat×Obj)}
theorem Qrs (n:Nat) (v:Int):List.replicate n [C.int .i64 v]=Qf (List.replicate n v):=by simp[Qf]
theorem Qcg (l:List Int) (i:Nat) (v:Int):(Qf l).set i [C.int .i64 v]=Qf (l.set i v):=by simp[Qf,List.map_set]
def Qa2z (n:Nat) (l:List Nat) (P:List Int):Prop:=P.length=n∧∀x∈l,∃i,∃h:i<l.length,l[i]=x∧P.getD x 0=(i:Int)
set_option maxHeartbeats 1000000 in
theorem Qaz6 {n:Nat} {fl:Bool} {l:List Nat} (hn:n≤1000000) (hl:l.length≤1000000) (hx:∀x∈l,x<n) (hK:∀P H',Qa2z n l P→Upd H H' []→K (.c (.sl false 1 (Qf P))) H') :
  Qw prog Qp0 [.c (.int .i64 n),.c (.sl fl 1 (Qaa l))] H K:=by
 refine Qz ?_
 refine Qb Qat Qa0e ?_
 refine Qa ?_
 simp only[go_sem]
 refine Qa ?_
 simp only[go_sem]
 refine⟨by simp only[LIM];omega,fun y hy H1 h1=>?_⟩
 rw[Qrs]at h1
 have kn:=(Kn.start0 H).al hy h1
 simp only[go_sem,Qs1]
 refine Q3 ?_
 refine Qa ?_
 simp only[go_sem]
 refine Qh (Qc (Qu (fun m e1 H1=>∃(i:Nat) (P:List Int),m=n-i∧i≤n∧P.length=n∧Kn H H1 [] [(y,.vec 1 (Qf P))]∧
  lk 0 e1=.c (.int .i64 n)∧lk 1 e1=.c (.sl fl 1 (Qaa l))∧lk 5 e1=.c (.vsl y 1 0 n)∧lk 6 e1=.c (.int .i64 i)) n ?_ ?_))
 ·exact⟨0,List.replicate n 0,by omega,by omega,by simp,kn,rfl,rfl,rfl,rfl⟩
 ·clear kn h1
  rintro m e1 H2 ⟨i,P,hm,hi,hP,kn,l0,l1,l5,l6⟩
  have hy:=kn.l 0 rfl
  have htk:(Qf P).take n=Qf P:=List.take_of_length_le (by rw[Qe];omega)
  refine Q3 ?_
  refine Qa ?_
  simp only[go_sem,l0,l1,l5,l6]
  refine Qh (Qd rfl ?_ ?_)
  ·intro hc
   have hlt:i<n:=by simpa using hc
   refine Qi ?_
   try simp only[go_sem]
   refine Qh (Qc ?_)
   have hltP:i<P.length:=by omega
   refine Qq ?_
   simp only[go_sem,hy,hlt,Qe,hP,Qs _ _ hltP,Qcg,Nat.zero_add,Nat.le_refl]
   intro H3 h3
   have kn:=kn.stL 0 rfl h3
   refine Qq ?_
   simp only[go_sem,X.next]
   refine⟨Qo (by omega) (by omega),n-(i+1),by omega,i+1,_,rfl,by omega,by rw[List.length_set];exact hP,kn,?_⟩
   first|exact⟨rfl,rfl,rfl,rfl⟩|exact rfl|trivial
  ·intro hc
   refine Qt ?_
   simp only[go_sem,X.next]
   refine Q3 ?_
   refine Qa ?_
   simp only[go_sem,l0,l1,l5,l6]
   refine Qh (Qc (Qu (fun m e1 H1=>∃(j:Nat) (P:List Int),m=l.length-j∧j≤l.length∧P.length=n∧(∀x∈l.take j,∃i,∃h:i<l.length,l[i]=x∧P.getD x 0=(i:Int))∧Kn H H1 [] [(y,.vec 1 (Qf P))]∧
    lk 1 e1=.c (.sl fl 1 (Qaa l))∧lk 5 e1=.c (.vsl y 1 0 n)∧lk 7 e1=.c (.int .i64 j)) l.length ?_ ?_))
   ·exact⟨0,P,by omega,by omega,hP,by simp,kn,rfl,rfl,rfl⟩
   ·clear kn hy htk hP
    clear P
    rintro m e1 H3 ⟨j,P,hm,hj,hP,hpl,kn,l1,l5,l7⟩
    have hy:=kn.l 0 rfl
    refine Q3 ?_
    refine Qa ?_
    simp only[go_sem,l1,l5,l7,Q1]
    intro _
    refine Qh (Qd rfl ?_ ?_)
    ·intro hc
     have hlt:j<l.length:=by simpa using hc
     have hgd:l.getD j 0=l[j]:=by simp[List.getD_eq_getElem?_getD,hlt]
     have hxn:=hx _ (List.getElem_mem hlt)
     have hxP:l[j]<P.length:=by omega
     refine Qi ?_
     try simp only[go_sem]
     refine Qh (Qc ?_)
     refine Qq ?_
     simp only[go_sem,hy,hlt,Q1,Qas _ _ hlt,hgd,hxn,Qe,hP,Qs _ _ hxP,Qcg,Nat.zero_add,Nat.le_refl]
     intro H4 h4
     have kn:=kn.stL 0 rfl h4
     refine Qq ?_
     simp only[go_sem,X.next]
     refine⟨Qo (by omega) (by omega),l.length-(j+1),by omega,j+1,_,rfl,by omega,by rw[List.length_set];exact hP,fun x hxm=>?_,kn,?_⟩
     ·by_cases hxe:x=l[j]
      ·refine⟨j,hlt,hxe.symm,?_⟩
       rw[hxe,List.getD_eq_getElem?_getD,List.getElem?_set_self hxP];rfl
      ·rw[List.take_succ_eq_append_getElem hlt]at hxm
       rcases List.mem_append.1 hxm with h|h
       ·obtain⟨i,hi,h1,h2⟩:=hpl x h
        refine⟨i,hi,h1,?_⟩
        rw[List.getD_eq_getElem?_getD,List.getElem?_set_ne (fun h=>hxe h.symm),←List.getD_eq_getElem?_getD];exact h2
       ·exact absurd (List.mem_singleton.1 h) hxe
     ·first|exact⟨rfl,rfl,rfl⟩|exact rfl|trivial
    ·intro hc
     have hge:l.length≤j:=by simpa using hc
     rw[List.take_of_length_le hge]at hpl
     refine Qt ?_
     simp only[go_sem,X.next]
     refine Qa ?_
     simp only[go_sem,l5]
     refine Qk ?_
     simp only[go_sem,Q6,Qad,Qadl,List.mem_singleton,forall_eq,RS.op]
     exact⟨_,.c _ _ ((FrzR.same (Qv _)).vsl (kn.un 0 rfl) hy (by rw[Qe,hP])),hK P _ ⟨hP,hpl⟩ kn.fin⟩
end Go.AE.Y

namespace Go.AE.Y
attribute [local go_sem] cond_true cond_false Bool.not_true Bool.not_false
open Go.Proofs.Tryz
variable {H H0:Heap} {K:V→Heap→Prop} {E B Lg:List (Nat×Obj)}
def Qai8 (ids:List Int) (b n:Nat):List Nat:=(List.range n).filter fun i=>decide (ids.getD i 0=(b:Int))
theorem Qada (ids:List Int) (b n:Nat):Qai8 ids b (n+1)=Qai8 ids b n++if decide (ids.getD n 0=(b:Int))=true then [n]else []:=by
 simp only[Qai8,List.range_succ,List.filter_append]
 congr 1
 by_cases h:ids.getD n 0=(b:Int)
 ·rw[decide_eq_true h,if_pos rfl];simp only[List.filter_cons,List.filter_nil,h,decide_true,if_true]
 ·rw[decide_eq_false h,if_neg (by simp)];simp only[List.filter_cons,List.filter_nil,h,decide_false,Bool.false_eq_true,if_false]
theorem Qa31 (ids:List Int) (b n:Nat):(Qai8 ids b n).length≤n:=by
 have:=List.length_filter_le (fun i=>decide (ids.getD i 0=(b:Int))) (List.range n)
 simpa[Qai8]using this
theorem Qa36 {fl:Bool} {ids:List Int} {b:Nat} (hl:ids.length≤1000000) (hK:∀H',Upd H H' []→K (.c (.sl false 1 (Qaa (Qn3 ids b)))) H') :
  Qw prog Qun [.c (.sl fl 1 (Qf ids)),.c (.int .i64 b)] H K:=by
 refine Qz ?_
 refine Qb Qat Qa4x ?_
 refine Qa ?_
 simp only[go_sem]
 refine Qa ?_
 simp only[go_sem]
 refine Q3 ?_
 refine Qa ?_
 simp only[go_sem]
 refine Qh (Qc (Qu (fun m e1 H1=>∃(i:Nat) (t:C) (Lg:List (Nat×Obj)),m=ids.length-i∧i≤ids.length∧Gr Lg 1 (Qaa (Qai8 ids b i)) t∧Kn H H1 [] ([]++Lg)∧
  lk 0 e1=.c (.sl fl 1 (Qf ids))∧lk 1 e1=.c (.int .i64 b)∧lk 5 e1=.c t∧lk 6 e1=.c (.int .i64 i)) ids.length ?_ ?_))
 ·exact⟨0,_,[],by omega,by omega,.nil 1,Kn.start0 H,rfl,rfl,rfl,rfl⟩
 ·rintro m e1 H1 ⟨i,t,Lg,hm,hi,hgr,kn,l0,l1,l5,l6⟩
  have htw:=hgr.isOw
  refine Q3 ?_
  refine Qa ?_
  simp only[go_sem,l0,l1,l5,l6,htw,Qe]
  intro _
  refine Qh (Qd rfl ?_ ?_)
  ·intro hc
   have hlt:i<ids.length:=by simpa using hc
   have hkl:=Qa31 ids b i
   refine Qi ?_
   try simp only[go_sem]
   refine Qc6 (fun e2 H2=>∃(t:C) (Lg:List (Nat×Obj)),Gr Lg 1 (Qaa (Qai8 ids b (i+1))) t∧Kn H H2 [] ([]++Lg)∧
    lk 0 e2=.c (.sl fl 1 (Qf ids))∧lk 1 e2=.c (.int .i64 b)∧lk 5 e2=.c t∧lk 6 e2=.c (.int .i64 i)) ?_ ?_
   ·intro Q hnr _ _
    refine Qc ?_
    refine Qa ?_
    simp only[go_sem,htw,hlt,Qe,Qs _ _ hlt]
    refine Qd rfl ?_ ?_
    ·intro hc2
     refine Qq ?_
     simp only[go_sem,htw]
     refine kn.growR (B:=[]) (new:=Qaa [i]) hgr (.mk' _ _ _ _) (Qbl _) (by simp only[Q1,LIM,List.length_cons,List.length_nil];omega) fun t2 Lg2 H2 hgr2 ht2 kn=>?_
     simp only[go_sem,Qx0,ht2]
     refine hnr _ _ ⟨t2,Lg2,?_,kn,rfl,rfl,rfl,rfl⟩
     rw[Qada,hc2,if_pos rfl,Qu5];exact hgr2
    ·intro hc2
     refine Qi ?_
     try simp only[go_sem]
     refine hnr _ _ ⟨t,Lg,?_,kn,rfl,rfl,rfl,rfl⟩
     rw[Qada,hc2];simpa using hgr
   ·rintro e2 H2 ⟨t2,Lg2,hgr2,kn,l0,l1,l5,l6⟩
    have ht2:=hgr2.isOw
    refine Qq ?_
    simp only[go_sem,X.next,l0,l1,l5,l6,ht2]
    refine⟨Qo (by omega) (by omega),ids.length-(i+1),by omega,i+1,t2,Lg2,rfl,by omega,hgr2,kn,?_⟩
    first|exact⟨rfl,rfl,rfl,rfl⟩|exact rfl|trivial
  ·intro hc
   have hge:i=ids.length:=by have:ids.length≤i:=(by simpa using hc);omega
   refine Qt ?_
   simp only[go_sem,X.next]
   refine Qa ?_
   simp only[go_sem,l5,htw]
   refine Qk ?_
   simp only[go_sem,Q6,Qad,Qaj2,List.mem_singleton,forall_eq,RS.op,htw]
   have e:Qai8 ids b i=Qn3 ids b:=by rw[hge];rfl
   rw[e]at hgr
   exact⟨_,.c _ _ (hgr.frz kn (Qbl _)),hK _ kn.fin⟩
end Go.AE.Y

namespace Go.AE.Y
attribute [local go_sem] cond_true cond_false Bool.not_true Bool.not_false
open Go.Proofs.Tryz
variable {H H0:Heap} {K:V→Heap→Prop} {E B Lg:List (Nat×Obj)}
set_option maxHeartbeats 2000000 in
theorem Qaz7 {fl:Bool} {n:Nat} {g:Nat→List Nat} (hn0:0<n) (hn:n≤1000000) (hK:∀ids H',Tree n ids (depL n g)→Upd H H' []→K (.c (.sl false 1 (Qf ids))) H') :
  Qw prog Qp1 [.c (.sl fl 1 (Q16 n g n))] H K:=by
 have hm1:Int.toNat (-1)=0:=rfl
 refine Qz ?_
 refine Qb Qat Qa0g ?_
 refine Qa ?_
 simp only[go_sem]
 refine Qa ?_
 simp only[go_sem]
 refine Q3 ?_
 refine Qa ?_
 simp only[go_sem]
 refine Qh (Qc (Qu (fun m e1 H1=>∃(b:Nat) (ids:List Int) (t:C) (Lg:List (Nat×Obj)),m=n-b∧b≤n∧ids.length=b∧(∀x,x<b→ids.getD x 0=-1∨∃a:Nat,ids.getD x 0=a∧a<n∧depL n g a<depL n g x)∧Gr Lg 1 (Qf ids) t∧Kn H H1 [] ([]++Lg)∧
  lk 0 e1=.c (.sl fl 1 (Q16 n g n))∧lk 3 e1=.c t∧lk 4 e1=.c (.int .i64 b)) n ?_ ?_))
 ·exact⟨0,[],_,[],by omega,by omega,rfl,fun x hx=>by omega,.nil 1,Kn.start0 H,rfl,rfl,rfl⟩
 ·rintro m e1 H1 ⟨b,ids,t,Lg,hm,hb,hil,hids,hgr,kn,l0,l3,l4⟩
  have htw:=hgr.isOw
  refine Q3 ?_
  refine Qa ?_
  simp only[go_sem,l0,l3,l4,htw,Qnx]
  intro _
  refine Qh (Qd rfl ?_ ?_)
  ·intro hc
   have hlt:b<n:=by simpa using hc
   refine Qi ?_
   try simp only[go_sem]
   refine Qc6 (fun e2 H2=>∃(v:Int),(v=-1∨∃a:Nat,v=a∧a<n∧depL n g a<depL n g b)∧∃(t:C) (Lg:List (Nat×Obj)),Gr Lg 1 (Qf (ids++[v])) t∧Kn H H2 [] ([]++Lg)∧
    lk 0 e2=.c (.sl fl 1 (Q16 n g n))∧lk 3 e2=.c t∧lk 4 e2=.c (.int .i64 b)) ?_ ?_
   ·intro Q hnr _ _
    refine Qc ?_
    refine Qa ?_
    simp only[go_sem,htw]
    refine Q3 ?_
    refine Qa ?_
    simp only[go_sem,htw]
    refine Qh (Qc (Qu (fun m e1 H1'=>∃(a:Nat) (v:Int),m=n-a∧a≤n∧H1'=H1∧(v=-1∨∃a:Nat,v=a∧a<n∧depL n g a<depL n g b)∧
     lk 0 e1=.c (.sl fl 1 (Q16 n g n))∧lk 3 e1=.c t∧lk 4 e1=.c (.int .i64 b)∧lk 5 e1=.c (.int .i64 v)∧lk 6 e1=.c (.int .i64 a)) n ?_ ?_))
    ·exact⟨0,-1,by omega,by omega,rfl,.inl rfl,rfl,rfl,rfl,rfl,rfl⟩
    ·rintro m2 e2 H2 ⟨a,v,hm2,ha,rfl,hv,l0,l3,l4,l5,l6⟩
     refine Q3 ?_
     refine Qa ?_
     simp only[go_sem,l0,l3,l4,l5,l6,htw,Qnx]
     intro _
     refine Qh (Qd rfl ?_ ?_)
     ·intro hc2
      have hal:a<n:=by simpa using hc2
      have hbd:b<(Qe5 n g a).length:=by rw[Qdl];exact hlt
      refine Qi ?_
      try simp only[go_sem]
      refine Qc6 (fun e2 H2'=>∃(v:Int),H2'=H2∧(v=-1∨∃a:Nat,v=a∧a<n∧depL n g a<depL n g b)∧
       lk 0 e2=.c (.sl fl 1 (Q16 n g n))∧lk 3 e2=.c t∧lk 4 e2=.c (.int .i64 b)∧lk 5 e2=.c (.int .i64 v)∧lk 6 e2=.c (.int .i64 a)) ?_ ?_
      ·intro Q2 hnr2 _ _
       refine Qc ?_
       obtain⟨w,hw,hwn,hneg⟩:∃w:Nat,v.toNat=w∧w<n∧(decide (v<0)=false→v=(w:Int)):=by
        rcases hv with rfl|⟨a',rfl,h1,_⟩
        ·exact⟨0,rfl,hn0,fun h=>by simp at h⟩
        ·exact⟨a',by omega,h1,fun _=>rfl⟩
       have had:a<(Qe5 n g w).length:=by rw[Qdl];exact hal
       refine Qa ?_
       simp only[go_sem,htw,hal,hlt,hw,hwn,Qnx,Q3k hal,Q3k hwn,Qx,Qdl,Q0 _ _ hbd,Q0 _ _ had,Q2l hlt,Q2l hal]
       refine⟨fun h=>?_,?_⟩
       ·rw[Bool.and_eq_true,Bool.not_eq_true',decide_eq_false_iff_not]at h
        omega
       refine Qd rfl ?_ ?_
       ·intro hc3
        have hd:¬((a:Int)=b)∧Qrh g a b=true:=by
         by_cases hab:(a:Int)=b
         ·rw[decide_eq_true hab]at hc3;simp at hc3
         ·refine⟨hab,?_⟩
          cases hd:Qrh g a b with
          |true=>rfl
          |false=>rw[decide_eq_false hab,hd]at hc3;simp at hc3
        refine Qq ?_
        simp only[go_sem,htw]
        exact hnr2 _ _ ⟨(a:Int),rfl,.inr ⟨a,rfl,hal,Qbca hlt hd.2 fun h=>hd.1 (by rw[h])⟩,rfl,rfl,rfl,rfl,rfl⟩
       ·intro _
        refine Qi ?_
        try simp only[go_sem]
        exact hnr2 _ _ ⟨v,rfl,hv,rfl,rfl,rfl,rfl,rfl⟩
      ·rintro e3 H3 ⟨v2,rfl,hv2,l0,l3,l4,l5,l6⟩
       refine Qq ?_
       simp only[go_sem,l0,l3,l4,l5,l6,htw]
       refine⟨Qo (by omega) (by omega),?_⟩
       show ∃m,_
       exact⟨n-(a+1),by rw[hm2];exact Nat.sub_lt_sub_left hal (Nat.lt_succ_self a),a+1,v2,rfl,hal,rfl,hv2,rfl,rfl,rfl,rfl,rfl⟩
     ·intro hc2
      refine Qt ?_
      simp only[go_sem,X.next]
      refine Qq ?_
      simp only[go_sem,l0,l3,l4,l5,l6,htw]
      refine kn.growR (B:=[]) (new:=Qf [v]) hgr (.mk' _ _ _ _) (Qv _) (by simp only[Qe,LIM,List.length_cons,List.length_nil];omega) fun t2 Lg2 H3 hgr2 ht2 kn=>?_
      simp only[go_sem,Qs6,ht2]
      refine hnr _ _ ⟨v,hv,t2,Lg2,?_,kn,rfl,rfl,rfl⟩
      have:Qf (ids++[v])=Qf ids++Qf [v]:=by simp[Qf]
      rw[this];exact hgr2
   ·rintro e2 H2 ⟨v,hv,t2,Lg2,hgr2,kn,l0,l3,l4⟩
    have ht2:=hgr2.isOw
    refine Qq ?_
    simp only[go_sem,X.next,l0,l3,l4,ht2]
    refine⟨Qo (by omega) (by omega),n-(b+1),by omega,b+1,ids++[v],t2,Lg2,rfl,by omega,by simp[hil],fun x hx=>?_,hgr2,kn,?_⟩
    ·by_cases hxb:x<b
     ·have e:(ids++[v]).getD x 0=ids.getD x 0:=by simp[List.getD_eq_getElem?_getD,List.getElem?_append_left (show x<ids.length by omega)]
      rw[e];exact hids x hxb
     ·have hxe:x=b:=by omega
      subst hxe
      have e:(ids++[v]).getD x 0=v:=by simp[List.getD_eq_getElem?_getD,←hil]
      rw[e];exact hv
    ·first|exact⟨rfl,rfl,rfl⟩|exact rfl|trivial
  ·intro hc
   have hbe:b=n:=by have:n≤b:=(by simpa using hc);omega
   subst hbe
   refine Qt ?_
   simp only[go_sem,X.next]
   refine Qa ?_
   simp only[go_sem,l3,htw]
   refine Qk ?_
   simp only[go_sem,Q6,Qad,Qadn,List.mem_singleton,forall_eq,RS.op,htw]
   exact⟨_,.c _ _ (hgr.frz kn (Qv _)),hK ids _ ⟨hil,hids⟩ kn.fin⟩
end Go.AE.Y

namespace Go.AE.Y
open Go.Proofs.Tryz
variable {H:Heap} {K:V→Heap→Prop}
theorem Qa3v {op:Int} (hK:K (.c (.bool (decide (1≤op)&&decide (op≤14)))) H):Qw prog Qix [.c (.int .i64 op)] H K:=by
 refine Qb Qat Qa0c ?_
 refine Qa ?_
 simp only[go_sem]
 refine Qa ?_
 simp only[go_sem]
 refine Qcu ?_
 simp only[go_sem,Qsq]
 refine Qk ?_
 simp only[go_sem,Q6,Qad,Qadj,List.mem_singleton,forall_eq,RS.op]
 exact hK
theorem Qa8q {n:Int} (hK:K (.c (.bool (decide (0≤n)&&decide (n≤255)))) H):Qw prog Qk4 [.c (.int .i64 n)] H K:=by
 refine Qb Qat Qarg ?_
 refine Qa ?_
 simp only[go_sem]
 refine Qa ?_
 simp only[go_sem]
 refine Qcu ?_
 simp only[go_sem,Qoz]
 refine Qk ?_
 simp only[go_sem,Q6,Qad,Q3p,List.mem_singleton,forall_eq,RS.op]
 exact hK
theorem Qa7o {op:Int} (hK:K (.c (.bool (Qde op))) H):Qw prog Qnk [.c (.int .i64 op)] H K:=by
 refine Qb Qat Qa4o ?_
 refine Qa ?_
 simp only[go_sem]
 refine Qa ?_
 simp only[go_sem]
 refine Qa3v ?_
 simp only[go_sem,Qw6]
 refine Qk ?_
 simp only[go_sem,Q6,Qad,Qajx,List.mem_singleton,forall_eq,RS.op]
 have:∀a b c:Bool,(bif bif a then b else false then c else false)=(a&&b&&c):=by decide
 rw[this]
 have e:(decide (1≤op)&&decide (op≤14))=decide (1≤op∧op≤14):=by simp
 rw[e];exact hK
theorem Qain {j:Int} (hK:K (.c (.bool (decide (j=2) || decide (j=3)))) H):Qw prog Qf3 [.c (.int .i64 j)] H K:=by
 refine Qb Qat Qarh ?_
 refine Qa ?_
 simp only[go_sem]
 refine Qa ?_
 simp only[go_sem]
 refine Qk ?_
 simp only[go_sem,Q6,Qad,Q3q,List.mem_singleton,forall_eq,RS.op]
 have:∀a b:Bool,(bif a then true else b)=(a || b):=by decide
 first|(rw[this];exact hK)|exact hK
theorem Qary {j:Int} (hK:K (.c (.int .i64 (Qkw j))) H):Qw prog Qfc [.c (.int .i64 j)] H K:=by
 refine Qb Qat Q9s ?_
 have retf:∀(n:Int) (e:Env),Qkw j=n→lk 2 e=.c (.int .i64 n)→Q6 Qg3 K .ret e H:=by
  intro b e h1 h3
  simp only[go_sem,Q6,Qad,Qg3,List.mem_singleton,forall_eq,RS.op,h3]
  rw[←h1];exact hK
 refine Qa ?_
 simp only[go_sem]
 refine Q3 ?_
 refine Qa ?_
 simp only[go_sem]
 refine Qh (Qc ?_)
 refine Qa ?_
 simp only[go_sem]
 refine Qd rfl ?_ ?_
 ·intro hc
  refine Qa ?_
  simp only[go_sem]
  refine Qk ?_
  simp only[go_sem]
  exact retf 1 _ (by simp at hc;simp[Qkw,hc]) (by simp[lk])
 intro hc1
 refine Qa ?_
 simp only[go_sem]
 refine Qd rfl ?_ ?_
 ·intro hc
  refine Qa ?_
  simp only[go_sem]
  refine Qk ?_
  simp only[go_sem]
  exact retf 2 _ (by simp at hc;simp[Qkw,hc]) (by simp[lk])
 intro hc2
 refine Qa ?_
 simp only[go_sem]
 refine Qd rfl ?_ ?_
 ·intro hc
  refine Qa ?_
  simp only[go_sem]
  refine Qk ?_
  simp only[go_sem]
  exact retf 0 _ (by simp at hc;simp[Qkw,hc]) (by simp[lk])
 ·intro hc
  refine Qi ?_
  simp only[go_sem]
  refine Qa ?_
  simp only[go_sem]
  refine Qk ?_
  exact retf (-1) _ (by simp at hc hc1 hc2;simp[Qkw,hc,hc1,hc2]) (by simp[lk])
def Qais (op:Int):Int:=if op=1 then 0 else if op=2∨op=10∨op=11∨op=13 then 1 else 2
theorem Qa3u {op:Int} (hK:K (.c (.int .i64 (Qais op))) H):Qw prog Qiw [.c (.int .i64 op)] H K:=by
 refine Qb Qat Qajf ?_
 have retf:∀(n:Int) (e:Env),Qais op=n→lk 2 e=.c (.int .i64 n)→Q6 Qgb K .ret e H:=by
  intro b e h1 h3
  simp only[go_sem,Q6,Qad,Qgb,List.mem_singleton,forall_eq,RS.op,h3]
  rw[←h1];exact hK
 refine Qa ?_
 simp only[go_sem]
 refine Q3 ?_
 refine Qa ?_
 simp only[go_sem]
 refine Qh (Qc ?_)
 refine Qa ?_
 simp only[go_sem]
 refine Qd rfl ?_ ?_
 ·intro hc
  refine Qa ?_
  simp only[go_sem]
  refine Qk ?_
  simp only[go_sem]
  exact retf 0 _ (by simp at hc;simp[Qais,hc]) (by simp[lk])
 intro hc1
 have fin:∀(b:Bool) (e:Env),b=decide (op=2∨op=10∨op=11∨op=13)→lk 6 e=.c (.bool b)→Qac prog Qox (X.inBlock 0 (X.sq prog Qoy (Q6 Qgb K))) e H:=by
  intro b e hb l6
  refine Qd l6 ?_ ?_
  ·intro hc
   refine Qa ?_
   simp only[go_sem]
   refine Qk ?_
   simp only[go_sem]
   exact retf 1 _ (by rw[hc]at hb;have:=of_decide_eq_true hb.symm;simp at hc1;rw[Qais,if_neg hc1,if_pos this]) (by simp[lk])
  ·intro hc
   refine Qi ?_
   simp only[go_sem]
   refine Qa ?_
   simp only[go_sem]
   refine Qk ?_
   exact retf 2 _ (by rw[hc]at hb;have:=of_decide_eq_false hb.symm;simp at hc1;rw[Qais,if_neg hc1,if_neg this]) (by simp[lk])
 refine Q3 ?_
 refine Qa ?_
 simp only[go_sem]
 refine Qh (Qd rfl ?_ ?_)
 ·intro hc
  refine Qi ?_
  simp only[go_sem]
  exact fin true _ (decide_eq_true (.inl (of_decide_eq_true hc))).symm (by simp[lk];exact of_decide_eq_true hc)
 intro hc2
 refine Qa ?_
 simp only[go_sem]
 refine Qd rfl ?_ ?_
 ·intro hc
  refine Qi ?_
  simp only[go_sem]
  exact fin true _ (decide_eq_true (.inr (.inl (of_decide_eq_true hc)))).symm (by simp[lk];exact of_decide_eq_true hc)
 intro hc3
 refine Qa ?_
 simp only[go_sem]
 refine Qd rfl ?_ ?_
 ·intro hc
  refine Qi ?_
  simp only[go_sem]
  exact fin true _ (decide_eq_true (.inr (.inr (.inl (of_decide_eq_true hc))))).symm (by simp[lk];exact of_decide_eq_true hc)
 intro hc4
 refine Qq ?_
 simp only[go_sem]
 refine fin (decide (op=13)) _ ?_ (by simp[lk])
 have a2:=of_decide_eq_false hc2
 have a3:=of_decide_eq_false hc3
 have a4:=of_decide_eq_false hc4
 simp[a2,a3,a4]
end Go.AE.Y

namespace Go.AE.Y
open Go.Proofs.Tryz
variable {H:Heap} {K:V→Heap→Prop}
theorem Qaqh {l:List BlkD} (hf:∀b∈l,b.ins.length≤2 ^ 38∧b.phis.length≤2 ^ 38):Qky Qz5 l≤l.length * 549755813888:=by
 induction l with
 |nil=>simp[Qky]
 |cons y l ih=>
  have h1:=hf y List.mem_cons_self
  have h2:=ih fun b hb=>hf b (List.mem_cons_of_mem _ hb)
  simp only[Qky,List.map_cons,List.sum_cons,Qz5,List.length_cons]at *
  omega
set_option maxHeartbeats 1000000 in
theorem Qaqr {q:CodeD} {fl:Bool} (hf:q.fits) (hb:q.blocks.length≤160) (hK:∀H',Upd H H' []→K (.c (.int .i64 (cntQ q))) H') :
  Qw prog Qe8 [.ag [.int .i64 q.params,.int .i64 q.regs,.sl fl 5 (Ql q.blocks)]] H K:=by
 refine Qz ?_
 refine Qb Qat Q9n ?_
 have hsb:=Qaqh hf
 refine Qa ?_
 simp only[go_sem]
 refine Qa ?_
 simp only[go_sem]
 refine Q3 ?_
 refine Qa ?_
 simp only[go_sem,Qj]
 intro _
 refine Qh (Qc (Qu (fun m e1 H1=>∃(i:Nat),m=q.blocks.length-i∧i≤q.blocks.length∧Kn H H1 [] []∧
  e1=[(3,.c (.int .i64 (Qky Qz5 (q.blocks.take i):Nat))),(7,.c (.sl fl 5 (Ql q.blocks))),(8,.c (.int .i64 q.blocks.length)),(9,.c (.int .i64 i))]) q.blocks.length ?_ ?_))
 ·exact⟨0,by omega,by omega,Kn.start0 H,rfl⟩
 ·rintro m e1 H1 ⟨i,hm,hi,kn,rfl⟩
  refine Qa ?_
  simp only[go_sem]
  refine Qh (Qd rfl ?_ ?_)
  ·intro hc
   have hlt:i<q.blocks.length:=by simpa using hc
   have hbf:=hf _ (List.getElem_mem hlt)
   have hss:=Qip (f:=Qz5) hlt
   have hle:=Qax9 (f:=Qz5) (l:=q.blocks) (i+1)
   have hcy:Qz5 q.blocks[i]=q.blocks[i].ins.length+q.blocks[i].phis.length:=rfl
   have hmul:q.blocks.length * 549755813888≤160 * 549755813888:=Nat.mul_le_mul_right _ hb
   refine Qi ?_
   simp only[go_sem]
   refine Qh (Qc ?_)
   refine Qa ?_
   simp only[go_sem,hlt,Qj,Q5 _ _ hlt,BlkD.cells]
   intro x5 hx5 H2 h2
   have kn:=kn.al hx5 h2
   have hx5:=kn.l 0 rfl
   simp only[go_sem,Qhz,hx5]
   intro H3 h3
   have kn:Kn H H3 [] ([]++[(x5,.st [.sl false 2 (Qai q.blocks[i].phis),.sl false 4 (Qbk q.blocks[i].ins),.int .i64 q.blocks[i].jump,.int .i64 q.blocks[i].on,.sl false 1 (Qf q.blocks[i].next)])]):=kn.stL 0 rfl h3
   have hx5:=kn.l 0 rfl
   refine Qq ?_
   simp only[go_sem,hx5,Qam,Q9]
   intro _ _
   refine⟨Qo (by omega) (by omega),Qo (by omega) (by omega),?_⟩
   refine Qq ?_
   simp only[go_sem,X.next]
   refine⟨Qo (by omega) (by omega),q.blocks.length-(i+1),by omega,i+1,rfl,by omega,kn.drop,?_⟩
   rw[hss,hcy]
   have:((Qky Qz5 (q.blocks.take i):Nat):Int)+((q.blocks[i].phis.length:Int)+q.blocks[i].ins.length)=((Qky Qz5 (q.blocks.take i)+(q.blocks[i].ins.length+q.blocks[i].phis.length):Nat):Int):=by omega
   rw[this];rfl
  ·intro hc
   have hge:q.blocks.length≤i:=by simpa using hc
   refine Qt ?_
   simp only[go_sem,X.next]
   refine Qa ?_
   simp only[go_sem]
   refine Qk ?_
   simp only[go_sem,Q6,Qad,Qoi,List.mem_singleton,forall_eq,RS.op]
   rw[List.take_of_length_le hge]
   exact⟨_,.c _ _ (Qg rfl),hK _ kn.fin⟩
end Go.AE.Y

namespace Go.AE.Y
open Go.Proofs.Tryz
variable {H:Heap} {K:V→Heap→Prop}
theorem Qac8 {x7:Nat} {q:CodeD} {v:Int} (h7:H x7=.st q.cells) (hr:-(2^62)≤q.regs) (hr2:q.regs≤2^62) (hK:K (.c (.bool (decide (0≤v∧v≤q.regs-1)))) H) :
  Qw prog Qco [.c (.int .i64 v),.c (.ptr x7 0)] H K:=by
 refine Qb Qat Qaez ?_
 refine Qa ?_
 simp only[go_sem]
 refine Qa ?_
 simp only[go_sem,h7,CodeD.cells]
 refine⟨Qo (by omega) (by omega),?_⟩
 refine Qcu ?_
 simp only[go_sem,Qjq]
 refine Qk ?_
 simp only[go_sem,Q6,Qad,Qr0,List.mem_singleton,forall_eq,RS.op]
 have e:(decide (0≤v)&&decide (v≤q.regs-1))=decide (0≤v∧v≤q.regs-1):=by simp
 rw[e];exact hK
theorem Qaz2 {x7 x8:Nat} {q:CodeD} {v:Int} (h7:H x7=.st q.cells) (h8:H x8=.st [.fn Qco [.ptr x7 0]]) (hr:-(2^62)≤q.regs) (hr2:q.regs≤2^62) (hK:K (.c (.bool (!decide (0≤v∧v≤q.regs-1)))) H) :
  Qw prog Qgv [.c (.int .i64 v),.c (.ptr x8 0)] H K:=by
 refine Qb Qat Qae0 ?_
 refine Qa ?_
 simp only[go_sem]
 refine Qa ?_
 simp only[go_sem,h8,List.cons_append,List.nil_append,List.map_cons,List.map_nil]
 refine Qac8 h7 hr hr2 ?_
 simp only[go_sem,Qjr]
 refine Qk ?_
 simp only[go_sem,Q6,Qad,Qr1,List.mem_singleton,forall_eq,RS.op]
 exact hK
theorem Qaqq (p:Int→Bool) (l:List Int):(l.any fun x=>!p x) = !l.all p:=by
 induction l with
 |nil=>rfl
 |cons x l ih=>simp only[List.any_cons,List.all_cons,ih];cases p x <;> simp
set_option maxHeartbeats 1000000 in
theorem Qbcq {cs:List CodeD} {fl:Bool} {k:Nat} {x:InsD} (hk:k<cs.length) (hr:0≤cs[k].regs) (hr2:cs[k].regs≤300) (hcl:cs.length≤100) (hK:∀(H':Heap),Upd H H' []→K (.c (.bool (Q9k cs k x))) H') :
  Qw prog Qpz [.ag [.sl fl 3 (Qp cs)],.c (.int .i64 k),.ag x.cells] H K:=by
 refine Qz ?_
 refine Qb Qat Qa0b ?_
 refine Qa ?_
 simp only[go_sem,InsD.cells]
 refine Qa ?_
 simp only[go_sem,hk,Q4,Qaj _ _ hk,CodeD.cells]
 intro x7 hx7 H1 h1
 have kn:=(Kn.start0 H).al hx7 h1
 have hx7:=kn.l 0 rfl
 simp only[go_sem,Qsn,hx7]
 intro H2 h2
 have kn:=kn.stL 0 rfl h2
 refine Qa ?_
 simp only[go_sem]
 intro x8 hx8 H3 h3
 have kn:=kn.al hx8 h3
 have hx8:=kn.l 1 rfl
 simp only[go_sem,Qso,hx8]
 intro H4 h4
 have kn:Kn H H4 [] [(x7,.st cs[k].cells),(x8,.st [.fn Qco [.ptr x7 0]])]:=kn.stL 1 rfl h4
 have h7:H4 x7=.st cs[k].cells:=kn.l 0 rfl
 have h8:=kn.l 1 rfl
 have hrg:=Qar8 hk
 have retf:∀(b:Bool) (e:Env),Q9k cs k x=b→lk 6 e=.c (.bool b)→Q6 Qhp (fun x H'=>∃x',FrzV H' (un H) x x'∧K x' (H'.frz (un H))) .ret e H4:=by
  intro b e h1 h3
  simp only[go_sem,Q6,Qad,Qhp,List.mem_singleton,forall_eq,RS.op,h3]
  rw[←h1];exact⟨_,.c _ _ (Qg rfl),hK _ kn.fin⟩
 refine Q3 ?_
 refine Qa ?_
 simp only[go_sem]
 refine Qa3v ?_
 simp only[go_sem,Qsp]
 have rest2:∀(E1:Env) (b:Bool),insH cs[k].regs x=true→insT cs[k].regs x=(!b)→lk 1 E1=.c (.int .i64 k)→lk 3 E1=.c (.pp [.sl fl 3 (Qp cs)])→lk 5 E1=.c (.pp [.int .i64 x.op,.int .i64 x.to,.sl false 1 (Qf x.args),.int .i64 x.n])→lk 45 E1=.c (.bool b)→
   Qac prog (s_im_insOk_8.seq Qsl) (Q6 Qhp (fun x H'=>∃x',FrzV H' (un H) x x'∧K x' (H'.frz (un H)))) E1 H4:=by
  intro E1 b hb1 hb2 l1 l3 l5 l45
  refine Qh (Qd l45 ?_ ?_)
  ·intro hc
   refine Qa ?_
   simp only[go_sem]
   refine Qk ?_
   simp only[go_sem]
   exact retf false _ (by rw[Q9k,hrg,hb2,hc];simp) (by simp[lk])
  intro hc
  rw[hc]at hb2
  have hG:Q9k cs k x=insL cs k x:=by rw[Q9k,hrg,hb1,hb2];rfl
  have hop14:1≤x.op∧x.op≤14:=by
   simp only[insH,Bool.and_eq_true,decide_eq_true_eq]at hb1
   exact hb1.1
  refine Qi ?_
  simp only[go_sem]
  refine Q3 ?_
  refine Qa ?_
  simp only[go_sem,l1,l3,l5]
  refine Qh (Qc ?_)
  refine Qa ?_
  simp only[go_sem]
  refine Qd rfl ?_ ?_
  ·intro hc
   have hop:x.op=1:=of_decide_eq_true hc
   have hL:insL cs k x=(decide ((x.args.length:Int)=0)&&(decide (0≤x.n)&&decide (x.n≤255))):=by
    rw[insL,if_neg (by omega)]
    simp[Qpv,hop]
   refine Qa ?_
   simp only[go_sem,Qe]
   intro _
   refine⟨fun hb=>?_,fun hb=>?_⟩
   ·refine Qa8q ?_
    simp only[go_sem,Qjc]
    refine Qk ?_
    simp only[go_sem]
    refine retf _ _ ?_ (by simp[lk];rfl)
    have hb':x.args=[]:=List.length_eq_zero_iff.1 (by have:=of_decide_eq_true hb;omega)
    rw[hG,hL];simp[hb']
   ·simp only[go_sem,Qjc,hb]
    refine Qk ?_
    simp only[go_sem]
    exact retf false _ (by rw[hG,hL,hb];rfl) (by simp[lk])
  intro hc1
  have hop1:¬x.op=1:=of_decide_eq_false hc1
  refine Qa ?_
  simp only[go_sem]
  refine Qd rfl ?_ ?_
  ·intro hc
   have hop:x.op=14:=of_decide_eq_true hc
   rw[insL,if_pos hop]at hG
   refine Qal ?_
   simp only[go_sem]
   refine⟨Qo (by omega) (by omega),?_⟩
   refine Qcu ?_
   by_cases hin:0≤x.n∧x.n≤(k:Int)-1
   ·obtain⟨m,hm⟩:=Int.eq_ofNat_of_zero_le hin.1
    have hmk:m<cs.length:=by omega
    have h1:(0≤(m:Int))=True:=eq_true (by omega)
    have h2:((m:Int)≤(k:Int)-1)=True:=eq_true (by omega)
    simp only[go_sem,Qd6,hm,h1,h2,hmk,decide_true,Bool.and_self,Q4,Qaj _ _ hmk,CodeD.cells,Qe]
    refine Qk ?_
    simp only[go_sem]
    refine retf _ _ ?_ (by simp[lk];rfl)
    rw[hG,hm,Int.toNat_natCast,Qar1 hmk]
    simp only[h1,h2,and_self,decide_true,Bool.true_and]
   ·have hin':(decide (0≤x.n)&&decide (x.n≤(k:Int)-1))=false:=by simpa using hin
    have hin2:decide (0≤x.n∧x.n≤(k:Int)-1)=false:=by simpa using hin
    by_cases hm:x.n.toNat<cs.length
    ·simp only[go_sem,Qd6,hin',Qaj _ _ hm,CodeD.cells]
     refine Qk ?_
     simp only[go_sem]
     exact retf false _ (by rw[hG,hin2];rfl) (by simp[lk])
    ·have hgd:(Qp cs).getD x.n.toNat []=[]:=by
      rw[List.getD_eq_getElem?_getD,List.getElem?_eq_none (by rw[Q4];omega)];rfl
     simp only[go_sem,Qd6,hin',hgd,List.take_nil,List.headD_nil]
     refine Qk ?_
     simp only[go_sem]
     exact retf false _ (by rw[hG,hin2];rfl) (by simp[lk])
  ·intro hc
   have hop:¬x.op=14:=of_decide_eq_false hc
   have hA:Qpv x.op=Qais x.op:=by
    rw[Qpv,Qais,if_neg hop1,if_neg hop1]
    split
    ·rfl
    ·rw[if_pos (by omega)]
   have hL:insL cs k x=(decide (x.n=0)&&decide ((x.args.length:Int)=Qais x.op)):=by
    rw[insL,if_neg hop,hA]
    by_cases hn:x.n=0
    ·simp[hn]
    ·simp[hn,hop1]
   refine Qi ?_
   simp only[go_sem]
   refine Qal ?_
   simp only[go_sem,Qe]
   refine⟨fun hb=>?_,fun hb=>?_⟩
   ·refine Qa3u ?_
    simp only[go_sem,Qhb,hb,Qe]
    refine Qk ?_
    refine retf _ _ ?_ (by simp[lk];rfl)
    have hb':=of_decide_eq_true hb
    rw[hG,hL];simp[hb']
   ·simp only[go_sem,Qhb,hb,Qe]
    refine Qk ?_
    exact retf false _ (by rw[hG,hL,hb];rfl) (by simp[lk])
 have rest:∀(E1:Env) (b:Bool),insH cs[k].regs x=(!b)→lk 1 E1=.c (.int .i64 k)→lk 3 E1=.c (.pp [.sl fl 3 (Qp cs)])→lk 5 E1=.c (.pp [.int .i64 x.op,.int .i64 x.to,.sl false 1 (Qf x.args),.int .i64 x.n])→lk 8 E1=.c (.ptr x8 0)→lk 24 E1=.c (.bool b)→
   Qac prog (s_im_insOk_4.seq Qsm) (Q6 Qhp (fun x H'=>∃x',FrzV H' (un H) x x'∧K x' (H'.frz (un H)))) E1 H4:=by
  intro E1 b hb l1 l3 l5 l8 l24
  refine Qh (Qd l24 ?_ ?_)
  ·intro hc
   refine Qa ?_
   simp only[go_sem]
   refine Qk ?_
   simp only[go_sem]
   exact retf false _ (by rw[Q9k,hrg,hb,hc];rfl) (by simp[lk])
  intro hc
  rw[hc]at hb
  refine Qi ?_
  simp only[go_sem]
  refine Q3 ?_
  refine Qa ?_
  simp only[go_sem,l1,l3,l5,l8]
  refine Qa7o ?_
  cases hmk:Qde x.op with
  |true=>
   simp only[go_sem,cond_true,cond_false,Bool.not_true,Bool.not_false,Qjb,l1,l3,l5,l8,h8]
   refine Qac8 h7 (by omega) (by omega) ?_
   have hT:insT cs[k].regs x=decide (0≤x.to∧x.to≤cs[k].regs-1):=by rw[insT,hmk];rfl
   cases hd:decide (0≤x.to∧x.to≤cs[k].regs-1)with
   |true=>
    simp only[go_sem,cond_true,cond_false,Bool.not_true,Bool.not_false,Qey,l1,l3,l5,l8,h8]
    refine Qa7o ?_
    simp only[go_sem,cond_true,cond_false,Bool.not_true,Bool.not_false,Qex,l1,l3,l5,l8,hmk]
    exact rest2 _ false hb (by rw[hT,hd];rfl) (by simp[lk]) (by simp[lk]) (by simp[lk]) (by simp[lk])
   |false=>
    simp only[go_sem,cond_true,cond_false,Bool.not_true,Bool.not_false,Qey,Qex,l1,l3,l5,l8,h8]
    exact rest2 _ true hb (by rw[hT,hd];rfl) (by simp[lk]) (by simp[lk]) (by simp[lk]) (by simp[lk])
  |false=>
   have hT:insT cs[k].regs x=decide (x.to=-1):=by rw[insT,hmk];rfl
   simp only[go_sem,cond_true,cond_false,Bool.not_true,Bool.not_false,Qjb,Qey,l1,l3,l5,l8,h8]
   refine Qa7o ?_
   simp only[go_sem,cond_true,cond_false,Bool.not_true,Bool.not_false,Qex,l1,l3,l5,l8,hmk]
   refine rest2 _ (!decide (x.to=-1)) hb ?_ ?_ ?_ ?_ ?_
   ·rw[hT];simp
   ·rfl
   ·rfl
   ·rfl
   ·rfl
 cases hi:(decide (1≤x.op)&&decide (x.op≤14))with
 |false=>
  simp only[go_sem,Qja]
  refine rest _ true ?_ (by simp[lk]) (by simp[lk]) (by simp[lk]) (by simp[lk]) (by simp[lk])
  have:decide (1≤x.op∧x.op≤14)=false:=by simpa using hi
  rw[insH,this];rfl
 |true=>
  simp only[go_sem,h8]
  refine Qgt (p:=fun r=>!decide (0≤r∧r≤cs[k].regs-1)) (.mk' _ _ _ _) rfl (fun v K' hv hK'=>Qaz2 h7 h8 (by omega) (by omega) hK') ?_
  simp only[go_sem,Qja]
  refine rest _ (x.args.any fun r=>!decide (0≤r∧r≤cs[k].regs-1)) ?_ (by simp[lk]) (by simp[lk]) (by simp[lk]) (by simp[lk]) (by simp[lk])
  have:decide (1≤x.op∧x.op≤14)=true:=by simpa using hi
  rw[insH,this,Qaqq,Qlq];simp
end Go.AE.Y

namespace Go.AE.Y
attribute [local go_sem] cond_true cond_false Bool.not_true Bool.not_false
open Go.Proofs.Tryz
variable {H:Heap} {K:V→Heap→Prop}
theorem Qaip {fl:Bool} {l:List InsD} {f:Nat} {caps:List C} {p:InsD→Bool}
  (hf:∀(x:InsD) (H1:Heap) (K':V→Heap→Prop),x∈l→(∀H2,Upd H1 H2 []→K' (.c (.bool (p x))) H2)→Qw prog f ([.ag x.cells]++caps.map .c) H1 K')
  (hK:∀(r:Int) (H':Heap),Upd H H' []→decide (0≤r)=l.any p→K (.c (.int .i64 r)) H') :
  Qw prog Qcw [.c (.sl fl 4 (Qbk l)),.c (.fn f caps)] H K:=by
 refine Qz ?_
 refine Qb Qat Qrv ?_
 refine Qa ?_
 simp only[go_sem]
 refine Q3 ?_
 refine Qa ?_
 simp only[go_sem,Qam]
 intro hl
 simp only[LIM]at hl
 refine Qh (Qc (Qu (fun m e1 H1=>∃(i:Nat),m=l.length-i∧i≤l.length∧Kn H H1 [] []∧(∀x∈l.take i,p x=false)∧e1=[(0,.c (.sl fl 4 (Qbk l))),(1,.c (.fn f caps)),(7,.c (.int .i64 l.length)),(8,.c (.int .i64 i))]) l.length ?_ ?_))
 ·exact⟨0,by omega,by omega,Kn.start0 H,by simp,rfl⟩
 ·rintro m e1 H1 ⟨i,hm,hi,kn,hall,rfl⟩
  refine Qa ?_
  simp only[go_sem]
  refine Qh (Qd rfl ?_ ?_)
  ·intro hc
   have hlt:i<l.length:=by simpa using hc
   refine Qi ?_
   simp only[go_sem]
   refine Qh (Qc ?_)
   refine Qa ?_
   simp only[go_sem]
   refine Qa ?_
   simp only[go_sem,hlt,Qam,Qbq _ _ hlt,InsD.take4,InsD.allOw,InsD.len4]
   refine hf _ _ _ (List.getElem_mem hlt) fun H2 hu=>?_
   have kn:=kn.call0 hu
   refine Qd rfl ?_ ?_
   ·intro hc2
    refine Qa ?_
    simp only[go_sem]
    refine Qk ?_
    simp only[go_sem,X.next,Q6,Qad,Qdd,List.mem_singleton,forall_eq,RS.op]
    refine⟨_,.c _ _ (Qg rfl),hK _ _ kn.fin ?_⟩
    have:l.any p=true:=List.any_eq_true.2 ⟨_,List.getElem_mem hlt,hc2⟩
    rw[this];simp
   ·intro hc2
    refine Qi ?_
    simp only[go_sem]
    refine Qq ?_
    simp only[go_sem,X.next]
    refine⟨Qo (by omega) (by omega),l.length-(i+1),by omega,i+1,rfl,by omega,kn,?_,rfl⟩
    rw[List.take_succ_eq_append_getElem hlt]
    intro x hx
    rcases List.mem_append.1 hx with hx|hx
    ·exact hall x hx
    ·simp only[List.mem_singleton]at hx;subst hx;exact hc2
  ·intro hc
   have hge:l.length≤i:=by simpa using hc
   rw[List.take_of_length_le hge]at hall
   refine Qt ?_
   simp only[go_sem,X.next]
   refine Qa ?_
   simp only[go_sem]
   refine Qk ?_
   simp only[go_sem,Q6,Qad,Qdd,List.mem_singleton,forall_eq,RS.op]
   refine⟨_,.c _ _ (Qg rfl),hK _ _ kn.fin ?_⟩
   have:l.any p=false:=by
    cases hc:l.any p with
    |false=>rfl
    |true=>obtain⟨x,hx,hp⟩:=List.any_eq_true.1 hc;rw[hall x hx]at hp;exact absurd hp (by simp)
   rw[this];rfl
theorem Q2d {fl:Bool} {l:List InsD} {f:Nat} {caps:List C} {p:InsD→Bool}
  (hf:∀(x:InsD) (H1:Heap) (K':V→Heap→Prop),x∈l→(∀H2,Upd H1 H2 []→K' (.c (.bool (p x))) H2)→Qw prog f ([.ag x.cells]++caps.map .c) H1 K')
  (hK:∀(H':Heap),Upd H H' []→K (.c (.bool (l.any p))) H') :
  Qw prog Qb8 [.c (.sl fl 4 (Qbk l)),.c (.fn f caps)] H K:=by
 refine Qb Qat Qlh ?_
 refine Qa ?_
 simp only[go_sem]
 refine Qa ?_
 simp only[go_sem]
 refine Qaip hf fun r H' hu hr=>?_
 simp only[go_sem,Qc5]
 refine Qk ?_
 simp only[go_sem,Q6,Qad,Qec,List.mem_singleton,forall_eq,RS.op]
 rw[hr];exact hK _ hu
theorem Qpw {x5:Nat} {q:CodeD} {v:Int} (h5:H x5=.st q.cells) (hr:-(2^62)≤q.regs) (hr2:q.regs≤2^62) (hK:K (.c (.bool (decide (0≤v∧v≤q.regs-1)))) H) :
  Qw prog Qag [.c (.int .i64 v),.c (.ptr x5 0)] H K:=by
 refine Qb Qat Q9o ?_
 refine Qa ?_
 simp only[go_sem]
 refine Qa ?_
 simp only[go_sem,h5,CodeD.cells]
 refine⟨Qo (by omega) (by omega),?_⟩
 refine Qcu ?_
 simp only[go_sem,Qh0]
 refine Qk ?_
 simp only[go_sem,Q6,Qad,Qoj,List.mem_singleton,forall_eq,RS.op]
 have e:(decide (0≤v)&&decide (v≤q.regs-1))=decide (0≤v∧v≤q.regs-1):=by simp
 rw[e];exact hK
theorem Qaqs {x5:Nat} {q:CodeD} {v:Int} (h5:H x5=.st q.cells) (hb:q.blocks.length≤2 ^ 38) (hK:K (.c (.bool (!Qz8 (Ql q.blocks).length v))) H) :
  Qw prog Qe9 [.c (.int .i64 v),.c (.ptr x5 0)] H K:=by
 refine Qb Qat Q9p ?_
 refine Qa ?_
 simp only[go_sem]
 refine Qa ?_
 simp only[go_sem,h5,CodeD.cells,Qj]
 intro _
 refine⟨Qo (by omega) (by omega),?_⟩
 refine Qcu ?_
 simp only[go_sem,Qh1]
 refine Qk ?_
 simp only[go_sem,Q6,Qad,Qok,List.mem_singleton,forall_eq,RS.op]
 have e:(decide (1≤v)&&decide (v≤(q.blocks.length:Int)-1))=Qz8 (Ql q.blocks).length v:=by simp[Qz8,Qj]
 rw[e];exact hK
theorem Qaqt {cs:List CodeD} {fl:Bool} {k:Nat} {x:InsD} (hk:k<cs.length) (hr:0≤cs[k].regs) (hr2:cs[k].regs≤300) (hcl:cs.length≤100) (hK:∀(H':Heap),Upd H H' []→K (.c (.bool (!Q9k cs k x))) H') :
  Qw prog Qfa [.ag x.cells,.c (.pp [.sl fl 3 (Qp cs)]),.c (.pp [.int .i64 k])] H K:=by
 refine Qb Qat Q9q ?_
 refine Qa ?_
 simp only[go_sem,InsD.cells]
 refine Qa ?_
 simp only[go_sem]
 refine Qbcq hk hr hr2 hcl fun H' hu=>?_
 simp only[go_sem,Qh2]
 refine Qk ?_
 simp only[go_sem,Q6,Qad,Qol,List.mem_singleton,forall_eq,RS.op]
 exact hK _ hu
theorem Qaqu {x5 x6:Nat} {q:CodeD} {v:Int} (h5:H x5=.st q.cells) (h6:H x6=.st [.fn Qag [.ptr x5 0]]) (hr:-(2^62)≤q.regs) (hr2:q.regs≤2^62) (hK:K (.c (.bool (!decide (0≤v∧v≤q.regs-1)))) H) :
  Qw prog Qfb [.c (.int .i64 v),.c (.ptr x6 0)] H K:=by
 refine Qb Qat Q9r ?_
 refine Qa ?_
 simp only[go_sem]
 refine Qa ?_
 simp only[go_sem,h6,List.cons_append,List.nil_append,List.map_cons,List.map_nil]
 refine Qpw h5 hr hr2 ?_
 simp only[go_sem,Qh3]
 refine Qk ?_
 simp only[go_sem,Q6,Qad,Qom,List.mem_singleton,forall_eq,RS.op]
 exact hK
end Go.AE.Y

