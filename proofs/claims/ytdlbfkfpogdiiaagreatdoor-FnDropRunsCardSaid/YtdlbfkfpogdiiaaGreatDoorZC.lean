/- Part 3 of the proof: the engine, codes, walks and plain laws, each named where it stands. -/
import Derived.Test.YtdlbfkfpogdiiaaGreatDoorZB
open Nat (reduceEqDiff reduceAdd reduceLeDiff reduceLT)
set_option linter.unusedVariables false
set_option linter.unusedSimpArgs false
set_option maxRecDepth 4000
set_option maxHeartbeats 8000000
open Bool renaming true_and->Ji,and_eq_true->Jj,eq_iff_iff->Jp,and_assoc->J4,not_eq_true'->J7,true_or->Jab,false_or->Jac,not_false->Jaf,or_eq_true->Jai,false_and->Jan,and_eq_false_iff->Jar,and_false->Jau
open Int renaming le_refl->Jaz
open List renaming mem_singleton->Ja,take_succ_eq_append_getElem->Jb,getD_eq_getElem?_getD->Jc,getElem_mem->Jd,take_of_length_le->Je,mem_append->Jf,mem_append_right->Jg,mem_append_left->Jh,getElem?_eq_getElem->Jk,pairwise_iff_getElem->Jl,length_cons->Jn,mem_of_getElem?->Jo,getD_cons_zero->Jq,mem_cons_self->Jr,cons_append->Js,getD_cons_succ->Jt,getElem_take->Ju,mem_cons_of_mem->Jv,mem_cons->Jw,nodup_append->Jx,map_append->Jy,perm_append_comm->Jz,take_append_drop->J0,mem_iff_getElem->J1,map_cons->J2,length_take->J3,length_append->J5,forall_mem_cons->J8,all_eq_true->J9,any_eq_true->Jaa,nil_append->Jad,append_assoc->Jae,contains_iff_mem->Jag,not_mem_nil->Jah,drop_succ_cons->Jaj,mem_map->Jam,drop_zero->Jao,length_eq_zero_iff->Jap,length_nil->Jas,nodup_cons->Jat,pairwise_cons->Jav,map_nil->Jaw,getElem_map->Jay,foldl_cons->Ja0,headD_cons->Ja1,length_set->Ja2,sum_append->Ja3
open List.Pairwise renaming filter->Ja8
open Nat renaming le_refl->Jm,lt_or_ge->J6,lt_pow_self->Jak,mul_le_mul_left->Jal,zero_add->Jax,le_succ->Ja4,mul_succ->Ja7
open Option renaming getD_some->Jaq,map_some->Ja5
open Option.some renaming inj->Ja6
namespace Go.AE.Y
open Go.Proofs.Tryz
theorem Q9a {R:Rdr}{gl k:Nat}{s:GS}{H:Heap}{K:V→Heap→Prop}(hR:H R.l=R.o k)(hG:H gl=s.o R)(hne:R.l≠gl)(hs:s.ok k)(hF:FnsOk H R gl s)(hk:k+201≤2^30)
  (hK:∀(x:Ex) (H':Heap) (k':Nat),k<k'→k'≤k+201→Upd H H' [(R.l,R.o k')]→x.ok→2 * k+x.size≤2 * k'→K (.ag x.cells) H') :
  Ql prog Qkn [.c (.ptr gl 0)] H K:=by
 refine Q5 ?_;refine Qc Qal Qarj ?_;refine Qa ?_;simp only[go_sem];intro x2 hx2 H1 h1;have kn:=(Kn.start2 hR (R.o_ne k) hG (s.o_ne R) hne).al hx2 h1;have hG1:=kn.e 1 rfl;refine Qa1 ?_;simp only[go_sem,hG1,GS.o];refine Qcy 2 (by omega) (kn.e 0 rfl) (kn.e 1 rfl) hne hs (hF.keep kn rfl rfl) (by omega) fun e H2 k2 g1 g2 hu heok hesz=>?_;have kn:=kn.callE 0 rfl hu (R.o_ne _);have hG2:=kn.e 1 rfl;simp only[go_sem,Qv4,hG2,GS.o];refine Qo3 (ns:=[16,16,16,8,17,0]) (kn.e 0 rfl) (by omega) (by simp) fun v H3 hv hu=>?_;have kn:=kn.callE 0 rfl hu (R.o_ne _);have hx23:=kn.l 0 rfl;simp only[go_sem,Qv3,hx23,e.cells_len];intro H4 h4;have kn:=kn.stL 0 rfl h4;have hx24:=kn.l 0 rfl;refine Qh ?_;simp only[go_sem,Qp,Q8,Q9m,Ja,forall_eq,RS.op,hx24];refine⟨(.ag (Ex.mk 7 0 [] [e,Ex.mk 1 v [] []]).cells),?_,hK _ _ (k2+1) (by omega) (by omega) (kn.fin.drop2 hG) ?_ ?_⟩
 ·rw[Ex.cells_eq (Ex.mk 7 0 [] _)];refine FrzL.ag ?_;refine .cons (Qg rfl) (.cons (Qg rfl) (.cons (Qg rfl) (.cons (FrzR.sl (.cons (.same e.noOw) (.cons ?_ .nil))) .nil)));simp only[Ex.cells,Qt];exact .cons (Qg rfl) (.cons (Qg rfl) (.cons (Qg rfl) (.cons (FrzR.nil).sl .nil)))
 ·simp only[Ex.ok,Qdn];exact⟨fun h=>rfl,heok,⟨fun h=>by simp at h,trivial⟩,trivial⟩
 ·simp only[Ex.size,Qu];omega
def Qbfp (d:Nat):Prop:=∀(R:Rdr) (gl k:Nat) (s:GS) (H:Heap) (K:V→Heap→Prop) (deep:Int),deep≤d→H R.l=R.o k→H gl=s.o R→R.l≠gl→s.ok k→FnsOk H R gl s→k+500 * 10^d≤2^30→
  (∀(l:List St) (s':GS) (H':Heap) (k':Nat),k<k'→k'≤k+500 * 10^d→Upd H H' [(R.l,R.o k'),(gl,s'.o R)]→s'.ok k'→s.left+4 * (k:Int)≤s'.left+4 * (k':Int)→s'.fns=s.fns→s'.ffl=s.ffl→l.length≤2→Qdl l→4 * k+Qi l≤4 * k'→K (.c (.sl false 5 (Qk l))) H')→
  Ql prog Qqc [.c (.ptr gl 0),.c (.int .i64 deep)] H K
def Qacs (d:Nat):Prop:=∀(R:Rdr) (gl k:Nat) (s:GS) (H:Heap) (K:V→Heap→Prop) (deep:Int),deep≤d→H R.l=R.o k→H gl=s.o R→R.l≠gl→s.ok k→FnsOk H R gl s→k+2001 * 10^d≤2^30→
  (∀(l:List St) (c:C) (Lg:List (Nat×Obj)) (s':GS) (H':Heap) (k':Nat),k<k'→k'≤k+2001 * 10^d→Upd H H' [(R.l,R.o k'),(gl,s'.o R)]→Gr Lg 5 (Qk l) c→New H H' Lg→s'.ok k'→s.left+4 * (k:Int)≤s'.left+4 * (k':Int)→s'.fns=s.fns→s'.ffl=s.ffl→
   l.length≤8→Qdl l→4 * k+Qi l≤4 * k'→K (.c c) H')→
  Ql prog Qc9 [.c (.ptr gl 0),.c (.int .i64 deep)] H K
theorem Qazw {d:Nat}(hS:Qbfp d):Qacs d:=by
 intro R gl k s H K deep hd hR hG hne hs hF hk hK;have hp0:d<10^d:=Jak (by omega);generalize hpe:10^d=e at *;have hS':=hS;simp only[Qbfp]at hS';rw[hpe]at hS';generalize hM:500 * e=M at *;refine Qacu ?_;refine Qc Qal Qaor ?_;refine Qa ?_;simp only[go_sem];refine Qa ?_;simp only[go_sem,hG,GS.o];refine Qa ?_;simp only[go_sem];refine Q6 ?_;refine Qa ?_;simp only[go_sem,hG,GS.o];have kn:=Kn.start2 hR (R.o_ne k) hG (s.o_ne R) hne;refine Qo3 (ns:=[2,3,1,4]) hR (by omega) (by simp) fun v H1 hv hu=>?_;have kn:=kn.callE 0 rfl hu (R.o_ne _);simp only[go_sem,Qr6];have hv4:1≤v∧v≤4:=by simp at hv;omega
 refine Qf (Qd (Qab (fun n e1 H1=>∃(j k4:Nat) (l:List St) (c:C) (Lg:List (Nat×Obj)) (s':GS),n=v.toNat-j∧(j:Int)≤v∧k+1≤k4∧k4≤k+1+M * j∧4 * k+Qi l≤4 * k4∧Qdl l∧l.length≤2 * j∧
    Gr Lg 5 (Qk l) c∧s'.ok k4∧s.left+4 * (k:Int)≤s'.left+4 * (k4:Int)∧s'.fns=s.fns∧s'.ffl=s.ffl∧Kn H H1 [(R.l,R.o k4),(gl,s'.o R)] ([]++Lg)∧
    e1=[(0,V.c (C.ptr gl 0)),(1,.c (.int .i64 deep)),(5,.c (.sl s.vfl 1 (Q0 s.vars))),(6,.c c),(7,V.c (C.int IntKind.i64 (v-j)))]) v.toNat ?_ ?_))
 ·exact⟨0,k+1,[],_,[],s,by omega,by omega,by omega,by omega,by simp only[Qi];omega,trivial,by simp,.nil 5,hs.mono (by omega),by omega,rfl,rfl,kn,by simp⟩
 ·rintro n e1 H1 ⟨j,k4,l,c,Lg,s',hn,hj,hk4,hk4',hsz,hok,hll,hgr,hs',hlf,hf1,hf2,kn,rfl⟩;have hG1:=kn.e 1 rfl;have hMj:M * j≤M * 4:=Jal _ (by omega);refine Q6 ?_;refine Qa ?_;simp only[go_sem,hG1,GS.o];refine Qf (Qb rfl ?_ ?_)
  ·intro hc;have hi:(j:Int)<v:=by
    cases h:decide (0<v-(j:Int))with
    |true=>have:0<v-(j:Int):=by simpa using h
           omega
    |false=>rw[h]at hc;simp at hc
   have hM1:M * (j+1)=M * j+M:=Ja7 _ _;have hM2:M * (j+1)≤M * 4:=Jal _ (by omega);refine Qe ?_;simp only[go_sem];refine Qf (Qd (Qq ?_));simp only[go_sem];refine hS' _ _ _ _ _ _ deep hd (kn.e 0 rfl) (kn.e 1 rfl) hne hs' (hF.keep kn hf1 hf2) (by omega) fun l2 s2 H2 k5 g1 g2 hu g3 glf g4 g5 g6 g7 g8=>?_;have kn:=kn.callEE 0 1 rfl rfl (by decide) hu (R.o_ne _) (GS.o_ne _ _);simp only[go_sem,Qr8];refine kn.grow hgr (.mk' _ _ _ (Qk l2)) (Qas _) (by simp only[Qx,LIM];omega) fun y' H3 kn=>?_;simp only[go_sem,Qr7];refine Qq ?_;simp only[go_sem];refine⟨Q1 (by omega) (by omega),?_⟩;simp only[X.next];refine⟨v.toNat-(j+1),by omega,j+1,k5,l++l2,.vsl y' 5 0 ((Qk l).length+(Qk l2).length),_,s2,rfl,by omega,by omega,by omega,?_,Qaje hok g7,by simp;omega,?_,g3,by omega,g4.trans hf1,g5.trans hf2,kn,?_⟩
   ·rw[Qbf];omega
   ·rw[Qmq];exact .mk _ _ _ (by simp[Qx])
   ·have:v-((j+1:Nat):Int)=v-j-1:=(by omega);rw[this]
  ·intro hc;refine Q9 ?_;simp only[go_sem,X.next];refine Qa ?_;simp only[go_sem,hG1,GS.o];intro H2 h2;have kn:Kn H H2 [(R.l,R.o k4),(gl,GS.o { s' with vars:=s.vars,vfl:=s.vfl } R)] ([]++Lg):=kn.stE 1 rfl h2;refine Qa ?_;simp only[go_sem];refine Qh ?_;simp only[go_sem,Qp,Q8,Qm4,Ja,forall_eq,RS.op];refine⟨unx H Lg,_,H2.frz (unx H Lg),.c _ _ (.same _ hgr.isOw),Qqi _ _,?_⟩;refine hK l c Lg _ _ k4 (by omega) (by omega) kn.finx.1 hgr kn.finx.2 ⟨hs'.n0,hs'.n1,hs'.l0,hs'.l1,?_,hs'.f,hs'.fn⟩ (by show _≤s'.left+_;omega) hf1 hf2 (by omega) hok hsz;have:=hs.v;show s.vars.length≤_;omega
def Qbfn (d:Nat):Prop:=∀(R:Rdr) (gl k:Nat) (s:GS) (H:Heap) (K:V→Heap→Prop) (deep:Int),deep≤d+1→2≤deep→H R.l=R.o k→H gl=s.o R→R.l≠gl→s.ok k→FnsOk H R gl s→k+2001 * 10^d+10≤2^30→
  (∀(l:List St) (s':GS) (H':Heap) (k':Nat),k+2<k'→k'≤k+2001 * 10^d+3→Upd H H' [(R.l,R.o k'),(gl,s'.o R)]→s'.ok k'→s.left+4 * (k:Int)≤s'.left+4 * (k':Int)→s'.fns=s.fns→s'.ffl=s.ffl→l.length≤2→Qdl l→4 * k+Qi l≤4 * k'→K (.c (.sl false 5 (Qk l))) H')→
  Ql prog Qqb [.c (.ptr gl 0),.c (.int .i64 deep)] H K
theorem Qbha {d:Nat}(hB:Qacs d):Qbfn d:=by
 intro R gl k s H K deep hd hd2 hR hG hne hs hF hk hK;have hp0:d<10^d:=Jak (by omega);have hB':=hB;simp only[Qacs]at hB';generalize hpe:10^d=e at *;refine Q5 ?_;refine Qc Qal Qarl ?_;refine Qa ?_;simp only[go_sem];refine Qa ?_;simp only[go_sem,hG,GS.o];have kn:=Kn.start2 hR (R.o_ne k) hG (s.o_ne R) hne;refine Qo3 (ns:=[2,3,1,0,5]) hR (by omega) (by simp) fun v H1 hv hu=>?_;have kn:=kn.callE 0 rfl hu (R.o_ne _);simp only[go_sem,Qwg];refine Qadj (x:=Ex.mk 1 v [] []) (fl:=true) (kn.e 0 rfl) (kn.e 1 rfl) hne (hs.mono (Ja4 k)) (by omega) fun name H2 k2 g1 g2 hu=>?_;have kn:=kn.callEE 0 1 rfl rfl (by decide) hu (R.o_ne _) (GS.o_ne _ _);simp only[go_sem,Qwf];intro x5 hx5 H3 h3;have kn:=kn.al hx5 h3;have hx53:=kn.l 0 rfl;simp only[go_sem,Qwe,hx53,St.cells];intro H4 h4;have kn:=kn.stL 0 rfl h4;have hx54:=kn.l 0 rfl;refine Qa ?_;simp only[go_sem,hx54];intro x6 hx6 H5 h5;have kn:=kn.al hx6 h5;have hx65:=kn.l 1 rfl;simp only[go_sem,Qwh,hx65];intro H6 h6;have kn:=kn.stL 1 rfl h6;refine Qa ?_;simp only[go_sem];refine⟨Q1 (by omega) (by omega),?_⟩;have hs2:GS.ok { s with next:=s.next+1,vars:=s.vars++[name],vfl:=false } k2:=by
  refine⟨?_,?_,?_,hs.l1,?_,hs.f,hs.fn⟩
  ·have:=hs.n0;show -1≤s.next+1;omega
  ·have:=hs.n1;show s.next+1≤_;omega
  ·have:=hs.l0;show _≤s.left;omega
  ·have:=hs.v;show (s.vars++[name]).length≤_;simp;omega
 refine hB' _ _ _ _ _ _ (deep-1) (by omega) (kn.e 0 rfl) (kn.e 1 rfl) hne hs2 (hF.keep kn rfl rfl) (by omega) fun l c Lg s3 H7 k3 g3 g4 hu hgr hnew hs3 glf g5 g6 g7 g8 g9=>?_;have kn0:=kn;have kn:=kn.callEE 0 1 rfl rfl (by decide) hu (R.o_ne _) (GS.o_ne _ _);have kn:=kn0.addGr kn rfl rfl hgr hnew;have hx57:=kn.l 0 rfl;have hx67:=kn.l 1 rfl;simp only[go_sem,Qwi];refine Qa ?_;simp only[go_sem,hx57,hx67];intro x8 hx8 H8 h8;have kn:=kn.al hx8 h8;have kn:=kn.perm (L':=[(x5,_),(x6,_),(x8,_)]++Lg) (by
  simp only[List.set,Jad,Js];refine .cons _ (.cons _ ?_);exact Jz)
 have hx88:=kn.l 2 rfl;simp only[go_sem,Qwj,hx88];intro H9 h9;have kn:=kn.stL 2 rfl h9;have hG9:=kn.e 1 rfl;refine Qa ?_;simp only[go_sem,hG9,GS.o];have hl0:=hs3.l0;have hl1:=hs3.l1;refine⟨Q1 (by omega) (by omega),fun H10 h10=>?_⟩;have kn:Kn H H10 [(R.l,R.o k3),(gl,GS.o { s3 with left:=s3.left-2 } R)] ([(x5,_),(x6,_),(x8,_)]++Lg):=kn.stE 1 rfl h10;have hx5a:=kn.l 0 rfl;have hx6a:=kn.l 1 rfl;have hx8a:=kn.l 2 rfl;refine Qa1 ?_;simp only[go_sem,hx5a,hx6a,hx8a];refine kn.grow hgr (.mk' _ _ _ _) (by intro r hr;simp only[Ja]at hr;subst hr;rfl) (by simp only[Qx,LIM,Jn,Jas];omega) fun y' H11 kn=>?_;have hx5b:=kn.l 0 rfl;have hx6b:=kn.l 1 rfl;have hyb:=kn.l 3 rfl;simp only[go_sem,Qwk,hx5b,hx6b];refine Qh ?_;simp only[go_sem,Qp,Q8,Qm4,Ja,forall_eq,RS.op];have hok1:GS.ok { s3 with left:=s3.left-2 } k3:=⟨hs3.n0,hs3.n1,by show _≤s3.left-2;have:=hs.l0;simp only at glf;omega,by show s3.left-2≤100;omega,hs3.v,hs3.f,hs3.fn⟩;refine⟨.c (.sl false 5 (Qk [St.mk 1 name [Ex.mk 1 v [] []] [] [],St.mk 6 [] [Ex.mk 2 0 name []] (l++[St.mk 2 name [Ex.mk 4 0 [] [Ex.mk 2 0 name [],Ex.mk 1 1 [] []]] [] []]) []])),.c _ _ ?_,hK _ _ _ k3 (by omega) (by omega) kn.fin hok1 (by show _≤s3.left-2+_;simp only at glf;omega) g5 g6 (by simp) ?_ ?_⟩
 ·simp only[Qk,St.cells,Qt,Ex.cells,←Qmq]
  repeat' first|exact FrzL.nil|exact FrzR.nil|exact Qg rfl|exact FrzL.same (Ex.noOw _)|exact FrzL.same (St.noOw _)|refine FrzL.cons ?_ ?_|refine FrzR.cons ?_ ?_|refine FrzR.sl ?_
  refine FrzR.vsl (kn.un 3 rfl) hyb (by simp) (.app (.same (Qas _)) ?_)
  repeat' first|exact FrzL.nil|exact FrzR.nil|exact Qg rfl|exact FrzL.same (Ex.noOw _)|exact FrzL.same (St.noOw _)|refine FrzL.cons ?_ ?_|refine FrzR.cons ?_ ?_|refine FrzR.sl ?_
 ·simp only[Qdl,St.ok,Qdn,Ex.ok];refine⟨⟨by simp,⟨⟨fun h=>by simp at h,trivial⟩,trivial⟩,trivial,trivial⟩,⟨by simp,⟨⟨fun h=>by simp at h,trivial⟩,trivial⟩,Qaje g8 ?_,trivial⟩,trivial⟩;simp[Qdl,St.ok,Qdn,Ex.ok]
 ·simp only[Qi,St.size,Qbf,Qu,Ex.size];omega
theorem Qbjt {A L1 L2:List (Nat×Obj)}:(A++L1++L2).Perm (A++L2++L1):=by
 rw[Jae,Jae];exact .append_left _ Jz
theorem Qbal {d : Nat} (hB : ∀ d', d = d' + 1 → Qacs d') : Qbfp d := by
  intro R gl k s H K deep hd hR hG hne hs hF hk hK;have hp0 : d < 10^d := Jak (by omega);have hex : ∃ e, 10^d = e ∧ ∀ d', d = d' + 1 → 10 * 10^d' = e := ⟨10^d, rfl, fun d' h => by rw [h, Nat.pow_succ]; omega⟩;obtain ⟨e, hpe, he'⟩ := hex;rw [hpe] at hp0 hk hK;have hl0 := hs.l0;have hl1 := hs.l1;refine Q5 ?_;refine Qc Qal Qarm ?_;refine Qa ?_;simp only [go_sem];refine Qa ?_;simp only [go_sem, hG, GS.o];refine ⟨Q1 (by omega) (by omega), fun H1 h1 => ?_⟩;have kn : Kn H H1 [(R.l, R.o k), (gl, GS.o { s with left := s.left - 1 } R)] [] := (Kn.start2 hR (R.o_ne k) hG (s.o_ne R) hne).stE 1 rfl h1;have hs1 : GS.ok { s with left := s.left - 1 } (k + 1) := ⟨hs.n0, by have := hs.n1; show s.next ≤ _; omega, by show _ ≤ s.left - 1; omega, by show s.left - 1 ≤ 100; omega, by have := hs.v; show s.vars.length ≤ _; omega, hs.f, hs.fn⟩;have hlr : s.left ≤ ({ s with left := s.left - 1 } : GS).left + 1 := by show s.left ≤ s.left - 1 + 1; omega
  have hfn : ({ s with left := s.left - 1 } : GS).fns = s.fns := rfl;have hff : ({ s with left := s.left - 1 } : GS).ffl = s.ffl := rfl;have hF1 : FnsOk H R gl { s with left := s.left - 1 } := ⟨hF.1, hF.2⟩;generalize ({ s with left := s.left - 1 } : GS) = s1 at *;have hG1 := kn.e 1 rfl;refine Qa ?_;simp only [go_sem, hG1, GS.o];refine Qbx (kn.e 0 rfl) (by omega) fun v H2 hv hu => ?_;have kn : Kn H H2 [(R.l, R.o (k + 1)), (gl, s1.o R)] [] := kn.callE 0 rfl hu (R.o_ne _);have hG2 := kn.e 1 rfl;simp only [go_sem, Qwn];have fin : ∀ (l : List St) (c : C) (s' : GS) (H3 : Heap) (k3 : Nat) (L : List (Nat × Obj)), k < k3 → k3 ≤ k + 500 * e → Kn H H3 [(R.l, R.o k3), (gl, s'.o R)] L → FrzC H3 (un H) c (.sl false 5 (Qk l)) →
      s'.ok k3 → s1.left + 4 * ((k + 1 : Nat) : Int) ≤ s'.left + 4 * (k3 : Int) → s'.fns = s1.fns → s'.ffl = s1.ffl → l.length ≤ 2 → Qdl l → 4 * k + Qi l ≤ 4 * k3 → ∃ x', FrzV H3 (un H) (.c c) x' ∧ K x' (H3.frz (un H)) := by
    intro l c s' H3 k3 L g1 g2 kn g3 g4 g5 g6 g7 g8 g9 g10;exact ⟨_, .c _ _ g3, hK l s' _ k3 g1 g2 kn.fin g4 (by omega) (g6.trans hfn) (g7.trans hff) g8 g9 g10⟩
  refine Qf (Qd ?_);refine Qa ?_;simp only [go_sem, hG2, GS.o, Qo];intro hvl;refine Qb rfl ?_ ?_
  ·
    intro hc;have hv0 : 0 < s1.vars.length := by
      cases h : decide (v < 3) with
      | true => rw [h] at hc; simp at hc; omega
      | false => rw [h] at hc; simp at hc
    refine Qa1 ?_;simp only [go_sem, hG2, GS.o];refine of_c (kn.e 0 rfl) (by omega) hv0 fun name H3 hn hu => ?_;have kn := kn.callE 0 rfl hu (R.o_ne _);simp only [go_sem, Qwp];refine Qcy 3 (by omega) (kn.e 0 rfl) (kn.e 1 rfl) hne (hs1.mono (by omega)) (hF1.keep kn rfl rfl) (by omega) fun x H4 k4 g1 g2 hu g3 g4 => ?_;have kn := kn.callE 0 rfl hu (R.o_ne _);simp only [go_sem, Qwo, x.cells_len];refine Qh ?_;simp only [go_sem, Qp, Q8, Qm4, Ja, forall_eq, RS.op];refine fin [St.mk 2 name [x] [] []] _ s1 H4 k4 _ (by omega) (by omega) kn ?_ (hs1.mono (by omega)) (by omega) rfl rfl (by simp) ?_ ?_
    · simp only [Qk, St.cells, Qt]
      repeat' first | exact FrzL.nil | exact FrzR.nil | exact Qg rfl | exact FrzL.same (Ex.noOw _) | exact FrzL.same (St.noOw _) | refine FrzL.cons ?_ ?_ | refine FrzR.cons ?_ ?_ | refine FrzR.sl ?_
    · simp only [Qdl, St.ok, Qdn]; exact ⟨⟨by simp, ⟨g3, trivial⟩, trivial, trivial⟩, trivial⟩
    · simp only [Qi, St.size, Qu]; omega
  intro hc0;refine Qa ?_;simp only [go_sem];refine Qb rfl ?_ ?_
  ·
    intro hc;refine Qa ?_;simp only [go_sem];refine Qcy 3 (by omega) (kn.e 0 rfl) (kn.e 1 rfl) hne (hs1.mono (by omega)) (hF1.keep kn rfl rfl) (by omega) fun x H4 k4 g1 g2 hu g3 g4 => ?_;have kn := kn.callE 0 rfl hu (R.o_ne _);simp only [go_sem, Qwr, x.cells_eq];refine Qadj (x := x) (kn.e 0 rfl) (kn.e 1 rfl) hne (hs1.mono (by omega)) (by omega) fun name H5 k5 g5 g6 hu => ?_;have kn := kn.callEE 0 1 rfl rfl (by decide) hu (R.o_ne _) (GS.o_ne _ _);simp only [go_sem, Qwq, St.cells_len];refine Qh ?_;simp only [go_sem, Qp, Q8, Qm4, Ja, forall_eq, RS.op];have h0 := hs1.n0;have h1 := hs1.n1;have h2 := hs1.l0;have h3 := hs1.v;refine fin [St.mk 1 name [x] [] []] _ _ H5 k5 _ (by omega) (by omega) kn ?_ ⟨?_, ?_, ?_, hs1.l1, ?_, hs1.f, hs1.fn⟩ (by show _ ≤ s1.left + _; omega) rfl rfl (by simp) ?_ ?_
    · simp only [Qk]
      repeat' first | exact FrzL.nil | exact FrzR.nil | exact Qg rfl | exact FrzL.same (Ex.noOw _) | exact FrzL.same (St.noOw _) | refine FrzL.cons ?_ ?_ | refine FrzR.cons ?_ ?_ | refine FrzR.sl ?_
    · show -1 ≤ s1.next + 1; omega
    · show s1.next + 1 ≤ _; omega
    · show _ ≤ s1.left; omega
    · show (s1.vars ++ [name]).length ≤ _; simp; omega
    · simp only [Qdl, St.ok, Qdn]; exact ⟨⟨by simp, ⟨g3, trivial⟩, trivial, trivial⟩, trivial⟩
    · simp only [Qi, St.size, Qu]; omega
  intro hc1;refine Qa ?_;simp only [go_sem];refine Qb rfl ?_ ?_
  ·
    intro hc;refine Qa ?_;simp only [go_sem];refine Qcy 3 (by omega) (kn.e 0 rfl) (kn.e 1 rfl) hne (hs1.mono (by omega)) (hF1.keep kn rfl rfl) (by omega) fun x H4 k4 g1 g2 hu g3 g4 => ?_;have kn := kn.callE 0 rfl hu (R.o_ne _);simp only [go_sem, Qws, x.cells_len];refine Qh ?_;simp only [go_sem, Qp, Q8, Qm4, Ja, forall_eq, RS.op];refine fin [St.mk 3 [] [x] [] []] _ s1 H4 k4 _ (by omega) (by omega) kn ?_ (hs1.mono (by omega)) (by omega) rfl rfl (by simp) ?_ ?_
    · simp only [Qk, St.cells, Qt]
      repeat' first | exact FrzL.nil | exact FrzR.nil | exact Qg rfl | exact FrzL.same (Ex.noOw _) | exact FrzL.same (St.noOw _) | refine FrzL.cons ?_ ?_ | refine FrzR.cons ?_ ?_ | refine FrzR.sl ?_
    · simp only [Qdl, St.ok, Qdn]; exact ⟨⟨by simp, ⟨g3, trivial⟩, trivial, trivial⟩, trivial⟩
    · simp only [Qi, St.size, Qu]; omega
  intro hc2;have hdp : 2 ≤ deep := by
    cases h : decide (v < 7) with
    | true => rw [h] at hc2; simp at hc2
    | false => rw [h] at hc2; simp at hc2; omega
  obtain ⟨d', hdd⟩ : ∃ d', d = d' + 1 := ⟨d - 1, by omega⟩;have hB0 : Qacs d' := hB d' hdd;have hL0 : Qbfn d' := Qbha hB0;have hB' := hB0;have hL' := hL0;simp only [Qacs, Qbfn] at hB' hL';have he1 := he' d' hdd;have hp1 : d' < 10^d' := Jak (by omega);generalize 10^d' = e1 at *;refine Qa ?_;simp only [go_sem];refine Qb rfl ?_ ?_
  ·
    intro hc;refine Qa ?_;simp only [go_sem];refine Q9a (kn.e 0 rfl) (kn.e 1 rfl) hne (hs1.mono (by omega)) (hF1.keep kn rfl rfl) (by omega) fun x H4 k4 g1 g2 hu g3 g4 => ?_;have kn := kn.callE 0 rfl hu (R.o_ne _);simp only [go_sem, Qwu];refine Qcy 2 (by omega) (kn.e 0 rfl) (kn.e 1 rfl) hne (hs1.mono (by omega)) (hF1.keep kn rfl rfl) (by omega) fun y H5 k5 g5 g6 hu g7 g8 => ?_;have kn := kn.callE 0 rfl hu (R.o_ne _);simp only [go_sem, Qwt, x.cells_len, y.cells_len];refine Qh ?_;simp only [go_sem, Qp, Q8, Qm4, Ja, forall_eq, RS.op];refine fin [St.mk 4 [] [x, y] [] []] _ s1 H5 k5 _ (by omega) (by omega) kn ?_ (hs1.mono (by omega)) (by omega) rfl rfl (by simp) ?_ ?_
    · simp only [Qk, St.cells, Qt]
      repeat' first | exact FrzL.nil | exact FrzR.nil | exact Qg rfl | exact FrzL.same (Ex.noOw _) | exact FrzL.same (St.noOw _) | refine FrzL.cons ?_ ?_ | refine FrzR.cons ?_ ?_ | refine FrzR.sl ?_
    · simp only [Qdl, St.ok, Qdn]; exact ⟨⟨by simp, ⟨g3, g7, trivial⟩, trivial, trivial⟩, trivial⟩
    · simp only [Qi, St.size, Qu]; omega
  intro hc3;refine Qa ?_;simp only [go_sem];refine Qb rfl ?_ ?_
  ·
    intro hc;refine Qa ?_;simp only [go_sem];refine Q9a (kn.e 0 rfl) (kn.e 1 rfl) hne (hs1.mono (by omega)) (hF1.keep kn rfl rfl) (by omega) fun x H4 k4 g1 g2 hu g3 g4 => ?_;have kn := kn.callE 0 rfl hu (R.o_ne _);simp only [go_sem, Qwv, x.cells_len];refine Qh ?_;simp only [go_sem, Qp, Q8, Qm4, Ja, forall_eq, RS.op];refine fin [St.mk 3 [] [Ex.mk 12 0 [] [x]] [] []] _ s1 H4 k4 _ (by omega) (by omega) kn ?_ (hs1.mono (by omega)) (by omega) rfl rfl (by simp) ?_ ?_
    · rw [Qk, Qk, St.cells, Qt, Qt, Ex.cells_eq (Ex.mk 12 0 [] _)];simp only [Qk, Qt, Ex.kids, Ex.op, Ex.n, Ex.name]
      repeat' first | exact FrzL.nil | exact FrzR.nil | exact Qg rfl | exact FrzL.same (Ex.noOw _) | exact FrzL.same (St.noOw _) | refine FrzL.cons ?_ ?_ | refine FrzR.cons ?_ ?_ | refine FrzR.sl ?_
    · simp only [Qdl, St.ok, Qdn, Ex.ok]; exact ⟨⟨by simp, ⟨⟨fun h => by simp at h, g3, trivial⟩, trivial⟩, trivial, trivial⟩, trivial⟩
    · simp only [Qi, St.size, Qu, Ex.size]; omega
  intro hc4;refine Qa ?_;simp only [go_sem];refine Qb rfl ?_ ?_
  ·
    intro hc;refine Qa ?_;simp only [go_sem];refine Qcy 3 (by omega) (kn.e 0 rfl) (kn.e 1 rfl) hne (hs1.mono (by omega)) (hF1.keep kn rfl rfl) (by omega) fun x H4 k4 g1 g2 hu g3 g4 => ?_;have kn := kn.callE 0 rfl hu (R.o_ne _);simp only [go_sem, Qsf, x.cells_len];refine ⟨Q1 (by omega) (by omega), ?_⟩;refine hB' _ _ _ _ _ _ (deep - 1) (by omega) (kn.e 0 rfl) (kn.e 1 rfl) hne (hs1.mono (by omega)) (hF1.keep kn rfl rfl) (by omega) fun b1 c1 L1 s2 H5 k5 g5 g6 hu hg1 hnew hs2 glf g7 g8 g9 g10 g11 => ?_;have kn0 := kn;have kn := kn.callEE 0 1 rfl rfl (by decide) hu (R.o_ne _) (GS.o_ne _ _);have kn := kn0.addGr kn rfl rfl hg1 hnew;have hc1ow := hg1.isOw;simp only [go_sem, Qse];intro x6 hx6 H6 h6;have kn := kn.al hx6 h6;have kn := kn.perm (L' := [(x6, _)] ++ L1) Jz;have hx66 := kn.l 0 rfl;simp only [go_sem, Qww, hx66];intro H7 h7;have kn : Kn H H7 [(R.l, R.o k5), (gl, s2.o R)] ([(x6, _)] ++ L1) := kn.stL 0 rfl h7;have hG7 := kn.e 1 rfl;refine Q6 ?_;refine Qa ?_;simp only [go_sem, hG7, GS.o];refine Qbx (kn.e 0 rfl) (by omega) fun v2 H8 hv2 hu => ?_;have kn : Kn H H8 [(R.l, R.o (k5 + 1)), (gl, s2.o R)] ([(x6, _)] ++ L1) := kn.callE 0 rfl hu (R.o_ne _);simp only [go_sem, Qsg];have rest : ∀ (E1 : Env) (hE : lk 6 E1 = V.c (C.ptr x6 0)) (c2 : C) (b2 : List St) (L2 : List (Nat × Obj)) (s3 : GS) (H9 : Heap) (k6 : Nat), k5 + 1 ≤ k6 → k6 ≤ k5 + 1 + 2001 * e1 → Gr L2 5 (Qk b2) c2 →
        Kn H H9 [(R.l, R.o k6), (gl, s3.o R)] ([(x6, .st [.int .i64 5, .str [], .sl true 4 [x.cells], c1, c2])] ++ L1 ++ L2) → s3.ok k6 → s2.left + 4 * ((k5 + 1 : Nat) : Int) ≤ s3.left + 4 * (k6 : Int) → s3.fns = s2.fns → s3.ffl = s2.ffl → Qdl b2 → 4 * (k5 + 1) + Qi b2 ≤ 4 * k6 →
        Q3 prog Qwl (X.inBlock 0 (X.sq prog Ql6 (Qp Qm4 (unK H K)))) E1 H9 := by
      intro E1 hE c2 b2 L2 s3 H9 k6 e1 e2 hg2 kn e3 e4 e5 e6 e7 e8;have hx69 := kn.l 0 rfl;have hc2ow := hg2.isOw;refine Qa ?_;simp only [go_sem, hE, hx69, hc1ow, hc2ow];refine Qh ?_;simp only [go_sem, Qp, Q8, Qm4, Ja, forall_eq, RS.op];refine fin [St.mk 5 [] [x] b1 b2] _ s3 H9 k6 _ (by omega) (by omega) kn ?_ e3 (by omega) (e5.trans g7) (e6.trans g8) (by simp) ?_ ?_
      · simp only [Qk, St.cells, Qt]
        repeat' first | exact FrzL.nil | exact FrzR.nil | exact Qg rfl | exact FrzL.same (Ex.noOw _) | exact FrzL.same (St.noOw _) | refine FrzL.cons ?_ ?_ | refine FrzR.cons ?_ ?_ | refine FrzR.sl ?_
        · exact hg1.frz (kn.perm Qbjt) (Qas _)
        · exact hg2.frz kn (Qas _)
      · simp only [Qdl, St.ok, Qdn]; exact ⟨⟨by simp, ⟨g3, trivial⟩, g10, e7⟩, trivial⟩
      · simp only [Qi, St.size, Qu]; omega
    refine Qf (Qb rfl ?_ ?_)
    · intro hc';refine Qq ?_;simp only [go_sem];refine ⟨Q1 (by omega) (by omega), ?_⟩;refine hB' _ _ _ _ _ _ (deep - 1) (by omega) (kn.e 0 rfl) (kn.e 1 rfl) hne (hs2.mono (by omega)) (hF1.keep kn g7 g8) (by omega) fun b2 c2 L2 s3 H9 k6 q1 q2 hu hg2 hnew hs3 q3 q4 q5 q6 q7 q8 => ?_;have kn0 := kn;have kn := kn.callEE 0 1 rfl rfl (by decide) hu (R.o_ne _) (GS.o_ne _ _);have kn := kn0.addGr kn rfl rfl hg2 hnew;have hx69 := kn.l 0 rfl;simp only [go_sem, Qsh, hx69];intro H10 h10;have kn : Kn H H10 [(R.l, R.o k6), (gl, s3.o R)] ([(x6, _)] ++ L1 ++ L2) := kn.stL 0 rfl h10;exact rest _ (by simp [lk]) c2 b2 L2 s3 H10 k6 (by omega) (by omega) hg2 kn hs3 (by omega) q4 q5 q7 (by omega)
    · intro hc';refine Qe ?_;simp only [go_sem];exact rest _ (by simp [lk]) _ [] [] s2 H8 (k5 + 1) (by omega) (by omega) (.nil 5) (by rw [List.append_nil]; exact kn) (hs2.mono (by omega)) (by omega) rfl rfl trivial (by simp only [Qi]; omega)
  · intro hc5;refine Qa ?_;simp only [go_sem, hG2, GS.o];have rest : ∀ (b : Bool) (H3 : Heap) (k3 : Nat), k + 1 ≤ k3 → k3 ≤ k + 2 → Kn H H3 [(R.l, R.o k3), (gl, s1.o R)] [] →
        Q3 prog Qwm (X.inBlock 0 (X.sq prog Ql6 (Qp Qm4 (unK H K))))
         [(0, V.c (C.ptr gl 0)), (1, .c (.int .i64 deep)), (109, .c (.bool b))] H3 := by
      intro b H3 k3 e3 e4 kn;refine Qb rfl ?_ ?_
      · intro hb;refine Qa ?_;simp only [go_sem];refine Qcy 2 (by omega) (kn.e 0 rfl) (kn.e 1 rfl) hne (hs1.mono (by omega)) (hF1.keep kn rfl rfl) (by omega) fun x H4 k4 g1 g2 hu g3 g4 => ?_;have kn := kn.callE 0 rfl hu (R.o_ne _);simp only [go_sem, Qsi, x.cells_len];refine Qh ?_;simp only [go_sem, Qp, Q8, Qm4, Ja, forall_eq, RS.op];refine fin [St.mk 7 [] [x] [] []] _ s1 H4 k4 _ (by omega) (by omega) kn ?_ (hs1.mono (by omega)) (by omega) rfl rfl (by simp) ?_ ?_
        · simp only [Qk, St.cells, Qt]
          repeat' first | exact FrzL.nil | exact FrzR.nil | exact Qg rfl | exact FrzL.same (Ex.noOw _) | exact FrzL.same (St.noOw _) | refine FrzL.cons ?_ ?_ | refine FrzR.cons ?_ ?_ | refine FrzR.sl ?_
        · simp only [Qdl, St.ok, Qdn]; exact ⟨⟨by simp, ⟨g3, trivial⟩, trivial, trivial⟩, trivial⟩
        · simp only [Qi, St.size, Qu]; omega
      · intro hb;refine Qe ?_;simp only [go_sem];refine Qa ?_;simp only [go_sem];refine hL' _ _ _ _ _ _ deep (by omega) hdp (kn.e 0 rfl) (kn.e 1 rfl) hne (hs1.mono (by omega)) (hF1.keep kn rfl rfl) (by omega) fun l s2 H4 k4 g1 g2 hu g3 g4 g5 g6 g7 g8 g9 => ?_;have kn := kn.callEE 0 1 rfl rfl (by decide) hu (R.o_ne _) (GS.o_ne _ _);simp only [go_sem, Qsj];refine Qh ?_;simp only [go_sem, Qp, Q8, Qm4, Ja, forall_eq, RS.op];exact fin l _ s2 H4 k4 _ (by omega) (by omega) kn (Qg rfl) g3 (by omega) g5 g6 g7 g8 (by omega)
    refine ⟨fun hb => ?_, fun hb => ?_⟩
    · refine Qbx (kn.e 0 rfl) (by omega) fun v2 H3 hv2 hu => ?_;have kn := kn.callE 0 rfl hu (R.o_ne _);simp only [go_sem, Qi7];exact rest _ H3 (k + 1 + 1) (by omega) (by omega) kn
    · simp only [go_sem, Qi7, hb];exact rest _ H2 (k + 1) (by omega) (by omega) kn
theorem Qbf1 (d:Nat):Qacs d:=by
 induction d with
 |zero=>exact Qazw (Qbal (fun d' h=>absurd h (by omega)))
 |succ d ih=>exact Qazw (Qbal (fun d' h=>by
   have:d'=d:=by omega
   rw[this];exact ih))
end Go.AE.Y
namespace Go.AE
variable {H0 H H':Heap}{E L B A:List (Nat×Obj)}{P:Program}
theorem c_gh {b:SC}{Q:X→Env→Heap→Prop}{e e':Env}(h:Qbfm e H e' H')(hb:Q3 P b Q e' H'):Q3 P (.seq .gh b) Q e H:=⟨e',H',h,hb⟩
theorem Kn.drop (kn:Kn H0 H E (A++B)):Kn H0 H E A:=
 ⟨fun p hp=>kn.get p (by
   rcases Jf.1 hp with h|h
   ·exact Jh _ h
   ·exact Jg _ (Jh _ h)),kn.ext,fun p hp=>kn.loc p (Jh _ hp),kn.dE,by
   have:=kn.dL;rw[Jy]at this;exact (Jx.1 this).1,kn.chg⟩
theorem Kn.freeze {z gl:Nat}{o og og':Obj}(kn:Kn H0 H E (B++[(z,o)]))(i:Nat)(hB:B[i]? = some (gl,og))(hO:FrzO H (fun m=>m == z) og og')(hn:og'≠.none) :
  FrzH H (fun m=>m == z) ((H.frz fun m=>m == z).set gl og')∧Kn H0 ((H.frz fun m=>m == z).set gl og') E (B.set i (gl,og')):=by
 have hzf:H0 z=.none:=kn.loc (z,o) (by simp);have hnd:=kn.dL;rw[Jy]at hnd;have hne:∀p∈B,p.1≠z:=fun p hp hh=>(Jx.1 hnd).2.2 _ (Qbn hp) z (by simp) hh;have hneE:∀p∈E,p.1≠z:=fun p hp hh=>kn.ext p hp (hh▸hzf);have hgl:=hne _ (Jo hB);have hH:H gl=og:=(kn.get (gl,og) (Jg _ (Jh _ (Jo hB)))).1;refine⟨(Qqi _ _).set (by simpa using hgl) (by rw[hH];exact hO),?_⟩;have kn1:Kn H0 (H.frz fun m=>m == z) E B:=by
  refine⟨fun p hp=>?_,kn.ext,fun p hp=>kn.loc p (Jh _ hp),kn.dE,(Jx.1 hnd).1,fun m hm hx=>?_⟩
  ·have:p.1≠z:=by
    rcases Jf.1 hp with h|h
    ·exact hneE p h
    ·exact hne p h
   have h2:(H.frz fun m=>m == z) p.1=H p.1:=by simp[Heap.frz,this]
   rw[h2];refine kn.get p ?_;rcases Jf.1 hp with h|h
   ·exact Jh _ h
   ·exact Jg _ (Jh _ h)
  ·have:m≠z:=fun h=>hm (h▸hzf);have h2:(H.frz fun m=>m == z) m=H m:=by simp[Heap.frz,this]
   rw[h2];exact kn.chg m hm hx
 exact kn1.setL i hB hn
theorem Kn.callEL (hk:Kn H0 H E L)(i j:Nat){l m:Nat}{o o' q q':Obj}(h:E[i]? = some (l,o))(h2:L[j]? = some (m,q))(hu:Upd H H' [(l,o'),(m,q')])(ho:o'≠.none)(hq:q'≠.none) :
  Kn H0 H' (E.set i (l,o')) (L.set j (m,q')):=by
 refine hk.callg hu (Qc3 h) (Qc3 h2) (fun p hp=>?_) (fun u hu=>?_)
 ·rcases Jf.1 hp with hp|hp
  ·rcases Qb9 hp with rfl|⟨b,hb,hp⟩
   ·exact⟨ho,.inl (by simp)⟩
   ·have hm:=Jh L (Jo hp);refine⟨(hk.get p hm).2,.inr ⟨hm,?_⟩⟩;simp only[J2,Jaw,Jw,Jah,or_false,not_or];exact⟨fun hh=>hb (Qf4 hk.dE hp h hh),fun hh=>hk.ext p (Jo hp) (hh▸hk.free j h2)⟩
  ·rcases Qb9 hp with rfl|⟨b,hb,hp⟩
   ·exact⟨hq,.inl (by simp)⟩
   ·have hm:=Jg E (Jo hp);refine⟨(hk.get p hm).2,.inr ⟨hm,?_⟩⟩;simp only[J2,Jaw,Jw,Jah,or_false,not_or];exact⟨fun hh=>hk.usedE i h (hh▸hk.loc p (Jo hp)),fun hh=>hb (Qf4 hk.dL hp h2 hh)⟩
 ·simp at hu;rcases hu with rfl|rfl
  ·exact .inl (Qbn (p:=(l,o)) (Jo h))
  ·exact .inr (Qbn (p:=(m,q)) (Jo h2))
end Go.AE
namespace Go.AE.Y
open Go.Proofs.Tryz
theorem Qamx {R:Rdr}{gl k:Nat}{s:GS}{name:List UInt8}{params:Int}{H:Heap}{K:V→Heap→Prop}(hp0:0≤params)(hp3:params≤3)(hR:H R.l=R.o k)(hG:H gl=s.o R)(hne:R.l≠gl)(hs:s.ok k)(hF:FnsOk H R gl s)(hk:k+2001300≤2^30)
  (hK:∀(f:Fn) (s':GS) (H':Heap) (k':Nat),k<k'→k'≤k+2001300→Upd H H' [(R.l,R.o k'),(gl,s'.o R)]→s'.ok k'→s'.fns=s.fns→s'.ffl=s.ffl→f.params.length≤3→Qdl f.body→4 * k+Qi f.body≤4 * k'→K (.ag f.cells) H') :
  Ql prog Qqa [.c (.ptr gl 0),.c (.str name),.c (.int .i64 params)] H K:=by
 obtain⟨np,rfl⟩:=Int.eq_ofNat_of_zero_le hp0;refine Q5 ?_;refine Qc Qal Qa2l ?_;refine Qa ?_;simp only[go_sem];intro x6 hx6 H1 h1;have kn:=(Kn.start2 hR (R.o_ne k) hG (s.o_ne R) hne).al hx6 h1;have hG1:=kn.e 1 rfl;refine Qa ?_;have etk:List.take np [[C.str [97]],[C.str [98]],[C.str [99]]]=Q0 (List.take np [[97],[98],[99]]):=by simp[Q0,List.map_take]
 simp only[go_sem,hG1,GS.o,etk];refine⟨⟨by omega,by omega⟩,fun H2 h2=>?_⟩;have kn:Kn H H2 [(R.l,R.o k),(gl,GS.o { s with vars:=List.take np [[97],[98],[99]],vfl:=false } R)] [(x6,_)]:=kn.stE 1 rfl h2;have hG2:=kn.e 1 rfl;refine Qa ?_;simp only[go_sem,hG2,GS.o];refine⟨Q1 (by omega) (by omega),fun H3 h3=>?_⟩;have kn:Kn H H3 [(R.l,R.o k),(gl,GS.o { s with vars:=List.take np [[97],[98],[99]],vfl:=false,next:=(np:Int)-1 } R)] [(x6,_)]:=kn.stE 1 rfl h3;have hs1:GS.ok { s with vars:=List.take np [[97],[98],[99]],vfl:=false,next:=(np:Int)-1 } k:=
  ⟨by show -1≤(np:Int)-1;omega,by show (np:Int)-1≤_;omega,hs.l0,hs.l1,by show (List.take np _).length≤_;simp;omega,hs.f,hs.fn⟩
 have hvl:(List.take np [[97],[98],[99]]:List (List UInt8)).length≤3:=by simp;omega
 have hfn:GS.fns { s with vars:=List.take np [[97],[98],[99]],vfl:=false,next:=(np:Int)-1 }=s.fns:=rfl;have hff:GS.ffl { s with vars:=List.take np [[97],[98],[99]],vfl:=false,next:=(np:Int)-1 }=s.ffl:=rfl;have hvv:GS.vars { s with vars:=List.take np [[97],[98],[99]],vfl:=false,next:=(np:Int)-1 }=List.take np [[97],[98],[99]]:=rfl;rw[←hvv]at hvl;have hF1:FnsOk H R gl { s with vars:=List.take np [[97],[98],[99]],vfl:=false,next:=(np:Int)-1 }:=⟨hF.1,hF.2⟩;generalize ({ s with vars:=List.take np [[97],[98],[99]],vfl:=false,next:=(np:Int)-1 }:GS)=s1 at *;have hG3:=kn.e 1 rfl;refine Qa ?_;have hL:s1.vars.length≤LIM:=by simp only[LIM];omega
 simp only[go_sem,hG3,GS.o,Qo,Jax,Jad,hL];refine⟨.inl trivial,Qaw _,fun y hy H4 h4=>?_⟩;have kn:=kn.al hy h4;simp only[go_sem,Q5i];intro x7 hx7 H5 h5;have kn:=kn.al hx7 h5;have hx75:=kn.l 2 rfl;simp only[go_sem,Q5h,hx75];intro H6 h6;have kn:Kn H H6 [(R.l,R.o k),(gl,s1.o R)] [(x6,_),(y,_),(x7,_)]:=kn.stL 2 rfl h6;refine Qa ?_;simp only[go_sem];refine Qbf1 3 _ _ _ _ _ _ 3 (by omega) (kn.e 0 rfl) (kn.e 1 rfl) hne hs1 (hF1.keep kn rfl rfl) (by omega) fun l c Lg s2 H7 k2 g1 g2 hu hgr hnew hs2 glf g3 g4 g5 g6 g7=>?_;have kn0:=kn;have kn:=kn.callEE 0 1 rfl rfl (by decide) hu (R.o_ne _) (GS.o_ne _ _);have kn:=kn0.addGr kn rfl rfl hgr hnew;have hx77:=kn.l 2 rfl;simp only[go_sem,Q5j,hx77];intro H8 h8;have kn:Kn H H8 [(R.l,R.o k2),(gl,s2.o R)] ([(x6,.st [.str [],.sl true 1 [],.sl true 5 []]),(y,.vec 1 (Q0 s1.vars)),(x7,.st [.str name,.vsl y 1 0 s1.vars.length,c])]++Lg):=kn.stL 2 rfl h8;have hG8:=kn.e 1 rfl;refine Q6 ?_;refine Qa ?_;simp only[go_sem,hG8,GS.o];have hcow:=hgr.isOw;have rest:∀(E1:Env) (hE6:lk 6 E1=V.c (C.ptr x6 0)) (hE7:lk 7 E1=V.c (C.ptr x7 0)) (l2:List St) (c2:C) (rws:List (List C)) (L2:List (Nat×Obj)) (s3:GS) (H9:Heap) (k3:Nat),k<k3→k3≤k+2001300→
   Kn H H9 [(R.l,R.o k3),(gl,s3.o R)] ([(x6,.st [.str [],.sl true 1 [],.sl true 5 []]),(y,.vec 1 (Q0 s1.vars)),(x7,.st [.str name,.vsl y 1 0 s1.vars.length,c2])]++L2)→Gr L2 5 rws c2→(∀H',FrzR H' (un H) rws (Qk l2))→
   s3.ok k3→s3.fns=s1.fns→s3.ffl=s1.ffl→Qdl l2→4 * k+Qi l2≤4 * k3→Q3 prog Qwd (Qp Qyn (unK H K)) E1 H9:=by
  intro E1 hE6 hE7 l2 c2 rws L2 s3 H9 k3 e1 e2 kn hg2 hfr e3 e4 e5 e6 e7;have hx69:=kn.l 0 rfl;have hx79:=kn.l 2 rfl;have hcow:=hg2.isOw;refine Qa ?_;simp only[go_sem,hE6,hE7,hx69,hx79,hcow];intro H10 h10;have kn:=kn.stL 0 rfl h10;have hx6a:=kn.l 0 rfl;have hya:=kn.l 1 rfl;refine Qh ?_;simp only[go_sem,Qp,Q8,Qyn,Ja,forall_eq,RS.op,hx6a,hcow];refine⟨(.ag (Fn.mk name s1.vars l2).cells),?_,hK _ s3 _ k3 e1 e2 kn.fin e3 (e4.trans hfn) (e5.trans hff) hvl e6 e7⟩;refine FrzL.ag (.cons (Qg rfl) (.cons ?_ (.cons ?_ .nil)))
  ·exact Qaoc (kn.un 1 rfl) hya (by simp[Q0]) (Qqk (Qaw _))
  ·exact hg2.frzR (B:=[_,_,_]) kn (hfr _)
 have tl:∀(b:Bool) (H9:Heap) (k3:Nat),k2≤k3→k3≤k2+1→(b=true→0<s2.left)→Kn H H9 [(R.l,R.o k3),(gl,s2.o R)] ([(x6,.st [.str [],.sl true 1 [],.sl true 5 []]),(y,.vec 1 (Q0 s1.vars)),(x7,.st [.str name,.vsl y 1 0 s1.vars.length,c])]++Lg)→
   Q3 prog (s_l3Gen_fn_7.seq Qwd) (Qp Qyn (unK H K)) [(0,V.c (C.ptr gl 0)),(6,V.c (C.ptr x6 0)),(7,V.c (C.ptr x7 0)),(42,.c (.bool b))] H9:=by
  intro b H9 k3 e1 e2 hb kn;have hG9:=kn.e 1 rfl;refine Qf (Qb rfl ?_ ?_)
  ·intro hc;have hlp:=hb hc;have hl1:=hs2.l1;refine Qa ?_;simp only[go_sem,hG9,GS.o];refine⟨Q1 (by omega) (by omega),fun H10 h10=>?_⟩;have kn:Kn H H10 [(R.l,R.o k3),(gl,GS.o { s2 with left:=s2.left-1 } R)] ([(x6,_),(y,_),(x7,_)]++Lg):=kn.stE 1 rfl h10;have hs3:GS.ok { s2 with left:=s2.left-1 } k3:=⟨hs2.n0,by have:=hs2.n1;show s2.next≤_;omega,by show _≤s2.left-1;omega,by show s2.left-1≤100;omega,by have:=hs2.v;show s2.vars.length≤_;omega,hs2.f,hs2.fn⟩;have hx7a:=kn.l 2 rfl;refine Qel ?_;simp only[go_sem,hx7a,hcow];refine Qcy 2 (by omega) (kn.e 0 rfl) (kn.e 1 rfl) hne hs3 (hF1.keep kn g3 g4) (by omega) fun x H11 k4 q1 q2 hu q3 q4=>?_;have kn:=kn.callE 0 rfl hu (R.o_ne _);have hx7b:=kn.l 2 rfl;simp only[go_sem,Q5l,hx7b,hcow,x.cells_len];refine kn.grow (B:=[_,_,_]) hgr (.mk' _ _ _ _) (by intro r hr;simp only[Ja]at hr;subst hr;rfl) (by simp only[Qx,LIM,Jn,Jas];omega) fun y' H12 kn=>?_;have hx7c:=kn.l 2 rfl;simp only[go_sem,Q5k,hx7c];intro H13 h13;have kn:=kn.stL 2 rfl h13;refine rest _ (by simp[lk]) (by simp[lk]) (l++[St.mk 7 [] [x] [] []]) _ _ _ _ H13 k4 (by omega) (by omega) kn (.mk _ _ _ (by simp[Qx])) (fun H'=>?_) (hs3.mono (by omega)) g3 g4 (Qaje g6 ?_) ?_
   ·rw[←Qmq];refine .app (.same (Qas _)) ?_;simp only[Qk,St.cells,Qt]
    repeat' first|exact FrzL.nil|exact FrzR.nil|exact Qg rfl|exact FrzL.same (Ex.noOw _)|exact FrzL.same (St.noOw _)|refine FrzL.cons ?_ ?_|refine FrzR.cons ?_ ?_|refine FrzR.sl ?_
   ·simp only[Qdl,St.ok,Qdn];exact⟨⟨by simp,⟨q3,trivial⟩,trivial,trivial⟩,trivial⟩
   ·simp only[Qbf,Qi,St.size,Qu];omega
  ·intro hc;refine Qe ?_;simp only[go_sem];exact rest _ (by simp[lk]) (by simp[lk]) l c _ Lg s2 H9 k3 (by omega) (by omega) kn hgr (fun H'=>.same (Qas _)) (hs2.mono (by omega)) g3 g4 g6 (by omega)
 refine⟨fun hb=>?_,fun hb=>?_⟩
 ·refine Qbx (kn.e 0 rfl) (by omega) fun v H9 hv hu=>?_;have kn:=kn.callE 0 rfl hu (R.o_ne _);simp only[go_sem,Qrd,hb];exact tl _ H9 (k2+1) (by omega) (by omega) (fun _=>by simpa using hb) kn
 ·simp only[go_sem,Qrd,hb];exact tl false H8 k2 (by omega) (by omega) (fun h=>by simp at h) kn
variable {H:Heap}{K:V→Heap→Prop}
theorem Qrv {n lo hi:Int}(hK:K (.c (.bool (decide (lo≤n∧n≤hi)))) H):Ql prog Qp9 [.c (.int .i64 n),.c (.int .i64 lo),.c (.int .i64 hi)] H K:=by
 refine Qc Qal Qbjl ?_;refine Qa ?_;simp only[go_sem];refine Qa ?_;simp only[go_sem];refine Qh ?_;simp only[go_sem,Qp,Q8,Qbe9,Ja,forall_eq,RS.op];have:(bif decide (lo≤n)then decide (n≤hi)else false)=decide (lo≤n∧n≤hi):=by
  by_cases h:lo≤n <;> simp[h]
 rw[this];exact hK
theorem Qaq3 {s:List UInt8}{b:UInt8}(hK:∀n:Int,K (.c (.int .i64 n)) H):Ql prog Q6d [.c (.str s),.c (.int .u8 b.toNat)] H K:=by
 refine Qc Qal Qa7o ?_;refine Qa ?_;simp only[go_sem];refine Q6 ?_;refine Qa ?_;simp only[go_sem];refine Qf (Qd (Qab (fun n e1 H1=>∃i:Nat,n=s.length-i∧i≤s.length∧H1=H∧e1=[(0,.c (.str s)),(1,.c (.int .u8 b.toNat)),(5,.c (.int .i64 i))]) s.length ?_ ?_))
 ·exact⟨0,by omega,by omega,rfl,rfl⟩
 ·rintro n e1 H1 ⟨i,hn,hi,rfl,rfl⟩;refine Q6 ?_;refine Qa ?_;simp only[go_sem];intro hl;simp only[LIM]at hl;refine Qf (Qb rfl ?_ ?_)
  ·intro hc;have hlt:i<s.length:=by simpa using hc
   refine Qe ?_;simp only[go_sem];refine Qf (Qd ?_);refine Qa ?_;simp only[go_sem,hlt];refine Qb rfl ?_ ?_
   ·intro hc2;refine Qa ?_;simp only[go_sem];refine Qh ?_;simp only[go_sem,X.next,Qp,Q8,Qm4,Ja,forall_eq,RS.op];exact hK _
   ·intro hc2;refine Qe ?_;simp only[go_sem];refine Qq ?_;simp only[go_sem,X.next];exact⟨Q1 (by omega) (by omega),s.length-(i+1),by omega,i+1,rfl,by omega,rfl⟩
  ·intro hc;refine Q9 ?_;simp only[go_sem,X.next];refine Qa ?_;simp only[go_sem];refine Qh ?_;simp only[go_sem,Qp,Q8,Qm4,Ja,forall_eq,RS.op];exact hK _
theorem Qa60 {b:UInt8}(hK:∀n:Int,K (.c (.int .i64 n)) H):Ql prog Qyh [.c (.int .u8 b.toNat)] H K:=by
 refine Qc Qal Qarg ?_;refine Qa ?_;simp only[go_sem];refine Qf (Qd ?_);refine Qa ?_;simp only[go_sem];refine Qb rfl ?_ ?_
 ·intro hc;refine Qa ?_;simp only[go_sem];refine Qh ?_;simp only[go_sem,Qp,Q8,Qcu,Ja,forall_eq,RS.op];exact hK _
 intro hc;refine Qa ?_;simp only[go_sem];refine Qb rfl ?_ ?_
 ·intro hc;refine Qa ?_;simp only[go_sem];refine Qh ?_;simp only[go_sem,Qp,Q8,Qcu,Ja,forall_eq,RS.op];exact hK _
 intro hc;refine Qa ?_;simp only[go_sem];refine Qaq3 fun n=>?_;simp only[go_sem,Qvz];refine Qb rfl ?_ ?_
 ·intro hc;refine Qa ?_;simp only[go_sem];refine Qh ?_;simp only[go_sem,Qp,Q8,Qcu,Ja,forall_eq,RS.op];exact hK _
 intro hc;refine Qa ?_;simp only[go_sem];refine Qb rfl ?_ ?_
 ·intro hc;refine Qa ?_;simp only[go_sem];refine Qh ?_;simp only[go_sem,Qp,Q8,Qcu,Ja,forall_eq,RS.op];exact hK _
 intro hc;refine Qe ?_;simp only[go_sem];refine Qa ?_;simp only[go_sem];refine Qh ?_;simp only[go_sem,Qp,Q8,Qcu,Ja,forall_eq,RS.op];exact hK _
theorem Qbg4 {s:List UInt8}{k:Int}(hK:∀b:Bool,K (.c (.bool b)) H):Ql prog Qach [.c (.str s),.c (.int .i64 k)] H K:=by
 refine Qc Qal Qa7l ?_;refine Qa ?_;simp only[go_sem];refine Q6 ?_;refine Qa ?_;simp only[go_sem];refine Qf (Qd (Qab (fun n e1 H1=>∃i:Nat,n=s.length-i∧i≤s.length∧H1=H∧e1=[(0,.c (.str s)),(1,.c (.int .i64 k)),(5,.c (.int .i64 i))]) s.length ?_ ?_))
 ·exact⟨0,by omega,by omega,rfl,rfl⟩
 ·rintro n e1 H1 ⟨i,hn,hi,rfl,rfl⟩;refine Q6 ?_;refine Qa ?_;simp only[go_sem];intro hl;simp only[LIM]at hl;refine Qf (Qb rfl ?_ ?_)
  ·intro hc;have hlt:i<s.length:=by simpa using hc
   refine Qe ?_;simp only[go_sem];refine Qf (Qd ?_);refine Qa ?_;simp only[go_sem,hlt];refine Qa60 fun cl=>?_;simp only[go_sem,Q8a];refine Qb rfl ?_ ?_
   ·intro hc2;refine Qa ?_;simp only[go_sem];refine Qh ?_;simp only[go_sem,X.next,Qp,Q8,Qm4,Ja,forall_eq,RS.op];exact hK _
   ·intro hc2;refine Qe ?_;simp only[go_sem];refine Qq ?_;simp only[go_sem,X.next];exact⟨Q1 (by omega) (by omega),s.length-(i+1),by omega,i+1,rfl,by omega,rfl⟩
  ·intro hc;refine Q9 ?_;simp only[go_sem,X.next];refine Qa ?_;simp only[go_sem];intro _;refine Qh ?_;simp only[go_sem,Qp,Q8,Qm4,Ja,forall_eq,RS.op];exact hK _
theorem Qa1q (hK:∀ss:List (List UInt8),K (.c (.sl true 1 (Q0 ss))) H):Ql prog Qh0 [] H K:=by
 refine Qc Qal Q4q ?_;refine Qa ?_;simp only[go_sem];refine Qa ?_;simp only[go_sem];refine Qh ?_;simp only[go_sem,Qp,Q8,Qqv,Ja,forall_eq,RS.op];exact hK [[102,110],[108,101,116],[115,97,121],[112,117,116],[105,102],[101,108,115,101],[108,111,111,112],[98,97,99,107],[100,111]]
theorem Qbg5 {s:List UInt8}(hK:∀b:Bool,K (.c (.bool b)) H):Ql prog Qaci [.c (.str s)] H K:=by
 refine Qc Qal Qa7m ?_;refine Qa ?_;simp only[go_sem];refine Qa ?_;simp only[go_sem];refine Qa1q fun ss=>?_;simp only[go_sem,Q8b];refine Q6 ?_;refine Qa ?_;simp only[go_sem];refine Qf (Qd (Qab (fun n e1 H1=>∃i:Nat,n=ss.length-i∧i≤ss.length∧H1=H∧e1=[(0,.c (.str s)),(3,.c (.sl true 1 (Q0 ss))),(4,.c (.int .i64 i))]) ss.length ?_ ?_))
 ·exact⟨0,by omega,by omega,rfl,rfl⟩
 ·rintro n e1 H1 ⟨i,hn,hi,rfl,rfl⟩;refine Q6 ?_;refine Qa ?_;simp only[go_sem,Qo];intro hl;simp only[LIM]at hl;refine Qf (Qb rfl ?_ ?_)
  ·intro hc;have hlt:i<ss.length:=by simpa using hc
   refine Qe ?_;simp only[go_sem];refine Qf (Qd ?_);refine Qa ?_;simp only[go_sem,hlt,Qo,Qbo _ _ hlt];refine Qb rfl ?_ ?_
   ·intro hc2;refine Qa ?_;simp only[go_sem];refine Qh ?_;simp only[go_sem,X.next,Qp,Q8,Qcu,Ja,forall_eq,RS.op];exact hK _
   ·intro hc2;refine Qe ?_;simp only[go_sem];refine Qq ?_;simp only[go_sem,X.next];exact⟨Q1 (by omega) (by omega),ss.length-(i+1),by omega,i+1,rfl,by omega,rfl⟩
  ·intro hc;refine Q9 ?_;simp only[go_sem,X.next];refine Qa ?_;simp only[go_sem];refine Qh ?_;simp only[go_sem,Qp,Q8,Qcu,Ja,forall_eq,RS.op];exact hK _
theorem Qacg {s:List UInt8}(hK:∀b:Bool,K (.c (.bool b)) H):Ql prog Qdu [.c (.str s)] H K:=by
 refine Qc Qal Qad0 ?_;refine Qa ?_;simp only[go_sem];refine Qa ?_;simp only[go_sem];refine Qbg4 fun b=>?_;simp only[go_sem,Qos];intro hl;refine⟨fun hb=>?_,fun hb=>?_⟩
 ·refine Qbg5 fun b2=>?_;simp only[go_sem,Qer];refine Qh ?_;simp only[go_sem,Qp,Q8,Qcu,Ja,forall_eq,RS.op];exact hK _
 ·simp only[go_sem,Qer,hb];refine Qh ?_;simp only[go_sem,Qp,Q8,Qcu,Ja,forall_eq,RS.op];exact hK _
theorem Qbcq {op:Int}(hK:∀a b:Int,K (.tup [.c (.int .i64 a),.c (.int .i64 b)]) H):Ql prog Q4b [.c (.int .i64 op)] H K:=by
 refine Qc Qal Qa0s ?_;refine Qa ?_;simp only[go_sem];refine Q6 ?_;refine Qa ?_;simp only[go_sem];have ret:∀(a b:Int) (e:Env),lk 2 e=.c (.int .i64 a)→lk 3 e=.c (.int .i64 b)→Qp Qkv K .ret e H:=by
  intro a b e h1 h2;simp only[go_sem,Qp,Q8,Qkv,J8,RS.op,h1,h2];exact hK _ _
 refine Qf (Qd ?_);refine Q6 ?_;refine Qa ?_;simp only[go_sem];have r5:∀(b:Bool),Q3 prog Q8d (X.inBlock 0 (X.sq prog Qpn (Qp Qkv K))) [(4,.c (.int .i64 op)),(5,.c (.bool b))] H:=by
  intro b;refine Qb rfl ?_ ?_
  ·intro hc;refine Qa ?_;simp only[go_sem];refine Qh ?_;simp only[go_sem];exact ret 0 0 _ (by simp[lk]) (by simp[lk])
  intro hc;refine Q6 ?_;refine Qa ?_;simp only[go_sem];have r8:∀(b:Bool),Q3 prog Q8c (X.inBlock 0 (X.sq prog Qpn (Qp Qkv K))) [(4,.c (.int .i64 op)),(8,.c (.bool b))] H:=by
   intro b;refine Qb rfl ?_ ?_
   ·intro hc;refine Qa ?_;simp only[go_sem];refine Qh ?_;simp only[go_sem];exact ret 1 1 _ (by simp[lk]) (by simp[lk])
   intro hc;refine Qa ?_;simp only[go_sem];refine Qb rfl ?_ ?_
   ·intro hc;refine Qa ?_;simp only[go_sem];refine Qh ?_;simp only[go_sem];exact ret 0 3 _ (by simp[lk]) (by simp[lk])
   ·intro hc;refine Qe ?_;simp only[go_sem];refine Qa ?_;simp only[go_sem];refine Qh ?_;exact ret 2 2 _ (by simp[lk]) (by simp[lk])
  refine Qf (Qb rfl ?_ ?_)
  ·intro hc;refine Qe ?_;simp only[go_sem];exact r8 _
  ·intro hc;refine Qq ?_;simp only[go_sem];exact r8 _
 refine Qf (Qb rfl ?_ ?_)
 ·intro hc;refine Qe ?_;simp only[go_sem];exact r5 _
 ·intro hc;refine Qq ?_;simp only[go_sem];exact r5 _
theorem Qa0h {op:Int}(hK:K (.c (.int .i64 (if op=4 then 2 else 1))) H):Ql prog Qadb [.c (.int .i64 op)] H K:=by
 refine Qc Qal Qbcy ?_;refine Qa ?_;simp only[go_sem];refine Q6 ?_;refine Qa ?_;simp only[go_sem];refine Qf (Qb rfl ?_ ?_)
 ·intro hc;refine Qa ?_;simp only[go_sem];refine Qh ?_;simp only[go_sem,Qp,Q8,Qcu,Ja,forall_eq,RS.op];rw[if_pos (by simpa using hc)]at hK;exact hK
 ·intro hc;refine Qe ?_;simp only[go_sem];refine Qa ?_;simp only[go_sem];refine Qh ?_;simp only[go_sem,Qp,Q8,Qcu,Ja,forall_eq,RS.op];rw[if_neg (by simpa using hc)]at hK;exact hK
theorem Q89 {l:List Ex}{i:Nat}(h:i<l.length):Qu (l.take (i+1))=Qu (l.take i)+(l[i]'h).size:=by
 rw[Jb h,Qey];simp[Qu]
theorem Qi0 {l:List St}{i:Nat}(h:i<l.length):Qi (l.take (i+1))=Qi (l.take i)+(l[i]'h).size:=by
 rw[Jb h,Qbf];simp[Qi]
theorem Qld (l:List Ex)(i:Nat):Qu (l.take i)≤Qu l:=by
 conv=>rhs;rw[←J0 i l,Qey]
 omega
theorem Qbl (l:List St)(i:Nat):Qi (l.take i)≤Qi l:=by
 conv=>rhs;rw[←J0 i l,Qbf]
 omega
theorem Qavw (l:List Ex):l.length≤Qu l:=by
 induction l with
 |nil=>simp
 |cons x r ih=>simp only[Jn,Qu];have:=x.size_pos;omega
theorem St.size_pos (x:St):1≤x.size:=by rw[x.size_eq];omega
theorem Qan (l:List St):l.length≤Qi l:=by
 induction l with
 |nil=>simp
 |cons x r ih=>simp only[Jn,Qi];have:=x.size_pos;omega
theorem Qaq2:∀(n:Nat) (x:Ex) {H:Heap} {K:V→Heap→Prop},x.size≤n→x.size≤2^40→K (.c (.int .i64 x.size)) H→Ql prog Qyj [.ag x.cells] H K:=by
 intro n
 induction n with
 |zero=>intro x _ _ h;have:=x.size_pos;omega
 |succ n ih=>
 intro x H K hn hb hK;have hsz:=x.size_kids;refine Qc Qal Qa7n ?_;refine Qa ?_;simp only[go_sem,x.cells_eq];refine Qa ?_;simp only[go_sem];refine Q6 ?_;refine Qa ?_;simp only[go_sem];refine Qf (Qd (Qab (fun n e1 H1=>∃i:Nat,n=x.kids.length-i∧i≤x.kids.length∧H1=H∧e1=[(1,.c (.pp [.int .i64 x.op,.int .i64 x.n,.str x.name,.sl false 4 (Qt x.kids)])),(3,.c (.int .i64 ((1+Qu (x.kids.take i):Nat):Int))),(4,.c (.int .i64 i))]) x.kids.length ?_ ?_))
 ·exact⟨0,by omega,by omega,rfl,by simp[Qu]⟩
 ·rintro n e1 H1 ⟨i,hn,hi,rfl,rfl⟩;refine Q6 ?_;refine Qa ?_;simp only[go_sem,Qj];intro hl;simp only[LIM]at hl;refine Qf (Qb rfl ?_ ?_)
  ·intro hc;have hlt:i<x.kids.length:=by simpa using hc
   have hm:=Qau (Jd hlt);have htk:=Q89 hlt;have htl:=Qld x.kids (i+1);refine Qe ?_;simp only[go_sem];refine Qf (Qd (Qq ?_));simp only[go_sem,hlt,Qj,Qr _ _ hlt,Ex.take4,Ex.allOw,Ex.cells_len];refine ih _ (by omega) (by omega) ?_;simp only[go_sem,Q9r];refine⟨Q1 (by omega) (by omega),?_⟩;refine Qq ?_;simp only[go_sem,X.next];refine⟨Q1 (by omega) (by omega),x.kids.length-(i+1),by omega,i+1,rfl,by omega,?_⟩;rw[htk];simp;omega
  ·intro hc;have hge:x.kids.length≤i:=by simpa using hc
   refine Q9 ?_;simp only[go_sem,X.next];refine Qa ?_;simp only[go_sem];refine Qh ?_;simp only[go_sem,Qp,Q8,Qcu,Ja,forall_eq,RS.op];rw[Je hge,←hsz];exact hK
theorem Qbcp:∀(n:Nat) (x:Ex) {H:Heap} {K:V→Heap→Prop} (deep:Int),x.size≤n→deep≤100→(∀b:Bool,K (.c (.bool b)) H)→Ql prog Que [.ag x.cells,.c (.int .i64 deep)] H K:=by
 intro n
 induction n with
 |zero=>intro x _ _ _ h;have:=x.size_pos;omega
 |succ n ih=>
 intro x H K deep hn hd hK;have hsz:=x.size_kids;refine Qc Qal Qa0r ?_;refine Qa ?_;simp only[go_sem,x.cells_eq];refine Qa ?_;simp only[go_sem];refine Qbcq fun lo hi=>?_;simp only[go_sem,Q2z,Jq,Jt];refine Q6 ?_;refine Qa ?_;simp only[go_sem];have retf:∀(b:Bool) (e:Env),lk 4 e=.c (.bool b)→Qp Qm4 K .ret e H:=by
  intro b e h1;simp only[go_sem,Qp,Q8,Qm4,Ja,forall_eq,RS.op,h1];exact hK _
 have rest:∀b:Bool,(b=false→1≤deep)→Q3 prog (s_l2Form_3.seq Q2y) (Qp Qm4 K)
   [(1,.c (.int .i64 deep)),(2,.c (.pp [.int .i64 x.op,.int .i64 x.n,.str x.name,.sl false 4 (Qt x.kids)])),(31,.c (.bool b))] H:=by
  intro b hb;refine Qf (Qb rfl ?_ ?_)
  ·intro hc;refine Qa ?_;simp only[go_sem];refine Qh ?_;simp only[go_sem];exact retf false _ (by simp[lk])
  intro hc;have hdp:=hb hc;refine Qe ?_;simp only[go_sem];refine Qa ?_;simp only[go_sem];refine Q6 ?_;refine Qa ?_;simp only[go_sem];refine Qacg fun b1=>?_;simp only[go_sem,Q20];have rest2:∀b:Bool,Q3 prog (s_l2Form_6.seq Q2x) (Qp Qm4 K)
    [(1,.c (.int .i64 deep)),(2,.c (.pp [.int .i64 x.op,.int .i64 x.n,.str x.name,.sl false 4 (Qt x.kids)])),(69,.c (.bool b))] H:=by
   intro b;refine Qf (Qb rfl ?_ ?_)
   ·intro hc;refine Qa ?_;simp only[go_sem];refine Qh ?_;simp only[go_sem];exact retf false _ (by simp[lk])
   intro hc;refine Qe ?_;simp only[go_sem];refine Q6 ?_;refine Qa ?_;simp only[go_sem];refine Qf (Qd (Qab (fun n e1 H1=>∃i:Nat,n=x.kids.length-i∧i≤x.kids.length∧H1=H∧e1=[(1,.c (.int .i64 deep)),(2,.c (.pp [.int .i64 x.op,.int .i64 x.n,.str x.name,.sl false 4 (Qt x.kids)])),(8,.c (.int .i64 i))]) x.kids.length ?_ ?_))
   ·exact⟨0,by omega,by omega,rfl,rfl⟩
   ·rintro n e1 H1 ⟨i,hn,hi,rfl,rfl⟩;refine Q6 ?_;refine Qa ?_;simp only[go_sem,Qj];intro hl;simp only[LIM]at hl;refine Qf (Qb rfl ?_ ?_)
    ·intro hc;have hlt:i<x.kids.length:=(by simpa using hc);have hm:=Qau (Jd hlt);refine Qe ?_;simp only[go_sem];refine Qf (Qd ?_);refine Qa ?_;simp only[go_sem,hlt,Qj,Qr _ _ hlt,Ex.take4,Ex.allOw,Ex.cells_len];refine⟨Q1 (by omega) (by omega),?_⟩;refine ih _ (deep-1) (by omega) (by omega) fun b2=>?_;simp only[go_sem,Q21];refine Qb rfl ?_ ?_
     ·intro hc2;refine Qa ?_;simp only[go_sem];refine Qh ?_;simp only[go_sem,X.next];exact retf false _ (by simp[lk])
     ·intro hc2;refine Qe ?_;simp only[go_sem];refine Qq ?_;simp only[go_sem,X.next];exact⟨Q1 (by omega) (by omega),x.kids.length-(i+1),by omega,i+1,rfl,by omega,rfl⟩
    ·intro hc;refine Q9 ?_;simp only[go_sem,X.next];refine Qa ?_;simp only[go_sem];refine Qh ?_;exact retf true _ (by simp[lk])
  refine⟨fun hb1=>?_,fun hb1=>?_⟩
  ·refine Qrv ?_;simp only[go_sem,Ql3];exact rest2 _
  ·replace hb1:=Qmu hb1;simp only[go_sem,Ql3,hb1];exact rest2 _
 refine⟨fun hb1=>?_,fun hb1=>?_⟩
 ·replace hb1:=Qyw hb1;have hdp:1≤deep:=by simp at hb1;omega
  refine Qrv ?_;simp only[go_sem,Ql2,hb1,Qj,cond_false];intro hl;refine⟨fun hb2=>?_,fun hb2=>?_⟩
  ·refine Qrv ?_;simp only[go_sem,Qe6];exact rest _ (fun _=>hdp)
  ·replace hb2:=Qmu hb2;simp only[go_sem,Qe6,hb2];exact rest _ (fun _=>hdp)
 ·replace hb1:=Qmu hb1;simp only[go_sem,Ql2,Qe6,hb1,Qj,cond_true];exact rest _ (fun h=>by simp at h)
theorem Qavj {x:Ex}(hx:x.size≤2^40)(hK:∀b:Bool,K (.c (.bool b)) H):Ql prog Qf1 [.ag x.cells] H K:=by
 refine Qc Qal Q0z ?_;refine Qa ?_;simp only[go_sem,Ex.ne_nil];refine Qa ?_;simp only[go_sem,Ex.take4,Ex.allOw,Ex.cells_len];refine Qbcp x.size x 6 (Jm _) (by omega) fun b=>?_;simp only[go_sem,Qhs,Ex.take4,Ex.allOw,Ex.cells_len];refine⟨fun hb=>?_,fun hb=>?_⟩
 ·refine Qaq2 x.size x (Jm _) hx ?_;simp only[go_sem,Qcv];refine Qh ?_;simp only[go_sem,Qp,Q8,Qcu,Ja,forall_eq,RS.op];exact hK _
 ·simp only[go_sem,Qcv,hb];refine Qh ?_;simp only[go_sem,Qp,Q8,Qcu,Ja,forall_eq,RS.op];exact hK _
def St.raw (x:St):List C:=[.int .i64 x.op,.str x.name,.sl false 4 (Qt x.args),.sl false 5 (Qk x.body),.sl false 5 (Qk x.els)]
theorem Qa67:∀(n:Nat) (l:List St) {fl:Bool} {H:Heap} {K:V→Heap→Prop},Qi l≤n→Qi l≤2^40→(∀v:Nat,v≤Qi l→K (.c (.int .i64 v)) H)→Ql prog Qk3 [.c (.sl fl 5 (Qk l))] H K:=by
 intro n
 induction n using Nat.strongRecOn with
 |ind n ih=>
 intro l fl H K hn hb hK;have hlen:=Qan l;refine Qc Qal Qari ?_;refine Qa ?_;simp only[go_sem];refine Qa ?_;simp only[go_sem,Qx];intro hl;refine Q6 ?_;refine Qa ?_;simp only[go_sem];refine Qf (Qd (Qab (fun n e1 H1=>∃(i v:Nat),n=l.length-i∧i≤l.length∧v≤(l.length-i)+Qi (l.take i)∧H1=H∧e1=[(0,.c (.sl fl 5 (Qk l))),(3,.c (.int .i64 v)),(4,.c (.int .i64 i))]) l.length ?_ ?_))
 ·exact⟨0,l.length,by omega,by omega,by omega,rfl,rfl⟩
 ·rintro n e1 H1 ⟨i,v,hn1,hi,hv,rfl,rfl⟩;refine Q6 ?_;refine Qa ?_;simp only[go_sem,Qx];simp only[LIM]at hl;refine fun _=>?_;refine Qf (Qb rfl ?_ ?_)
  ·intro hc;have hlt:i<l.length:=by simpa using hc
   have hm:=Qa3 (Jd hlt);have htk:=Qi0 hlt;have htl:=Qbl l (i+1);have hse:=(l[i]'hlt).size_eq;refine Qe ?_;simp only[go_sem];refine Qf (Qd (Qel ?_));simp only[go_sem,hlt,Qx,Qbe _ _ hlt,St.cells_eq];refine ih (Qi l[i].body) (by omega) l[i].body (Jm _) (by omega) fun a ha=>?_;simp only[go_sem,Qv1,hlt,Qx,Qbe _ _ hlt,St.cells_eq];refine⟨Q1 (by omega) (by omega),?_⟩;refine ih (Qi l[i].els) (by omega) l[i].els (Jm _) (by omega) fun c hc=>?_;simp only[go_sem,Qv0];refine⟨Q1 (by omega) (by omega),?_⟩;refine Qq ?_;simp only[go_sem,X.next];refine⟨Q1 (by omega) (by omega),l.length-(i+1),by omega,i+1,v+a+c,rfl,by omega,by omega,rfl⟩
  ·intro hc;have hge:l.length≤i:=by simpa using hc
   refine Q9 ?_;simp only[go_sem,X.next];refine Qa ?_;simp only[go_sem];refine Qh ?_;simp only[go_sem,Qp,Q8,Qcu,Ja,forall_eq,RS.op];rw[Je hge]at hv;exact hK v (by omega)
def Qbim (n:Nat):Prop:=∀(x:St) (deep:Int) (H:Heap) (K:V→Heap→Prop),x.size≤n→x.size≤2^40→deep≤100→(∀b:Bool,K (.c (.bool b)) H)→Ql prog Q4c [.ag x.cells,.c (.int .i64 deep)] H K
def Qa5n (n:Nat):Prop:=∀(l:List St) (deep:Int) (fl:Bool) (H:Heap) (K:V→Heap→Prop),Qi l≤n→Qi l≤2^40→deep≤100→(∀b:Bool,K (.c (.bool b)) H)→Ql prog Qk4 [.c (.sl fl 5 (Qk l)),.c (.int .i64 deep)] H K
theorem Qbeg {n:Nat}(hS:Qbim n):Qa5n n:=by
 intro l deep fl H K hn hb hd hK;refine Qc Qal Qarn ?_;have retf:∀(b:Bool) (e:Env),lk 4 e=.c (.bool b)→Qp Qm4 K .ret e H:=by
  intro b e h1;simp only[go_sem,Qp,Q8,Qm4,Ja,forall_eq,RS.op,h1];exact hK _
 refine Qa ?_;simp only[go_sem];refine Q6 ?_;refine Qa ?_;simp only[go_sem];refine Qf (Qd (Qab (fun n e1 H1=>∃(i:Nat),n=l.length-i∧i≤l.length∧H1=H∧e1=[(0,.c (.sl fl 5 (Qk l))),(1,.c (.int .i64 deep)),(5,.c (.int .i64 i))]) l.length ?_ ?_))
 ·exact⟨0,by omega,by omega,rfl,rfl⟩
 ·rintro n e1 H1 ⟨i,hn1,hi,rfl,rfl⟩;refine Q6 ?_;refine Qa ?_;simp only[go_sem,Qx];intro hl;simp only[LIM]at hl;refine Qf (Qb rfl ?_ ?_)
  ·intro hc;have hlt:i<l.length:=by simpa using hc
   have hm:=Qa3 (Jd hlt);refine Qe ?_;simp only[go_sem];refine Qf (Qd ?_);refine Qa ?_;simp only[go_sem,hlt,Qx,Qbe _ _ hlt,St.take5,St.allOw,St.cells_len];refine hS _ deep _ _ (by omega) (by omega) hd fun b=>?_;simp only[go_sem,Qwy];refine Qb rfl ?_ ?_
   ·intro hc2;refine Qa ?_;simp only[go_sem];refine Qh ?_;simp only[go_sem,X.next];exact retf false _ (by simp[lk])
   ·intro hc2;refine Qe ?_;simp only[go_sem];refine Qq ?_;simp only[go_sem,X.next];exact⟨Q1 (by omega) (by omega),l.length-(i+1),by omega,i+1,rfl,by omega,rfl⟩
  ·intro hc;refine Q9 ?_;simp only[go_sem,X.next];refine Qa ?_;simp only[go_sem];refine Qh ?_;exact retf true _ (by simp[lk])
theorem Qbh6 {n:Nat}(hS:∀m,m<n→Qa5n m):Qbim n:=by
 intro x deep H K hn hb hd hK;have hsz:=x.size_eq;refine Qc Qal Qa0u ?_;have retf:∀(b:Bool) (e:Env),lk 4 e=.c (.bool b)→Qp Qm4 K .ret e H:=by
  intro b e h1;simp only[go_sem,Qp,Q8,Qm4,Ja,forall_eq,RS.op,h1];exact hK _
 refine Qa ?_;simp only[go_sem,x.cells_eq];refine Q6 ?_;refine Qa1 ?_;simp only[go_sem];have rest:∀b:Bool,(b=false→1≤deep∧x.args.length=if x.op=4 then 2 else 1)→Q3 prog (s_l3Stmt_2.seq Q24) (Qp Qm4 K)
   [(1,.c (.int .i64 deep)),(2,.c (.pp [.int .i64 x.op,.str x.name,.sl false 4 (Qt x.args),.sl false 5 (Qk x.body),.sl false 5 (Qk x.els)])),(23,.c (.bool b))] H:=by
  intro b hb;refine Qf (Qb rfl ?_ ?_)
  ·intro hc;refine Qa ?_;simp only[go_sem];refine Qh ?_;simp only[go_sem];exact retf false _ (by simp[lk])
  intro hc;obtain⟨hdp,hal⟩:=hb hc;have hap:0<x.args.length:=by rw[hal];split <;> omega
  refine Qe ?_;simp only[go_sem];refine Qa ?_;simp only[go_sem];refine Q6 ?_;refine Qa ?_;simp only[go_sem];refine Qacg fun b1=>?_;simp only[go_sem,Q25];refine Qf (Qb rfl ?_ ?_)
  ·intro hc;refine Qa ?_;simp only[go_sem];refine Qh ?_;simp only[go_sem];exact retf false _ (by simp[lk])
  intro hc;refine Qe ?_;simp only[go_sem];refine Q6 ?_;refine Qa ?_;simp only[go_sem];refine Qf (Qd (Qab (fun n e1 H1=>∃(i:Nat),n=x.args.length-i∧i≤x.args.length∧H1=H∧e1=[(1,.c (.int .i64 deep)),(2,.c (.pp [.int .i64 x.op,.str x.name,.sl false 4 (Qt x.args),.sl false 5 (Qk x.body),.sl false 5 (Qk x.els)])),(6,.c (.int .i64 i))]) x.args.length ?_ ?_))
  ·exact⟨0,by omega,by omega,rfl,rfl⟩
  ·rintro n e1 H1 ⟨i,hn1,hi,rfl,rfl⟩;refine Q6 ?_;refine Qa ?_;simp only[go_sem,Qj];intro hl;simp only[LIM]at hl;refine Qf (Qb rfl ?_ ?_)
   ·intro hc;have hlt:i<x.args.length:=(by simpa using hc);have hm:=Qau (Jd hlt);refine Qe ?_;simp only[go_sem];refine Qf (Qd ?_);refine Qa ?_;simp only[go_sem,hlt,Qj,Qr _ _ hlt,Ex.take4,Ex.allOw,Ex.cells_len];refine Qavj (by omega) fun b=>?_;simp only[go_sem,Q26];refine Qb rfl ?_ ?_
    ·intro hc2;refine Qa ?_;simp only[go_sem];refine Qh ?_;simp only[go_sem,X.next];exact retf false _ (by simp[lk])
    ·intro hc2;refine Qe ?_;simp only[go_sem];refine Qq ?_;simp only[go_sem,X.next];exact⟨Q1 (by omega) (by omega),x.args.length-(i+1),by omega,i+1,rfl,by omega,rfl⟩
   ·intro hc;refine Q9 ?_;simp only[go_sem,X.next];refine Q6 ?_;refine Qa ?_;simp only[go_sem,hap,Qj,Qr _ _ hap,Ex.cells_eq];refine⟨fun _=>Jaz _,?_⟩;refine Qf (Qb rfl ?_ ?_)
    ·intro hc;refine Qa ?_;simp only[go_sem];refine Qh ?_;simp only[go_sem];exact retf false _ (by simp[lk])
    intro hc;refine Qe ?_;simp only[go_sem];refine Q6 ?_;refine Qa ?_;simp only[go_sem,Qx]
    intros
    refine Qf (Qb rfl ?_ ?_)
    ·intro hc;refine Qa ?_;simp only[go_sem];refine Qh ?_;simp only[go_sem];exact retf false _ (by simp[lk])
    intro hc;refine Qe ?_;simp only[go_sem];refine Qa ?_;simp only[go_sem];refine⟨Q1 (by omega) (by omega),?_⟩;refine hS (Qi x.body) (by omega) _ _ _ _ _ (Jm _) (by omega) (by omega) fun b1=>?_;simp only[go_sem,Qwx];refine⟨fun _=>Q1 (by omega) (by omega),?_⟩;refine⟨fun hb1=>?_,fun hb1=>?_⟩
    ·refine hS (Qi x.els) (by omega) _ _ _ _ _ (Jm _) (by omega) (by omega) fun b2=>?_;simp only[go_sem,Qiy];refine Qh ?_;exact retf _ _ (by simp[lk];rfl)
    ·simp only[go_sem,Qiy,hb1];refine Qh ?_;exact retf false _ (by simp[lk])
 refine⟨fun hb1=>?_,fun hb1=>?_⟩
 ·replace hb1:=Qyw hb1;have hdp:1≤deep:=by simp at hb1;omega
  refine Qrv ?_;simp only[go_sem,Ql7,hb1,Qj,cond_false];refine⟨fun hb2=>?_,fun hb2=>?_⟩
  ·refine Qa0h ?_;simp only[go_sem,Qe7,Qj];refine rest _ (fun h=>⟨hdp,?_⟩);have h1:(x.args.length:Int)=if x.op=4 then 2 else 1:=by
    cases h2:decide (1≤x.op∧x.op≤8) <;> rw[h2]at h <;> simp_all
   by_cases h4:x.op=4
   ·rw[if_pos h4]at h1⊢;omega
   ·rw[if_neg h4]at h1⊢;omega
  ·replace hb2:=Qmu hb2;simp only[go_sem,Qe7,hb2,Qj];exact rest _ (fun h=>by simp at h)
 ·replace hb1:=Qmu hb1;simp only[go_sem,Ql7,Qe7,hb1,Qj,cond_true];exact rest _ (fun h=>by simp at h)
theorem Qbh7 (n:Nat):Qa5n n:=by
 induction n using Nat.strongRecOn with
 |ind n ih=>exact Qbeg (Qbh6 ih)
theorem Qbjd {f:Fn}(hf:Qi f.body≤2^40)(hK:∀b:Bool,K (.c (.bool b)) H):Ql prog Qan7 [.ag f.cells] H K:=by
 refine Qc Qal Qbe7 ?_;have retf:∀(b:Bool) (e:Env),lk 2 e=.c (.bool b)→Qp Qcu K .ret e H:=by
  intro b e h1;simp only[go_sem,Qp,Q8,Qcu,Ja,forall_eq,RS.op,h1];exact hK _
 refine Qa ?_;simp only[go_sem,Fn.cells];refine Q6 ?_;refine Qa ?_;simp only[go_sem];refine Qf (Qd (Qab (fun n e1 H1=>∃(i:Nat),n=f.params.length-i∧i≤f.params.length∧H1=H∧e1=[(1,.c (.pp [.str f.name,.sl false 1 (Q0 f.params),.sl false 5 (Qk f.body)])),(3,.c (.int .i64 i))]) f.params.length ?_ ?_))
 ·exact⟨0,by omega,by omega,rfl,rfl⟩
 ·rintro n e1 H1 ⟨i,hn1,hi,rfl,rfl⟩;refine Q6 ?_;refine Qa ?_;simp only[go_sem,Qo];intro hl;simp only[LIM]at hl;refine Qf (Qb rfl ?_ ?_)
  ·intro hc;have hlt:i<f.params.length:=by simpa using hc
   refine Qe ?_;simp only[go_sem];refine Qf (Qd ?_);refine Qa ?_;simp only[go_sem,hlt,Qo,Qbo _ _ hlt];refine Qacg fun b=>?_;simp only[go_sem,Qaga];refine Qb rfl ?_ ?_
   ·intro hc2;refine Qa ?_;simp only[go_sem];refine Qh ?_;simp only[go_sem,X.next];exact retf false _ (by simp[lk])
   ·intro hc2;refine Qe ?_;simp only[go_sem];refine Qq ?_;simp only[go_sem,X.next];exact⟨Q1 (by omega) (by omega),f.params.length-(i+1),by omega,i+1,rfl,by omega,rfl⟩
  ·intro hc;refine Q9 ?_;simp only[go_sem,X.next];refine Qa ?_;simp only[go_sem];refine Qacg fun b=>?_;simp only[go_sem,Qagb,Qo]
   intros
   refine⟨fun hb1=>?_,fun hb1=>?_⟩
   ·refine Qbh7 _ _ _ _ _ _ (Jm _) hf (by omega) fun b2=>?_;simp only[go_sem,Qv2];refine Qh ?_;exact retf _ _ (by simp[lk];rfl)
   ·simp only[go_sem,Qv2,hb1];refine Qh ?_;exact retf false _ (by simp[lk])
def Qs:List Fn→Nat
 |[]=>0
 |f::r=>Qi f.body+Qs r
theorem Qa5 {l:List Fn}{f:Fn}(h:f∈l):Qi f.body≤Qs l:=by
 induction l with
 |nil=>simp at h
 |cons g r ih=>
  simp only[Qs];rcases Jw.1 h with rfl|h
  ·omega
  ·have:=ih h;omega
theorem Qm0 (a b:List Fn):Qs (a++b)=Qs a+Qs b:=by
 induction a with
 |nil=>simp[Qs]
 |cons x r ih=>simp only[Js,Qs,ih];omega
theorem Q4r {l:List Fn}{i:Nat}(h:i<l.length):Qs (l.take (i+1))=Qs (l.take i)+Qi (l[i]'h).body:=by
 rw[Jb h,Qm0];simp[Qs]
theorem Qi6 (l:List Fn)(i:Nat):Qs (l.take i)≤Qs l:=by
 conv=>rhs;rw[←J0 i l,Qm0]
 omega
theorem Qbg7 {l:List Fn}{fl:Bool}(hf:Qs l≤2^40)(hK:∀n:Int,K (.c (.int .i64 n)) H):Ql prog Qacj [.ag [.sl fl 3 (Qy l)]] H K:=by
 refine Qc Qal Qa7q ?_;refine Qa ?_;simp only[go_sem];refine Qa ?_;simp only[go_sem];refine Q6 ?_;refine Qa ?_;simp only[go_sem];refine Qf (Qd (Qab (fun n e1 H1=>∃(i v:Nat),n=l.length-i∧i≤l.length∧v≤Qs (l.take i)∧H1=H∧e1=[(1,.c (.pp [.sl fl 3 (Qy l)])),(3,.c (.int .i64 v)),(4,.c (.int .i64 i))]) l.length ?_ ?_))
 ·exact⟨0,0,by omega,by omega,by omega,rfl,rfl⟩
 ·rintro n e1 H1 ⟨i,v,hn1,hi,hv,rfl,rfl⟩;refine Q6 ?_;refine Qa ?_;simp only[go_sem,Qw];intro hl;simp only[LIM]at hl;refine Qf (Qb rfl ?_ ?_)
  ·intro hc;have hlt:i<l.length:=by simpa using hc
   have hm:=Qa5 (Jd hlt);have htk:=Q4r hlt;have htl:=Qi6 l (i+1);refine Qe ?_;simp only[go_sem];refine Qf (Qd (Qq ?_));simp only[go_sem,hlt,Qw,Qaf _ _ hlt,Fn.cells];refine Qa67 _ _ (Jm _) (by omega) fun c hc=>?_;simp only[go_sem,Q8f];refine⟨Q1 (by omega) (by omega),?_⟩;refine Qq ?_;simp only[go_sem,X.next];exact⟨Q1 (by omega) (by omega),l.length-(i+1),by omega,i+1,v+c,rfl,by omega,by omega,rfl⟩
  ·intro hc;refine Q9 ?_;simp only[go_sem,X.next];refine Qa ?_;simp only[go_sem];refine Qh ?_;simp only[go_sem,Qp,Q8,Qcu,Ja,forall_eq,RS.op];exact hK _
theorem Qajk {l:List Fn}{fl:Bool}(hf:Qs l≤2^40)(hK:∀b:Bool,K (.c (.bool b)) H):Ql prog Qce [.ag [.sl fl 3 (Qy l)]] H K:=by
 refine Qc Qal Qo2 ?_;have retf:∀(b:Bool) (e:Env),lk 2 e=.c (.bool b)→Qp Qcu K .ret e H:=by
  intro b e h1;simp only[go_sem,Qp,Q8,Qcu,Ja,forall_eq,RS.op,h1];exact hK _
 refine Qa ?_;simp only[go_sem];refine Q6 ?_;refine Qa ?_;simp only[go_sem,Qw];intro hl;simp only[LIM]at hl;refine Qrv ?_;simp only[go_sem,Qei];refine Qf (Qb rfl ?_ ?_)
 ·intro hc;refine Qa ?_;simp only[go_sem];refine Qh ?_;simp only[go_sem];exact retf false _ (by simp[lk])
 intro hc;refine Qe ?_;simp only[go_sem];refine Q6 ?_;refine Qa ?_;simp only[go_sem];refine Qf (Qd (Qab (fun n e1 H1=>∃(i:Nat),n=l.length-i∧i≤l.length∧H1=H∧e1=[(1,.c (.pp [.sl fl 3 (Qy l)])),(3,.c (.int .i64 i))]) l.length ?_ ?_))
 ·exact⟨0,by omega,by omega,rfl,rfl⟩
 ·rintro n e1 H1 ⟨i,hn1,hi,rfl,rfl⟩;refine Q6 ?_;refine Qa ?_;simp only[go_sem,Qw];refine fun _=>?_;refine Qf (Qb rfl ?_ ?_)
  ·intro hc;have hlt:i<l.length:=by simpa using hc
   have hm:=Qa5 (Jd hlt);refine Qe ?_;simp only[go_sem];refine Qf (Qd ?_);refine Qa ?_;simp only[go_sem,hlt,Qw,Qaf _ _ hlt,Fn.take3,Fn.allOw,Fn.cells_len];refine Qbjd (by omega) fun b=>?_;simp only[go_sem,Qej];refine Qb rfl ?_ ?_
   ·intro hc2;refine Qa ?_;simp only[go_sem];refine Qh ?_;simp only[go_sem,X.next];exact retf false _ (by simp[lk])
   ·intro hc2;refine Qe ?_;simp only[go_sem];refine Qq ?_;simp only[go_sem,X.next];exact⟨Q1 (by omega) (by omega),l.length-(i+1),by omega,i+1,rfl,by omega,rfl⟩
  ·intro hc;refine Q9 ?_;simp only[go_sem,X.next];refine Qa ?_;simp only[go_sem];refine Qbg7 hf fun n=>?_;simp only[go_sem,Qek];refine Qh ?_;exact retf _ _ (by simp[lk];rfl)
end Go.AE.Y
namespace Go.AE.Y
open Go.Proofs.Tryz
structure PrOk (l:List Fn):Prop where
 pos:0<l.length
 par:∀f∈l,f.params.length≤3
 ok:∀f∈l,Qdl f.body
 size:Qs l≤2^34
 len:l.length≤4
end Go.AE.Y
namespace Go.AE
open Go.AE.Y
open Go.Proofs.Tryz
theorem Kn.perm4 {H0 H:Heap}{E:List (Nat×Obj)}{a b c d:Nat×Obj}(kn:Kn H0 H E [a,b,c,d]):Kn H0 H E [a,b,d]:=
 Kn.drop (A:=[a,b,d]) (B:=[c]) (kn.perm (.cons _ (.cons _ (.swap _ _ _))))
end Go.AE
namespace Go.AE.Y
open Go.Proofs.Tryz
theorem Qaoi {R:Rdr}{k:Nat}{H:Heap}{K:V→Heap→Prop}(hR:H R.l=R.o k)(hk:k+7000000≤2^30)
  (hK:∀(l:List Fn) (H':Heap) (k':Nat),k<k'→k'≤k+7000000→Upd H H' [(R.l,R.o k')]→PrOk l→K (.ag [.sl false 3 (Qy l)]) H') :
  Ql prog Qug [.c (.ptr R.l 0)] H K:=by
 refine Q5 ?_;refine Qc Qal Qbc0 ?_;refine Qa ?_;simp only[go_sem];intro x2 hx2 H1 h1;have kn:=(Kn.start1 hR (R.o_ne k)).al hx2 h1;refine Qa ?_;simp only[go_sem];refine Qo3 (ns:=[14,20,8,26]) (kn.e 0 rfl) (by omega) (by simp) fun v H2 hv hu=>?_;have kn:=kn.callE 0 rfl hu (R.o_ne _);simp only[go_sem,Qag9];intro gl hgl H3 h3;have kn:Kn H H3 [(R.l,R.o (k+1))] [(x2,.st [.sl true 3 []]),(gl,GS.o ⟨[],(.sl true 3 [],[]),[],true,0,v⟩ R)]:=kn.al hgl h3;have hv26:0≤v∧v≤26:=by simp at hv;omega
 simp only[go_sem,Qag8];have hne:R.l≠gl:=kn.ne 0 1 rfl rfl;refine Q6 ?_;refine Qa ?_;simp only[go_sem];refine Qo3 (ns:=[0,1,1,2]) (kn.e 0 rfl) (by omega) (by simp) fun cnt H4 hcnt hu=>?_;have kn:=kn.callE 0 rfl hu (R.o_ne _);have hc2:0≤cnt∧cnt≤2:=by simp at hcnt;omega
 simp only[go_sem,Qaha];obtain⟨M,hM⟩:∃M:Nat,M=2001301:=⟨_,rfl⟩;refine Qf (Qd (Qab (fun n e1 H1=>∃(j k4:Nat) (s:GS),n=cnt.toNat-j∧(j:Int)≤cnt∧s.fns.length=j∧k+2≤k4∧k4≤k+2+M * j∧s.ok k4∧(∀f∈s.fns,Qdl f.body)∧4 * k+Qs s.fns≤4 * k4∧
   Gr s.ffl.2 3 (Qy s.fns) s.ffl.1∧Kn H H1 [(R.l,R.o k4)] ([(x2,.st [.sl true 3 []]),(gl,s.o R)]++s.ffl.2)∧
   e1=[(0,.c (.ptr R.l 0)),(2,.c (.ptr x2 0)),(3,.c (.ptr gl 0)),(4,.c (.int .i64 (cnt-j)))]) cnt.toNat ?_ ?_))
 ·refine⟨0,k+2,⟨[],(.sl true 3 [],[]),[],true,0,v⟩,by omega,by omega,rfl,by omega,by omega,⟨?_,?_,?_,?_,by simp,by simp,by simp⟩,by simp,by simp only[Qs];omega,.nil 3,kn,by simp⟩
  ·show -1≤(0:Int);omega
  ·show (0:Int)≤_;omega
  ·show _≤v;omega
  ·show v≤100;omega
 ·rintro n e1 H1 ⟨j,k4,s,hn,hj,hfl,hk4,hk4',hs,hfok,hsz,hgr,kn,rfl⟩;have hMj:M * j≤M * 2:=Jal _ (by omega);have hM1:M * (j+1)=M * j+M:=Ja7 _ _;have hG1:=kn.l 1 rfl;have hfow:=hgr.isOw;have hflen:=hgr.lenC;rw[Qw]at hflen;refine Q6 ?_;refine Qa ?_;simp only[go_sem];refine Qf (Qb rfl ?_ ?_)
  ·intro hc;have hi:(j:Int)<cnt:=by simp at hc;omega
   refine Qe ?_;simp only[go_sem];refine Qf (Qd ?_);have hfok':=(hgr.okSl (B:=[_,_]) kn);have eg:List.getD [[C.str [102]],[C.str [103]],[C.str [104]]] s.fns.length []=[.str (List.getD [[102],[103],[104]] s.fns.length [])]:=Qbo [[102],[103],[104]] _ (by simp;omega);have hl3:s.fns.length<3:=by omega
   refine Qa1 ?_;simp only[go_sem,hG1,GS.o,hfow,hflen,eq_true hfok',eg,hl3];refine Qbx (kn.e 0 rfl) (by omega) fun p H2 hp hu=>?_;have kn:Kn H H2 [(R.l,R.o (k4+1))] ([(x2,.st [.sl true 3 []]),(gl,s.o R)]++s.ffl.2):=kn.callE 0 rfl hu (R.o_ne _);rw[if_neg (by omega)]at hp;have hG2:=kn.l 1 rfl;have hfok2:=(hgr.okSl (B:=[_,_]) kn);simp only[go_sem,Qahd,hG2,GS.o,hfow,hflen,eq_true hfok2,eg,hl3];have hF:FnsOk H2 R gl s:=⟨hgr,fun q hq=>by
    have h1:=kn.get q (Jg _ (Jg _ hq));refine⟨h1.1,fun hh=>?_,fun hh=>?_⟩
    ·exact kn.usedE 0 rfl (hh▸kn.loc q (Jg _ hq))
    ·have:=kn.dL;rw[Jy]at this;exact (Jx.1 this).2.2 gl (by simp) q.1 (Qbn hq) hh.symm⟩
   refine Qamx hp.1 (by omega) (kn.e 0 rfl) (kn.l 1 rfl) hne (hs.mono (Ja4 k4)) hF (by omega) fun f s2 H5 k5 g1 g2 hu hs2 g3 g4 g5 g6 g7=>?_;have kn:=kn.callEL 0 1 rfl rfl hu (R.o_ne _) (GS.o_ne _ _);have kn:Kn H H5 [(R.l,R.o k5)] ([(x2,.st [.sl true 3 []]),(gl,s2.o R)]++s.ffl.2):=kn;simp only[go_sem,Qahc];intro x5 hx5 H6 h6;have kn:=kn.al hx5 h6;have kn:=kn.perm (L':=[(x2,_),(gl,_),(x5,_)]++s.ffl.2) (by
    simp only[Js,Jad];exact .cons _ (.cons _ Jz))
   have hG6:=kn.l 1 rfl;have hx56:=kn.l 2 rfl;have hfok6:=(hgr.okSl (B:=[_,_,_]) kn);simp only[go_sem,Qahb,hG6,hx56,GS.o,g4,hfow,hflen,eq_true hfok6,eg,hl3,Fn.cells];intro H7 h7;have kn:Kn H H7 [(R.l,R.o k5)] ([(x2,_),(gl,_),(x5,_)]++s.ffl.2):=kn.stL 2 rfl h7;have hG7:=kn.l 1 rfl;have hx57:=kn.l 2 rfl;refine Qel ?_;simp only[go_sem,hG7,hx57,GS.o,g4,hfow];refine kn.grow (B:=[_,_,_]) (new:=[f.cells]) hgr (.mk' _ _ _ _) (by simp[f.noOw]) (by simp only[Qw,LIM,Jn,Jas];omega) fun z H8 kn=>?_;have hG8:=kn.l 1 rfl;simp only[go_sem,Qahe,hG8,GS.o];intro H9 h9;have kn:=kn.stL 1 rfl h9;obtain⟨s9,hs9⟩:∃s9:GS,s9=GS.mk (s.fns++[f]) (C.vsl z 3 0 ((Qy s.fns).length+1),[(z,Obj.vec 3 (Qy s.fns++[f.cells]))]) s2.vars s2.vfl s2.next s2.left:=⟨_,rfl⟩;have ho9:s9.o R=.st [C.ptr R.l 0,C.vsl z 3 0 ((Qy s.fns).length+1),C.sl s2.vfl 1 (Q0 s2.vars),C.int IntKind.i64 s2.next,C.int IntKind.i64 s2.left]:=by rw[hs9];rfl
   rw[←ho9]at kn;have kn:Kn H H9 [(R.l,R.o k5)] [(x2,_),(gl,s9.o R),(x5,_),(z,_)]:=kn;have kn:=kn.perm4;refine Qq ?_;simp only[go_sem,X.next];have hkb:k5≤k+2+M * (j+1):=by rw[hM1];omega
   refine⟨Q1 (by omega) (by omega),cnt.toNat-(j+1),by omega,j+1,k5,s9,rfl,by omega,by simp[hs9,hfl],by omega,hkb,?_,?_,?_,?_,by rw[hs9]at kn⊢;exact kn,?_⟩
   ·subst hs9;refine⟨hs2.n0,hs2.n1,hs2.l0,hs2.l1,hs2.v,fun f' hf'=>?_,by simp;omega⟩;rcases Jf.1 hf' with h|h
    ·exact hs.f f' h
    ·simp at h;subst h;exact g5
   ·subst hs9;intro f' hf';rcases Jf.1 hf' with h|h
    ·exact hfok f' h
    ·simp at h;subst h;exact g6
   ·subst hs9;simp only[Qm0,Qs];omega
   ·subst hs9;show Gr [(z,Obj.vec 3 (Qy s.fns++[f.cells]))] 3 (Qy (s.fns++[f])) _;rw[Qyk];exact .mk _ _ _ (by simp[Qw])
   ·have:cnt-((j+1:Nat):Int)=cnt-j-1:=(by omega);rw[this]
  ·intro hc;refine Q9 ?_;simp only[go_sem,X.next];have hkE:k4≤k+4002604:=by omega
   refine Qa ?_;simp only[go_sem];refine Qo3 (ns:=[0,1,2,1]) (kn.e 0 rfl) (by omega) (by simp) fun p H2 hp hu=>?_;have kn:Kn H H2 [(R.l,R.o (k4+1))] ([(x2,.st [.sl true 3 []]),(gl,s.o R)]++s.ffl.2):=kn.callE 0 rfl hu (R.o_ne _);have hp2:0≤p∧p≤3:=by simp at hp;omega
   simp only[go_sem,Qaab];have hF:FnsOk H2 R gl s:=⟨hgr,fun q hq=>by
    have h1:=kn.get q (Jg _ (Jg _ hq));refine⟨h1.1,fun hh=>?_,fun hh=>?_⟩
    ·exact kn.usedE 0 rfl (hh▸kn.loc q (Jg _ hq))
    ·have:=kn.dL;rw[Jy]at this;exact (Jx.1 this).2.2 gl (by simp) q.1 (Qbn hq) hh.symm⟩
   refine Qamx hp2.1 hp2.2 (kn.e 0 rfl) (kn.l 1 rfl) hne (hs.mono (Ja4 k4)) hF (by omega) fun f s2 H5 k5 g1 g2 hu hs2 g3 g4 g5 g6 g7=>?_;have kn:=kn.callEL 0 1 rfl rfl hu (R.o_ne _) (GS.o_ne _ _);have kn:Kn H H5 [(R.l,R.o k5)] ([(x2,.st [.sl true 3 []]),(gl,s2.o R)]++s.ffl.2):=kn;simp only[go_sem,Qaaa];intro x6 hx6 H6 h6;have kn:=kn.al hx6 h6;have kn:=kn.perm (L':=[(x2,_),(gl,_),(x6,_)]++s.ffl.2) (by
    simp only[Js,Jad];exact .cons _ (.cons _ Jz))
   have hx66:=kn.l 2 rfl;simp only[go_sem,Q99,hx66,Fn.cells];intro H7 h7;have kn:Kn H H7 [(R.l,R.o k5)] ([(x2,_),(gl,_),(x6,_)]++s.ffl.2):=kn.stL 2 rfl h7;have hG7:=kn.l 1 rfl;have hx67:=kn.l 2 rfl;have hfok7:=hgr.okSl (B:=[_,_,_]) kn;have hrows7:=hgr.rowsOf (B:=[_,_,_]) kn;have hesz:=hgr.elemSz;have hL:s.fns.length≤LIM:=by simp only[LIM];omega
   refine Qa1 ?_;simp only[go_sem,hG7,hx67,GS.o,g4,hfow,hflen,eq_true hfok7,hrows7,hesz,hL,Jax];refine⟨.inl trivial,Qcr _,fun y hy H8 h8=>?_⟩;have kn:=kn.al hy h8;have kn:=kn.perm (L':=([(x2,_),(gl,_),(x6,_)]++[(y,_)])++s.ffl.2) Qbjt;have kn:=kn.drop;have hx68:=kn.l 2 rfl;have kn:Kn H H8 [(R.l,R.o k5)] [(x2,_),(gl,_),(x6,_),(y,_)]:=kn;have hy8:=kn.l 3 rfl;have etk:List.take s.fns.length (Qy s.fns)=Qy s.fns:=Je (by rw[Qw];omega);simp only[go_sem,Qaae,hx68,hy8,Qw,etk];refine⟨by omega,by simp only[LIM];omega,fun z hz H9 h9=>?_⟩;have kn:Kn H H9 [(R.l,R.o k5)] [(x2,_),(gl,_),(x6,_),(z,.vec 3 (Qy s.fns++[f.cells]))]:=kn.ap 3 rfl hz h9;simp only[go_sem,Qaad];intro x7 hx7 H10 h10;have kn:=kn.al hx7 h10;have hG10:=kn.l 1 rfl;have hx6a:=kn.l 2 rfl;have hx7a:=kn.l 4 rfl;have kn:Kn H H10 [(R.l,R.o k5)] [(x2,_),(gl,_),(x6,_),(z,_),(x7,_)]:=kn;simp only[go_sem,Qaac,hG10,hx6a,hx7a,GS.o,g4,hfow];intro H11 h11;have kn:=kn.stL 4 rfl h11;have kn:Kn H H11 [(R.l,R.o k5)] ([(x2,.st [.sl true 3 []]),(x7,.st [.vsl z 3 0 (s.fns.length+1)])]++[(z,.vec 3 (Qy s.fns++[f.cells]))]):=
    (kn.perm (L':=([(x2,_),(x7,_)]++[(z,_)])++[(gl,_),(x6,_)]) (by
     simp only[List.set,Js,Jad];refine .cons _ ?_;refine .trans (.cons _ (.cons _ (.swap _ _ _))) ?_;refine .trans (.cons _ (.swap _ _ _)) ?_;refine .trans (.swap _ _ _) ?_;refine .cons _ ?_;refine .trans (.cons _ (.swap _ _ _)) ?_;exact .swap _ _ _)).drop
   have hz11:=kn.l 2 rfl;have hx711:=kn.l 1 rfl;obtain⟨hfz,kn⟩:=kn.freeze 1 rfl (og':=.st [.sl false 3 (Qy (s.fns++[f]))]) (FrzKL.st (.cons rfl (by
    rw[←Qyk];exact Qaoc (by simp) hz11 (by simp[Qw]) (Qqk (noOw_app (Qcr _) (by simp[f.noOw])))) .nil)) (by simp)
   refine Q6 ?_;refine c_gh (Qoz _ (fun t=>?_) hfz) (e':=[(2,V.c (C.ptr x2 0)),(7,V.c (C.ptr x7 0))]) ?_
   ·simp only[lk];split
    ·exact .c _ _ (.same _ rfl)
    ·split
     ·exact .c _ _ (.same _ rfl)
     ·exact .unk _
   generalize ((H11.frz fun m=>m == z).set x7 (Obj.st [C.sl false 3 (Qy (s.fns++[f]))]))=H12 at *;have hx7b:=kn.l 1 rfl;have hx2b:=kn.l 0 rfl;have hpr:Qs (s.fns++[f])≤2^34:=by rw[Qm0];simp only[Qs];omega
   refine Qa ?_;simp only[go_sem,hx7b];refine Qajk (by omega) fun b=>?_;simp only[go_sem,Qaaf];refine Qf (Qb rfl ?_ ?_)
   ·intro hc;refine Qa ?_;simp only[go_sem,hx2b];intro H13 h13;have kn:=kn.stL 0 rfl h13;have hx2c:=kn.l 0 rfl;refine Qh ?_;simp only[go_sem,Qp,Q8,Qao2,Ja,forall_eq,RS.op,hx2c];refine⟨.ag [.sl false 3 (Qy [Fn.mk [109] [] [St.mk 3 [] [Ex.mk 1 1 [] []] [] []]])],FrzL.ag ?_,hK _ _ k5 (by omega) (by omega) kn.fin ⟨by simp,by simp,?_,?_,by simp⟩⟩
    ·simp only[Qy,J2,Jaw,Fn.cells,Qa5b,Qk,St.cells,Qt,Ex.cells]
     repeat' first|exact FrzL.nil|exact FrzR.nil|exact Qg rfl|exact FrzL.same (Ex.noOw _)|exact FrzL.same (St.noOw _)|refine FrzL.cons ?_ ?_|refine FrzR.cons ?_ ?_|refine FrzR.sl ?_
    ·intro f hf;simp at hf;subst hf;simp[Qdl,St.ok,Qdn,Ex.ok]
    ·simp[Qs,Qi,St.size,Qu,Ex.size]
   ·intro hc;refine Qe ?_;simp only[go_sem];refine Qa ?_;simp only[go_sem,hx2b,hx7b];intro H13 h13;have kn:=kn.stL 0 rfl h13;have hx2c:=kn.l 0 rfl;refine Qh ?_;simp only[go_sem,Qp,Q8,Qao2,Ja,forall_eq,RS.op,hx2c];refine⟨.ag [.sl false 3 (Qy (s.fns++[f]))],FrzL.ag (.cons (Qg rfl) .nil),hK _ _ k5 (by omega) (by omega) kn.fin ⟨by simp,?_,?_,hpr,by simp;omega⟩⟩
    ·intro f' hf';rcases Jf.1 hf' with h|h
     ·exact hs.f f' h
     ·simp at h;subst h;exact g5
    ·intro f' hf';rcases Jf.1 hf' with h|h
     ·exact hfok f' h
     ·simp at h;subst h;exact g6
end Go.AE.Y
namespace Go.AE.Y
structure Blk where
 ic:C
 irows:List (List C)
 lg:List (Nat×Obj)
 jump:Int
 on:Int
 nfl:Bool
 next:List Int
def Blk.row (b:Blk):List C:=[.sl true 2 [],b.ic,.int .i64 b.jump,.int .i64 b.on,.sl b.nfl 1 (Qm b.next)]
structure LS where
 fns:List Fn
 pfl:Bool
 params:Int
 regs:Int
 bc:C
 lb:List (Nat×Obj)
 blocks:List Blk
 at_:Nat
 vc:C
 lv:List (Nat×Obj)
 vars:List (List C)
 next:Int
def LS.o (s:LS):Obj:=.st [.sl s.pfl 3 (Qy s.fns),.int .i64 s.params,.int .i64 s.regs,s.bc,.int .i64 s.at_,s.vc,.int .i64 s.next,.sl true 1 []]
structure LS.ok (s:LS)(N:Nat):Prop where
 r0:0≤s.regs
 r1:s.regs≤N
 n0:0≤s.next
 n1:s.next≤N
 b1:s.blocks.length≤N
 i1:∀b∈s.blocks,b.irows.length≤N
 v1:s.vars.length≤N
theorem LS.ok.mono {s:LS}{N M:Nat}(h:s.ok N)(hm:N≤M):s.ok M:=
 ⟨h.r0,by have:=h.r1;omega,h.n0,by have:=h.n1;omega,by have:=h.b1;omega,fun b hb=>by have:=h.i1 b hb;omega,by have:=h.v1;omega⟩
end Go.AE.Y
namespace Go.AE
variable {H0 H H' F:Heap}{E L B A:List (Nat×Obj)}
theorem Kn.frz1 {z:Nat}{o:Obj}(kn:Kn H0 H E (B++[(z,o)])):Kn H0 (H.frz fun m=>m == z) E B:=by
 have hzf:H0 z=.none:=kn.loc (z,o) (by simp);have hnd:=kn.dL;rw[Jy]at hnd;have hne:∀p∈B,p.1≠z:=fun p hp hh=>(Jx.1 hnd).2.2 _ (Qbn hp) z (by simp) hh;have hneE:∀p∈E,p.1≠z:=fun p hp hh=>kn.ext p hp (hh▸hzf);refine⟨fun p hp=>?_,kn.ext,fun p hp=>kn.loc p (Jh _ hp),kn.dE,(Jx.1 hnd).1,fun m hm hx=>?_⟩
 ·have:p.1≠z:=by
   rcases Jf.1 hp with h|h
   ·exact hneE p h
   ·exact hne p h
  have h2:(H.frz fun m=>m == z) p.1=H p.1:=by simp[Heap.frz,this]
  rw[h2];refine kn.get p ?_;rcases Jf.1 hp with h|h
  ·exact Jh _ h
  ·exact Jg _ (Jh _ h)
 ·have:m≠z:=fun h=>hm (h▸hzf);have h2:(H.frz fun m=>m == z) m=H m:=by simp[Heap.frz,this]
  rw[h2];exact kn.chg m hm hx
theorem Gr.freeze {Lg:List (Nat×Obj)}{sz:Nat}{rows:List (List C)}{c:C}(h:Gr Lg sz rows c)(kn:Kn H0 H E (B++Lg))(hr:∀r∈rows,noOw r=true) :
  ∃S H2,FrzC H S c (.sl false sz rows)∧FrzH H S H2∧Kn H0 H2 E B:=by
 rcases h with ⟨rfl,rfl,rfl⟩|⟨y,rfl,rfl⟩
 ·refine⟨fun _=>false,H,Y.FrzR.nil.sl,fun m=>.inr ⟨rfl,.same _⟩,by simpa using kn⟩
 ·exact⟨fun m=>m == y,_,(Y.FrzR.same hr).vsl (by simp) (kn.get (y,.vec sz rows) (by simp)).1 rfl,Qqi _ _,kn.frz1⟩
end Go.AE
namespace Go.AE.Y
structure InsD where
 op:Int
 to:Int
 args:List Int
 n:Int
def InsD.cells (x:InsD):List C:=[.int .i64 x.op,.int .i64 x.to,.sl false 1 (Qm x.args),.int .i64 x.n]
structure PhiD where
 to:Int
 args:List Int
def PhiD.cells (x:PhiD):List C:=[.int .i64 x.to,.sl false 1 (Qm x.args)]
def Qbgx (l:List InsD):List (List C):=l.map InsD.cells
def Qbju (l:List PhiD):List (List C):=l.map PhiD.cells
structure BlkD where
 phis:List PhiD
 ins:List InsD
 jump:Int
 on:Int
 next:List Int
def BlkD.cells (x:BlkD):List C:=[.sl false 2 (Qbju x.phis),.sl false 4 (Qbgx x.ins),.int .i64 x.jump,.int .i64 x.on,.sl false 1 (Qm x.next)]
def Qbiq (l:List BlkD):List (List C):=l.map BlkD.cells
structure CodeD where
 params:Int
 regs:Int
 blocks:List BlkD
def CodeD.cells (x:CodeD):List C:=[.int .i64 x.params,.int .i64 x.regs,.sl false 5 (Qbiq x.blocks)]
def Qa56 (l:List CodeD):List (List C):=l.map CodeD.cells
theorem Qa2d (l:List InsD):∀r∈Qbgx l,noOw r=true:=by intro r hr;obtain⟨x,_,rfl⟩:=Jam.1 hr;rfl
variable {H:Heap}{S:Nat→Bool}
theorem Gr.frzM {Lg:List (Nat×Obj)}{sz:Nat}{rows rows':List (List C)}{c:C}(h:Gr Lg sz rows c)(hm:∀p∈Lg,H p.1=p.2∧S p.1=true)(hr:FrzR H S rows rows'):FrzC H S c (.sl false sz rows'):=by
 rcases h with ⟨rfl,rfl,rfl⟩|⟨y,rfl,rfl⟩
 ·cases hr;exact FrzR.nil.sl
 ·obtain⟨h1,h2⟩:=hm (y,.vec sz rows) (by simp);exact hr.vsl h2 h1 rfl
def CodeD.fits (c:CodeD):Prop:=∀b∈c.blocks,b.ins.length≤2^38∧b.phis.length≤2^38
end Go.AE.Y
namespace Go.AE.Y
def keysL:List (List UInt8):=[[102,110],[108,101,116],[115,97,121],[112,117,116],[105,102],[101,108,115,101],[108,111,111,112],[98,97,99,107],[100,111]]
def Qcz (b:UInt8):Bool:=decide (97≤b.toNat∧b.toNat≤122)
def Qc8 (s:List UInt8):Bool:=decide (1≤s.length∧s.length≤4)&&s.all Qcz&&!keysL.contains s
def Qdv (op:Int):Int:=if op=1∨op=2∨op=13 then 0 else if op=11∨op=12 then 1 else 2
def Qdi (op:Int):Int:=if op=1∨op=2 then 0 else if op=11∨op=12 then 1 else if op=13 then 3 else 2
def Qac1 (op n:Int)(name:List UInt8)(k:Nat):Bool:=
 decide (1≤op∧op≤13)&&decide (Qdv op≤(k:Int)∧(k:Int)≤Qdi op)&&(decide (op=2∨op=13) == Qc8 name)&&(decide (op=2∨op=13) || decide (name=[]))&&
  decide (0≤n∧n≤255)&&(decide (op=1) || decide (n=0))
mutual
def Ex.form:Ex→Int→Bool
 |.mk op n name kids,d=>decide (1≤d)&&Qac1 op n name kids.length&&Qhc kids (d-1)
def Qhc:List Ex→Int→Bool
 |[],_=>true
 |x::r,d=>x.form d&&Qhc r d
end
theorem Ex.form_eq (x:Ex)(d:Int):x.form d=(decide (1≤d)&&Qac1 x.op x.n x.name x.kids.length&&Qhc x.kids (d-1)):=by
 cases x;simp only[Ex.form,Ex.op,Ex.n,Ex.name,Ex.kids]
theorem Qac2 (l:List Ex)(d:Int):Qhc l d=l.all fun x=>x.form d:=by
 induction l with
 |nil=>simp[Qhc]
 |cons x r ih=>simp[Qhc,ih]
def Ex.valid (x:Ex):Bool:=x.form 6&&decide (x.size≤30)
def argN (op:Int):Nat:=if op=4 then 2 else 1
def Qaap (op:Int)(name:List UInt8)(args:List Ex)(nb ne:Nat):Bool:=
 decide (1≤op∧op≤8)&&decide (args.length=argN op)&&(decide (op=1∨op=2) == Qc8 name)&&(decide (op=1∨op=2) || decide (name=[]))&&args.all Ex.valid&&
  (!decide (op=8) || decide ((args.map Ex.op).getD 0 0=13))&&(decide (op=5) || decide (ne=0))&&(decide (op=5∨op=6) || decide (nb=0))
mutual
def St.form:St→Int→Bool
 |.mk op name args body els,d=>decide (1≤d)&&Qaap op name args body.length els.length&&Qax body (d-1)&&Qax els (d-1)
def Qax:List St→Int→Bool
 |[],_=>true
 |x::r,d=>x.form d&&Qax r d
end
theorem St.form_eq (x:St)(d:Int):x.form d=(decide (1≤d)&&Qaap x.op x.name x.args x.body.length x.els.length&&Qax x.body (d-1)&&Qax x.els (d-1)):=by
 cases x;simp only[St.form,St.op,St.name,St.args,St.body,St.els]
theorem Q36 (l:List St)(d:Int):Qax l d=l.all fun x=>x.form d:=by
 induction l with
 |nil=>simp[Qax]
 |cons x r ih=>simp[Qax,ih]
mutual
def St.cnt:St→Nat
 |.mk _ _ _ body els=>1+Qcm body+Qcm els
def Qcm:List St→Nat
 |[]=>0
 |x::r=>x.cnt+Qcm r
end
theorem St.cnt_eq (x:St):x.cnt=1+Qcm x.body+Qcm x.els:=by cases x;simp only[St.cnt,St.body,St.els]
def Fn.form (f:Fn):Bool:=f.params.all Qc8&&Qc8 f.name&&decide (f.params.length≤3)&&Qax f.body 4
def Qdb:List Fn→Nat
 |[]=>0
 |f::r=>Qcm f.body+Qdb r
theorem Qacz (a b:List Fn):Qdb (a++b)=Qdb a+Qdb b:=by
 induction a with
 |nil=>simp[Qdb]
 |cons x r ih=>simp only[Js,Qdb,ih];omega
theorem Q6b {l:List Fn}{i:Nat}(h:i<l.length):Qdb (l.take (i+1))=Qdb (l.take i)+Qcm (l[i]'h).body:=by
 rw[Jb h,Qacz];simp[Qdb]
def Qlj (l:List Fn):Bool:=decide (1≤l.length∧l.length≤4)&&l.all Fn.form&&decide (Qdb l≤40)
mutual
def Ex.pre:Ex→List Ex
 |.mk op n name kids=>.mk op n name kids::Qac kids
def Qac:List Ex→List Ex
 |[]=>[]
 |x::r=>x.pre++Qac r
end
theorem Ex.pre_eq (x:Ex):x.pre=x::Qac x.kids:=by cases x;simp only[Ex.pre,Ex.kids]
theorem Qa19 (a b:List Ex):Qac (a++b)=Qac a++Qac b:=by
 induction a with
 |nil=>simp[Qac]
 |cons x r ih=>simp only[Js,Qac,ih,Jae]
def Qi1 (l:List Fn)(s:List UInt8):Option Nat:=l.findIdx? fun f=>decide (f.name=s)
abbrev Vars:=List (List (List UInt8×Nat))
def Vars.find (v:Vars)(s:List UInt8):Option Nat:=(v.flatten.find? fun p=>decide (p.1=s)).map Prod.snd
def Qfl (v:Vars)(s:List UInt8):Bool:=(v.headD []).any fun p=>decide (p.1=s)
def Qa8 (v:Vars)(s:List UInt8)(n:Nat):Vars:=((s,n)::v.headD [])::v.tail
def Qcs (a b:Int):Int:=if a=0 then b else a
def Qdx (fns:List Fn)(k:Nat)(v:Vars)(p:Ex):Int:=
 if p.op=2 then (if (v.find p.name).isSome then 0 else 3)
 else if p.op=13 then (match Qi1 (fns.take k) p.name with
  |none=>4
  |some j=>if ((fns[j]?.map fun f=>f.params.length).getD 0)=p.kids.length then 0 else 5)
 else 0
def Qa0 (fns:List Fn)(k:Nat)(v:Vars)(l:List Ex)(c:Int):Int:=l.foldl (fun c p=>Qcs c (Qdx fns k v p)) c
structure Ck where
 v:Vars
 c:Int
 n:Nat
def stC (fns:List Fn)(k:Nat)(op:Int)(name:List UInt8)(args:List Ex)(s:Ck):Ck:=
 let c:=Qa0 fns k s.v (Qac args) s.c
 if op=1 then ⟨Qa8 s.v name s.n,Qcs c (if Qfl s.v name then 2 else 0),s.n+1⟩
 else if op=2 then ⟨s.v,Qcs c (if (s.v.find name).isSome then 0 else 3),s.n⟩
 else ⟨s.v,c,s.n⟩
mutual
def St.ck (fns:List Fn)(k:Nat):St→Ck→Ck
 |.mk op name args body els,s=>
  let s1:=stC fns k op name args s;let s2:=Qam fns k body ⟨[]::s1.v,s1.c,s1.n⟩;let s3:=Qam fns k els ⟨[]::s1.v,s2.c,s2.n⟩
  ⟨s1.v,s3.c,s3.n⟩
def Qam (fns:List Fn)(k:Nat):List St→Ck→Ck
 |[],s=>s
 |x::r,s=>Qam fns k r (x.ck fns k s)
end
theorem St.ck_eq (fns:List Fn)(k:Nat)(x:St)(s:Ck):x.ck fns k s =
  ⟨(stC fns k x.op x.name x.args s).v,(Qam fns k x.els ⟨[]::(stC fns k x.op x.name x.args s).v,(Qam fns k x.body ⟨[]::(stC fns k x.op x.name x.args s).v,(stC fns k x.op x.name x.args s).c,(stC fns k x.op x.name x.args s).n⟩).c,
   (Qam fns k x.body ⟨[]::(stC fns k x.op x.name x.args s).v,(stC fns k x.op x.name x.args s).c,(stC fns k x.op x.name x.args s).n⟩).n⟩).c,
   (Qam fns k x.els ⟨[]::(stC fns k x.op x.name x.args s).v,(Qam fns k x.body ⟨[]::(stC fns k x.op x.name x.args s).v,(stC fns k x.op x.name x.args s).c,(stC fns k x.op x.name x.args s).n⟩).c,
   (Qam fns k x.body ⟨[]::(stC fns k x.op x.name x.args s).v,(stC fns k x.op x.name x.args s).c,(stC fns k x.op x.name x.args s).n⟩).n⟩).n⟩:=by
 cases x;simp only[St.ck,St.op,St.name,St.args,St.body,St.els]
theorem Qbav (fns:List Fn)(k:Nat)(a b:List St)(s:Ck):Qam fns k (a++b) s=Qam fns k b (Qam fns k a s):=by
 induction a generalizing s with
 |nil=>simp[Qam]
 |cons x r ih=>simp only[Js,Qam,ih]
def Qt6 (ps:List (List UInt8))(s:Ck):Ck:=ps.foldl (fun s p=>⟨Qa8 s.v p s.n,Qcs s.c (if Qfl s.v p then 2 else 0),s.n+1⟩) s
def fnCk (fns:List Fn)(k:Nat):Ck:=match fns[k]? with
 |some f=>Qam fns k f.body (Qt6 f.params ⟨[[]],if Qi1 fns f.name=some k then 0 else 2,0⟩)
 |none=>⟨[],0,0⟩
def ckK (fns:List Fn)(k:Nat):Int:=(List.range k).foldl (fun c i=>Qcs c (fnCk fns i).c) 0
def Q62 (fns:List Fn):Int:=if Qlj fns=true then ckK fns fns.length else 1
def Qss (fns:List Fn):Bool:=decide (Q62 fns=0)
theorem Qbeb (fns:List Fn)(k:Nat)(op:Int)(name:List UInt8)(args:List Ex)(s:Ck){b:List (List UInt8×Nat)}{r:Vars}(h:s.v=b::r):∃b',(stC fns k op name args s).v=b'::r:=by
 simp only[stC];split
 ·exact⟨(name,s.n)::b,by simp[Qa8,h]⟩
 ·split
  ·exact⟨b,h⟩
  ·exact⟨b,h⟩
theorem Qanv {l:List St}{i:Nat}(fns:List Fn)(k:Nat)(h:i<l.length)(s:Ck):Qam fns k (l.take (i+1)) s=(l[i]).ck fns k (Qam fns k (l.take i) s):=by
 rw[Jb h,Qbav];simp[Qam]
variable {g:Nat→List Nat}{xs:List Nat}{S S' S1:List Bool}{o o' o1:List Nat}
def cnt (S:List Bool):Nat:=S.count true
end Go.AE.Y
namespace Go.AE.Y
attribute [local instance] Classical.propDecidable
variable {g:Nat→List Nat}{A B:Nat→Prop}{x y z:Nat}
variable {xs:List Nat}{S S' S1:List Bool}{o o' o1:List Nat}
theorem Qa5s:∀{l k:List Nat},l.Pairwise (· < ·)→k.Pairwise (· < ·)→(∀x,x∈l↔x∈k)→l=k
 |[],[],_,_,_=>rfl
 |[],b::k,_,_,h=>by have:=(h b).2 Jr;simp at this
 |a::l,[],_,_,h=>by have:=(h a).1 Jr;simp at this
 |a::l,b::k,h1,h2,h=>by
  rw[Jav]at h1 h2;have hab:a=b:=by
   rcases Jw.1 ((h a).1 Jr)with e|e
   ·exact e
   ·rcases Jw.1 ((h b).2 Jr)with e'|e'
    ·exact e'.symm
    ·have:=h1.1 b e';have:=h2.1 a e;omega
  subst hab;congr 1;refine Qa5s h1.2 h2.2 fun x=>⟨fun hx=>?_,fun hx=>?_⟩
  ·rcases Jw.1 ((h x).1 (Jv _ hx))with e|e
   ·subst e;have:=h1.1 x hx;omega
   ·exact e
  ·rcases Jw.1 ((h x).2 (Jv _ hx))with e|e
   ·subst e;have:=h2.1 x hx;omega
   ·exact e
end Go.AE.Y
namespace Go.AE.Y
attribute [local instance] Classical.propDecidable
structure Flo where
 n:Nat
 nx:Nat→List Nat
 on:Nat→List Nat
 ins:Nat→List (Option Nat×List Nat)
 ph:Nat→List Nat
 ea:Nat→Nat→List Nat
abbrev RS':=Nat→Prop
variable {F:Flo}
def Flo.fits (F:Flo):Prop:=∀b,b<F.n→∀m∈F.nx b,m<F.n
variable {I J:Nat→RS'}
noncomputable def ascL (R:Nat)(S:RS'):List Nat:=(List.range R).filter fun r=>decide (S r)
theorem ascL_mem {R:Nat}{S:RS'}{r:Nat}:r∈ascL R S↔r<R∧S r:=by simp[ascL]
theorem Qazv {R:Nat}{S:RS'}:(ascL R S).Pairwise (· < ·):=Ja8 _ List.pairwise_lt_range
theorem Qbfw {R:Nat}{S:RS'}:(ascL R S).length≤R:=by
 have:=List.length_filter_le (fun r=>decide (S r)) (List.range R);simpa[ascL]using this
theorem Qaow {a:List Nat}(ha:a.Nodup):∀{b:List Nat},(∀x∈a,x∈b)→a.length≤b.length:=by
 induction a with
 |nil=>intro b _;simp
 |cons x a ih=>
  intro b h;have hx:=h x Jr;have hn:=Jat.1 ha;have:=ih hn.2 (b:=b.erase x) fun y hy=>(List.mem_erase_of_ne (fun he=>by subst he;exact hn.1 hy)).2 (h y (Jv _ hy));rw[List.length_erase_of_mem hx]at this;have hp:=List.length_pos_of_mem hx;simp only[Jn];omega
theorem Qarz {a:List Nat}{R:Nat}(ha:a.Nodup)(h:∀x∈a,x<R):a.length≤R:=by
 have:=Qaow ha (b:=List.range R) fun x hx=>List.mem_range.2 (h x hx);simpa using this
def tot (n:Nat)(S:Nat→List Nat):Nat:=((List.range n).map fun b=>(S b).length).sum
end Go.AE.Y
namespace Go.AE.Y
attribute [local instance] Classical.propDecidable
mutual
def St.pre:St→List Ex
 |.mk _ _ args body els=>Qac args++Qat body++Qat els
def Qat:List St→List Ex
 |[]=>[]
 |x::r=>x.pre++Qat r
end
theorem St.pre_eq (x:St):x.pre=Qac x.args++Qat x.body++Qat x.els:=by cases x;simp only[St.pre,St.args,St.body,St.els]
theorem Qa5d (a b:List St):Qat (a++b)=Qat a++Qat b:=by
 induction a with
 |nil=>simp[Qat]
 |cons x r ih=>simp only[Js,Qat,ih,Jae]
theorem fst0_zero {a b:Int}:Qcs a b=0↔a=0∧b=0:=by
 unfold Qcs;split <;> omega
theorem Qa0c (a b c:Int):Qcs (Qcs a b) c=Qcs a (Qcs b c):=by
 unfold Qcs;by_cases h:a=0 <;> simp[h]
theorem Qamw (a:Int):Qcs a 0=a:=by unfold Qcs;split <;> omega
theorem partsC_zero {fns:List Fn}{k:Nat}{v:Vars}{l:List Ex}{c:Int}:Qa0 fns k v l c=0↔c=0∧∀e∈l,Qdx fns k v e=0:=by
 induction l generalizing c with
 |nil=>simp[Qa0]
 |cons x r ih=>
  have:Qa0 fns k v (x::r) c=Qa0 fns k v r (Qcs c (Qdx fns k v x)):=rfl;rw[this,ih,fst0_zero];simp only[Jw,forall_eq_or_imp,and_assoc]
theorem Qar2 {fns gns:List Fn}{k m:Nat}{v:Vars}{l:List Ex}(h:∀e∈l,Qdx fns k v e=Qdx gns m v e)(c:Int):Qa0 fns k v l c=Qa0 gns m v l c:=by
 induction l generalizing c with
 |nil=>rfl
 |cons x r ih=>
  show Qa0 fns k v r (Qcs c (Qdx fns k v x))=Qa0 gns m v r (Qcs c (Qdx gns m v x));rw[h x Jr];exact ih (fun e he=>h e (Jv _ he)) _
def calC (fns:List Fn)(k:Nat)(p:Ex):Int:=match Qi1 (fns.take k) p.name with
 |none=>4
 |some j=>if ((fns[j]?.map fun f=>f.params.length).getD 0)=p.kids.length then 0 else 5
theorem Q60 {fns:List Fn}{k:Nat}{v:Vars}{p:Ex}(h:p.op=13):Qdx fns k v p=calC fns k p:=by
 rw[Qdx,if_neg (by omega),if_pos h];rfl
theorem Qawk {fns gns:List Fn}{k m:Nat}{v:Vars}{p:Ex}(h:¬p.op=13):Qdx fns k v p=Qdx gns m v p:=by
 unfold Qdx;simp only[h,if_false]
theorem Qbec {fns:List Fn}{k:Nat}{op:Int}{name:List UInt8}{args:List Ex}{s:Ck}(h:(stC fns k op name args s).c=0):s.c=0∧∀e∈Qac args,e.op=13→calC fns k e=0:=by
 have h2:Qa0 fns k s.v (Qac args) s.c=0:=by
  unfold stC at h;simp only at h;split at h
  ·exact (fst0_zero.1 h).1
  ·split at h
   ·exact (fst0_zero.1 h).1
   ·exact h
 obtain⟨h3,h4⟩:=partsC_zero.1 h2;exact⟨h3,fun e he ho=>by rw[←Q60 (v:=s.v) ho];exact h4 e he⟩
mutual
theorem St.ck_zero {fns:List Fn}{k:Nat}:∀(x:St) {s:Ck},(x.ck fns k s).c=0→s.c=0∧∀e∈x.pre,e.op=13→calC fns k e=0
 |.mk op name args body els,s,h=>by
  simp only[St.ck]at h;obtain⟨h1,h2⟩:=Qda els h;obtain⟨h3,h4⟩:=Qda body h1;obtain⟨h5,h6⟩:=Qbec h3;refine⟨h5,fun e he ho=>?_⟩;simp only[St.pre,Jf]at he;rcases he with (he|he)|he
  ·exact h6 e he ho
  ·exact h4 e he ho
  ·exact h2 e he ho
theorem Qda {fns:List Fn}{k:Nat}:∀(l:List St) {s:Ck},(Qam fns k l s).c=0→s.c=0∧∀e∈Qat l,e.op=13→calC fns k e=0
 |[],s,h=>⟨h,by simp[Qat]⟩
 |x::r,s,h=>by
  simp only[Qam]at h;obtain⟨h1,h2⟩:=Qda r h;obtain⟨h3,h4⟩:=St.ck_zero x h1;refine⟨h3,fun e he ho=>?_⟩;simp only[Qat,Jf]at he;rcases he with he|he
  ·exact h4 e he ho
  ·exact h2 e he ho
end
theorem Qbaq {fns gns:List Fn}{k m:Nat}{op:Int}{name:List UInt8}{args:List Ex}{s:Ck}(h:∀e∈Qac args,e.op=13→calC fns k e=calC gns m e):stC fns k op name args s=stC gns m op name args s:=by
 have:Qa0 fns k s.v (Qac args) s.c=Qa0 gns m s.v (Qac args) s.c:=Qar2 (fun e he=>by
  by_cases ho:e.op=13
  ·rw[Q60 ho,Q60 ho];exact h e he ho
  ·exact Qawk ho) _
 unfold stC;rw[this]
mutual
theorem St.ck_congr {fns gns:List Fn}{k m:Nat}:∀(x:St) {s:Ck},(∀e∈x.pre,e.op=13→calC fns k e=calC gns m e)→x.ck fns k s=x.ck gns m s
 |.mk op name args body els,s,h=>by
  simp only[St.pre,Jf]at h;simp only[St.ck];rw[Qbaq (fns:=fns) (gns:=gns) (m:=m) fun e he ho=>h e (.inl (.inl he)) ho];rw[Qrq body fun e he ho=>h e (.inl (.inr he)) ho];rw[Qrq els fun e he ho=>h e (.inr he) ho]
theorem Qrq {fns gns:List Fn}{k m:Nat}:∀(l:List St) {s:Ck},(∀e∈Qat l,e.op=13→calC fns k e=calC gns m e)→Qam fns k l s=Qam gns m l s
 |[],s,h=>rfl
 |x::r,s,h=>by
  simp only[Qat,Jf]at h;simp only[Qam];rw[St.ck_congr x fun e he ho=>h e (.inl he) ho];exact Qrq r fun e he ho=>h e (.inr he) ho
end
theorem Qar1 {ps:List (List UInt8)}{s:Ck}(h:(Qt6 ps s).c=0):s.c=0:=by
 induction ps generalizing s with
 |nil=>exact h
 |cons p r ih=>
  have:Qt6 (p::r) s=Qt6 r ⟨Qa8 s.v p s.n,Qcs s.c (if Qfl s.v p then 2 else 0),s.n+1⟩:=rfl;rw[this]at h;exact (fst0_zero.1 (ih h)).1
theorem Qamu {fns:List Fn}:∀(l:List Nat) (c:Int),l.foldl (fun c i=>Qcs c (fnCk fns i).c) c=0↔c=0∧∀i∈l,(fnCk fns i).c=0
 |[],c=>by simp
 |x::r,c=>by
  rw[Ja0,Qamu r,fst0_zero];simp only[Jw,forall_eq_or_imp,and_assoc]
theorem Qazy {fns:List Fn}{k:Nat}:ckK fns k=0↔∀i,i<k→(fnCk fns i).c=0:=by
 rw[ckK,Qamu];simp
structure FineP (fns:List Fn):Prop where
 v:Qlj fns=true
 c:∀k (h:k<fns.length),(Qam fns k fns[k].body (Qt6 fns[k].params ⟨[[]],0,0⟩)).c=0
 ix:∀k (h:k<fns.length),Qi1 fns fns[k].name=some k
theorem fine_iff {fns:List Fn}:Qss fns=true↔FineP fns:=by
 rw[Qss,decide_eq_true_eq,Q62];constructor
 ·intro h;split at h
  ·rename_i hv
   rw[Qazy]at h;have h1:∀k (hk:k<fns.length),(if Qi1 fns fns[k].name=some k then (0:Int)else 2)=0∧(Qam fns k fns[k].body (Qt6 fns[k].params ⟨[[]],if Qi1 fns fns[k].name=some k then 0 else 2,0⟩)).c=0:=fun k hk=>by
    have:=h k hk;rw[fnCk,Jk hk]at this;exact⟨Qar1 (Qda _ this).1,this⟩
   have h2:∀k (hk:k<fns.length),Qi1 fns fns[k].name=some k:=fun k hk=>by
    have:=(h1 k hk).1;split at this
    ·assumption
    ·simp at this
   refine⟨hv,fun k hk=>?_,h2⟩;have:=(h1 k hk).2;rw[if_pos (h2 k hk)]at this;exact this
  ·simp at h
 ·intro h;rw[if_pos h.v,Qazy];intro k hk;rw[fnCk,Jk hk];simp only[];rw[if_pos (h.ix k hk)];exact h.c k hk
theorem FineP.len {fns:List Fn}(h:FineP fns):0<fns.length∧fns.length≤4:=by
 have:=h.v;simp only[Qlj,Jj,decide_eq_true_eq]at this;omega
theorem Qt9 {l:List Fn}{s:List UInt8}{j:Nat}(h:Qi1 l s=some j):∃hj:j<l.length,l[j].name=s∧∀i (hi:i<j),l[i].name≠s:=by
 rw[Qi1,List.findIdx?_eq_some_iff_getElem]at h;obtain⟨hj,h1,h2⟩:=h;exact⟨hj,by simpa using h1,fun i hi=>by simpa using h2 i hi⟩
theorem Qavy {l:List Fn}{s:List UInt8}{j:Nat}(hj:j<l.length)(h1:l[j].name=s)(h2:∀i (hi:i<j),l[i].name≠s):Qi1 l s=some j:=by
 rw[Qi1,List.findIdx?_eq_some_iff_getElem];exact⟨hj,by simpa using h1,fun i hi=>by simpa using h2 i hi⟩
theorem FineP.inj {fns:List Fn}(h:FineP fns){i j:Nat}(hi:i<fns.length)(hj:j<fns.length)(he:fns[i].name=fns[j].name):i=j:=by
 have h1:=h.ix i hi;rw[he,h.ix j hj]at h1;exact (Ja6 h1).symm
theorem FineP.call {fns:List Fn}(h:FineP fns){k:Nat}(hk:k<fns.length){e:Ex}(he:e∈Qat fns[k].body)(ho:e.op=13) :
  ∃j,∃hj:j<k,∃hl:j<fns.length,fns[j].name=e.name∧fns[j].params.length=e.kids.length:=by
 have:=(Qda _ (h.c k hk)).2 e he ho;unfold calC at this
 cases hx:Qi1 (fns.take k) e.name with
 |none=>rw[hx]at this;simp at this
 |some j=>
  rw[hx]at this;obtain⟨hj,h1,_⟩:=Qt9 hx;rw[J3]at hj;have hl:j<fns.length:=by omega
  refine⟨j,by omega,hl,by simpa using h1,?_⟩;simp only[Jk hl,Ja5,Jaq]at this;split at this
  ·assumption
  ·simp at this
def Cls (fns:List Fn)(k j:Nat):Prop:=∃(hk:k<fns.length) (hj:j<fns.length),∃e∈Qat fns[k].body,e.op=13∧e.name=fns[j].name
inductive NdF (fns:List Fn):Nat→Prop
 |top:NdF fns (fns.length-1)
 |to {k j:Nat}:NdF fns k→Cls fns k j→NdF fns j
noncomputable def Q39 (fns:List Fn)(k:Nat):List Nat:=ascL fns.length (Cls fns k)
noncomputable def Qct (fns:List Fn):List Nat:=ascL fns.length (NdF fns)
theorem FineP.cls_lt {fns:List Fn}(h:FineP fns){k j:Nat}(hc:Cls fns k j):j<k:=by
 obtain⟨hk,hj,e,he,ho,hn⟩:=hc;obtain⟨j',h1,h2,h3,_⟩:=h.call hk he ho;have:=h.inj h2 hj (h3.trans hn);omega
theorem FineP.nd_lt {fns:List Fn}(h:FineP fns){k:Nat}(hn:NdF fns k):k<fns.length:=by
 have:=h.len
 cases hn with
 |top=>omega
 |to _ hc=>obtain⟨_,hj,_⟩:=hc;exact hj
theorem FineP.need_mem {fns:List Fn}(h:FineP fns){k:Nat}:k∈Qct fns↔NdF fns k:=by
 rw[Qct,ascL_mem];exact⟨fun x=>x.2,fun x=>⟨h.nd_lt x,x⟩⟩
def fnAt (fns:List Fn)(k:Nat):Fn:=(fns[k]?).getD ⟨[],[],[]⟩
theorem Qfm {fns:List Fn}{k:Nat}(h:k<fns.length):fnAt fns k=fns[k]:=by simp[fnAt,h]
noncomputable def Qbm (fns:List Fn):List Fn:=(Qct fns).map (fnAt fns)
theorem Qcb (fns:List Fn):(Qbm fns).length=(Qct fns).length:=by simp[Qbm]
theorem Qqj (fns:List Fn):(Qct fns).Pairwise (· < ·):=Qazv
theorem Qkm {fns:List Fn}(h:FineP fns){i:Nat}(hi:i<(Qbm fns).length):∃hn:i<(Qct fns).length,∃hk:(Qct fns)[i]<fns.length,(Qbm fns)[i]=fns[(Qct fns)[i]]:=by
 have hn:i<(Qct fns).length:=by rw[←Qcb];exact hi
 have hk:(Qct fns)[i]<fns.length:=h.nd_lt (h.need_mem.1 (Jd hn));refine⟨hn,hk,?_⟩;simp only[Qbm,Jay];exact Qfm hk
theorem Qad4 {fns:List Fn}(h:FineP fns):0<(Qct fns).length∧∀(hn:(Qct fns).length-1<(Qct fns).length),(Qct fns)[(Qct fns).length-1]=fns.length-1:=by
 have hm:fns.length-1∈Qct fns:=h.need_mem.2 .top;obtain⟨i,hi,he⟩:=J1.1 hm;refine⟨by omega,fun hn=>?_⟩;have hl:=h.nd_lt (h.need_mem.1 (Jd hn));by_cases hii:i=(Qct fns).length-1
 ·subst hii;exact he
 ·have:=Jl.1 (Qqj fns) i ((Qct fns).length-1) hi hn (by omega);omega
theorem Qaqp {fns:List Fn}:∀(l:List Nat) (n:Nat),l.Pairwise (· < ·)→(∀x∈l,n≤x∧x<fns.length)→Qdb (l.map (fnAt fns))≤Qdb (fns.drop n)
 |[],n,_,_=>by simp[Qdb]
 |x::r,n,hp,hx=>by
  obtain⟨h1,h2⟩:=hx x Jr;have hp2:=Jav.1 hp;have ih:=Qaqp (fns:=fns) r (x+1) hp2.2 fun y hy=>⟨hp2.1 y hy,(hx y (Jv _ hy)).2⟩;have e1:fns.drop x=fns[x]::fns.drop (x+1):=(List.getElem_cons_drop h2).symm;have e2:Qdb (fns.drop x)≤Qdb (fns.drop n):=by
   have:fns.drop n=(fns.drop n).take (x-n)++fns.drop x:=by
    conv=>lhs;rw[←J0 (x-n) (fns.drop n)]
    rw[List.drop_drop];congr 2;omega
   rw[this,Qacz];omega
  rw[e1]at e2;simp only[J2,Qdb,Qfm h2]at e2⊢;omega
theorem Q6c {fns:List Fn}(h:FineP fns):FineP (Qbm fns):=by
 obtain⟨hl0,hl4⟩:=h.len;have hnl:=(Qad4 h).1;have hle:(Qct fns).length≤fns.length:=Qbfw;have hv:=h.v;simp only[Qlj,Jj,decide_eq_true_eq,J9]at hv;have hix:∀k (hk:k<(Qbm fns).length),Qi1 (Qbm fns) (Qbm fns)[k].name=some k:=by
  intro k hk;refine Qavy hk rfl fun i hi=>?_;obtain⟨a1,a2,a3⟩:=Qkm h (show i<(Qbm fns).length by omega);obtain⟨b1,b2,b3⟩:=Qkm h hk;rw[a3,b3];intro he;have:=h.inj a2 b2 he;have h3:=Jl.1 (Qqj fns) i k a1 b1 hi;omega
 refine⟨?_,fun k hk=>?_,hix⟩
 ·simp only[Qlj,Jj,decide_eq_true_eq,J9];refine⟨⟨by rw[Qcb];omega,fun f hf=>?_⟩,?_⟩
  ·obtain⟨i,hi,rfl⟩:=List.getElem_of_mem hf;obtain⟨_,a2,a3⟩:=Qkm h hi;rw[a3];exact hv.1.2 _ (Jd a2)
  ·have:=Qaqp (fns:=fns) (Qct fns) 0 (Qqj fns) fun x hx=>⟨Nat.zero_le _,h.nd_lt (h.need_mem.1 hx)⟩;rw[Jao]at this;exact Nat.le_trans this hv.2
 ·obtain⟨b1,b2,b3⟩:=Qkm h hk;rw[b3];have hc:=h.c _ b2;rw[Qrq (gns:=fns) (m:=(Qct fns)[k])]
  ·exact hc
  ·intro e he ho;have h0:=(Qda _ hc).2 e he ho;rw[h0];obtain⟨j,hj,hjl,hn,hp⟩:=h.call b2 he ho;have hnd:NdF fns j:=.to (h.need_mem.1 (Jd b1)) ⟨b2,hjl,e,he,ho,hn.symm⟩;obtain⟨i,hi,hie⟩:=J1.1 (h.need_mem.2 hnd);have hik:i<k:=by
    rcases J6 i k with h'|h'
    ·exact h'
    ·exfalso;rcases J6 k i with h''|h''
     ·have:=Jl.1 (Qqj fns) k i b1 hi h'';omega
     ·have:i=k:=(by omega);subst this;omega
   have hid:i<(Qbm fns).length:=by rw[Qcb];exact hi
   obtain⟨_,c2,c3⟩:=Qkm h hid;have hin:(Qbm fns)[i]=fns[j]:=by rw[c3];congr 1
   have:Qi1 ((Qbm fns).take k) e.name=some i:=by
    refine Qavy (by rw[J3];omega) (by rw[Ju,hin,hn]) fun m hm=>?_;rw[Ju];intro he2;have h5:=hix i hid;rw[hin,hn,←he2]at h5;rw[hix m (by omega)]at h5;have:=Ja6 h5;omega
   rw[calC,this];simp only[Jk hid,Ja5,Jaq,hin,hp,if_true]
theorem Qbbi {fns:List Fn}(h:FineP fns){i j:Nat}(hi:i<(Qct fns).length)(hj:j<(Qct fns).length)(hc:Cls fns (Qct fns)[i] (Qct fns)[j]):Cls (Qbm fns) i j:=by
 obtain⟨hk,hl,e,he,ho,hn⟩:=hc;have hi':i<(Qbm fns).length:=by rw[Qcb];exact hi
 have hj':j<(Qbm fns).length:=by rw[Qcb];exact hj
 obtain⟨_,a2,a3⟩:=Qkm h hi';obtain⟨_,b2,b3⟩:=Qkm h hj';exact⟨hi',hj',e,by rw[a3];exact he,ho,by rw[b3];exact hn⟩
theorem Qarx {fns:List Fn}(h:FineP fns):Qct (Qbm fns)=List.range (Qct fns).length:=by
 have h2:=Q6c h;have hnd:∀k,NdF fns k→∀i (hi:i<(Qct fns).length),(Qct fns)[i]=k→NdF (Qbm fns) i:=by
  intro k hk
  induction hk with
  |top=>
   intro i hi he;obtain⟨h0,hl⟩:=Qad4 h;have hl:=hl (by omega);have:i=(Qct fns).length-1:=by
    rcases J6 i ((Qct fns).length-1)with h'|h'
    ·have:=Jl.1 (Qqj fns) i ((Qct fns).length-1) hi (by omega) h';omega
    ·omega
   rw[this,←Qcb];exact .top
  |to hk hc ih=>
   rename_i k j
   intro i hi he;obtain⟨m,hm,hme⟩:=J1.1 (h.need_mem.2 hk);refine .to (ih m hm hme) (Qbbi h hm hi ?_);rw[hme,he];exact hc
 rw[Qct,ascL,Qcb];rw[List.filter_eq_self];intro i hi;have hi:i<(Qct fns).length:=by simpa using hi
 exact decide_eq_true (hnd _ (h.need_mem.1 (Jd hi)) i hi rfl)
theorem Qavr {fns:List Fn}(h:FineP fns):Qbm (Qbm fns)=Qbm fns:=by
 rw[Qbm,Qarx h,←Qcb];refine List.ext_getElem (by simp) fun i h1 h2=>?_;simp only[Jay,List.getElem_range];exact Qfm h2
end Go.AE.Y
namespace Go.AE.Y
theorem Qar3 (fns:List Fn)(k:Nat)(v:Vars)(a:Int):∀(l:List Ex) (c:Int),Qa0 fns k v l (Qcs a c)=Qcs a (Qa0 fns k v l c)
 |[],c=>rfl
 |x::r,c=>by
  show Qa0 fns k v r (Qcs (Qcs a c) (Qdx fns k v x))=Qcs a (Qa0 fns k v r (Qcs c (Qdx fns k v x)));rw[Qa0c,Qar3 fns k v a r]
theorem Qbkh (fns:List Fn)(k:Nat)(op:Int)(name:List UInt8)(args:List Ex)(a:Int)(s:Ck) :
  stC fns k op name args ⟨s.v,Qcs a s.c,s.n⟩=⟨(stC fns k op name args s).v,Qcs a (stC fns k op name args s).c,(stC fns k op name args s).n⟩:=by
 simp only[stC,Qar3];split
 ·simp only[Qa0c]
 ·split
  ·simp only[Qa0c]
  ·rfl
mutual
theorem St.ck_sh (fns:List Fn)(k:Nat)(a:Int):∀(x:St) (s:Ck),x.ck fns k ⟨s.v,Qcs a s.c,s.n⟩=⟨(x.ck fns k s).v,Qcs a (x.ck fns k s).c,(x.ck fns k s).n⟩
 |.mk op name args body els,s=>by
  simp only[St.ck,Qbkh];have h1:=Qacp fns k a body ⟨[]::(stC fns k op name args s).v,(stC fns k op name args s).c,(stC fns k op name args s).n⟩;simp only at h1;rw[h1];have h2:=Qacp fns k a els ⟨[]::(stC fns k op name args s).v,(Qam fns k body ⟨[]::(stC fns k op name args s).v,(stC fns k op name args s).c,(stC fns k op name args s).n⟩).c,(Qam fns k body ⟨[]::(stC fns k op name args s).v,(stC fns k op name args s).c,(stC fns k op name args s).n⟩).n⟩;simp only at h2;rw[h2]
theorem Qacp (fns:List Fn)(k:Nat)(a:Int):∀(l:List St) (s:Ck),Qam fns k l ⟨s.v,Qcs a s.c,s.n⟩=⟨(Qam fns k l s).v,Qcs a (Qam fns k l s).c,(Qam fns k l s).n⟩
 |[],s=>by simp only[Qam]
 |x::r,s=>by
  simp only[Qam];rw[St.ck_sh fns k a x s];exact Qacp fns k a r (x.ck fns k s)
end
theorem Qa79 (a:Int):∀(ps:List (List UInt8)) (s:Ck),Qt6 ps ⟨s.v,Qcs a s.c,s.n⟩=⟨(Qt6 ps s).v,Qcs a (Qt6 ps s).c,(Qt6 ps s).n⟩
 |[],s=>rfl
 |p::r,s=>by
  show Qt6 r ⟨Qa8 s.v p s.n,Qcs (Qcs a s.c) (if Qfl s.v p then 2 else 0),s.n+1⟩=_;rw[Qa0c];exact Qa79 a r ⟨Qa8 s.v p s.n,Qcs s.c (if Qfl s.v p then 2 else 0),s.n+1⟩
theorem Qar0 {ps:List (List UInt8)}{j:Nat}(h:j<ps.length)(s:Ck):Qt6 (ps.take (j+1)) s =
  ⟨Qa8 (Qt6 (ps.take j) s).v ps[j] (Qt6 (ps.take j) s).n,Qcs (Qt6 (ps.take j) s).c (if Qfl (Qt6 (ps.take j) s).v ps[j]then 2 else 0),(Qt6 (ps.take j) s).n+1⟩:=by
 rw[Jb h];simp only[Qt6,List.foldl_append,Ja0,List.foldl_nil];rfl
def ixC (fns:List Fn)(k:Nat)(name:List UInt8):Int:=if Qi1 fns name=some k then 0 else 2
theorem Qbgq {fns:List Fn}{k:Nat}(h:k<fns.length)(a:Int) :
  (Qam fns k fns[k].body (Qt6 fns[k].params ⟨[[]],Qcs a (ixC fns k fns[k].name),0⟩)).c=Qcs a (fnCk fns k).c:=by
 have h1:=Qa79 a fns[k].params ⟨[[]],ixC fns k fns[k].name,0⟩;simp only at h1;rw[h1];have h2:=Qacp fns k a fns[k].body (Qt6 fns[k].params ⟨[[]],ixC fns k fns[k].name,0⟩);rw[h2,fnCk,Jk h];rfl
theorem Qan3 (fns:List Fn)(k:Nat):ckK fns (k+1)=Qcs (ckK fns k) (fnCk fns k).c:=by
 rw[ckK,ckK,List.range_succ,List.foldl_append];rfl
theorem Qbgr {l:List Fn}{i:Nat}(h:i<l.length):∃j,Qi1 l l[i].name=some j∧j≤i:=by
 cases hx:Qi1 l l[i].name with
 |none=>
  rw[Qi1,List.findIdx?_eq_none_iff]at hx;have:=hx l[i] (Jd h);simp at this
 |some j=>
  refine⟨j,rfl,?_⟩;obtain⟨hj,h1,h2⟩:=Qt9 hx;rcases J6 i j with hlt|hge
  ·exact absurd rfl (h2 i hlt)
  ·exact hge
def vT:Vars→List (List UInt8×Nat×Nat)
 |[]=>[]
 |b::r=>b.map (fun p=>(p.1,p.2,r.length))++vT r
def row3 (x:List UInt8×Nat×Nat):List C:=[.str x.1,.int .i64 x.2.1,.int .i64 x.2.2]
def Qbp (v:Vars):List (List C):=((vT v).map row3).reverse
theorem Qyd (v:Vars):(Qbp v).length=(vT v).length:=by simp[Qbp]
theorem Qpz (v:Vars):Qbp ([]::v)=Qbp v:=by simp[Qbp,vT]
theorem Qajh (s:List UInt8)(n:Nat)(b:List (List UInt8×Nat))(r:Vars):Qbp (((s,n)::b)::r)=Qbp (b::r)++[row3 (s,n,r.length)]:=by simp[Qbp,vT]
theorem Qa5g (b:List (List UInt8×Nat))(r:Vars):(Qbp (b::r)).take (Qbp r).length=Qbp r:=by
 simp[Qbp,vT]
theorem Qbet (b:List (List UInt8×Nat))(r:Vars):(Qbp r).length≤(Qbp (b::r)).length:=by simp[Qbp,vT]
theorem Qany (v:Vars){i:Nat}(h:i<(vT v).length):(Qbp v).getD i []=row3 ((vT v)[(vT v).length-1-i]'(by omega)):=by
 have hi:i<(Qbp v).length:=by rw[Qyd];exact h
 rw[Jc,Jk hi,Jaq];simp[Qbp]
theorem Qbkr:∀(v:Vars),∀x∈vT v,x.2.2<v.length
 |[],x,h=>by simp[vT]at h
 |b::r,x,h=>by
  simp only[vT,Jf,Jam]at h;rcases h with ⟨p,_,rfl⟩|h
  ·simp
  ·have:=Qbkr r x h;simp only[Jn];omega
theorem Qbif (v:Vars)(s:List UInt8):v.find s=((vT v).find? fun x=>decide (x.1=s)).map fun x=>x.2.1:=by
 induction v with
 |nil=>rfl
 |cons b r ih=>
  have h1:Vars.find (b::r) s=((b.find? fun p=>decide (p.1=s)).map Prod.snd).or (Vars.find r s):=by
   rw[Vars.find,Vars.find,List.flatten_cons,List.find?_append];cases b.find? fun p=>decide (p.1=s) <;> rfl
  rw[h1,ih,vT,List.find?_append,List.find?_map];have h2:((fun x:List UInt8×Nat×Nat=>decide (x.1=s)) ∘ fun p:List UInt8×Nat=>(p.1,p.2,r.length))=fun p=>decide (p.1=s):=rfl;rw[h2];cases b.find? fun p=>decide (p.1=s) <;> rfl
theorem Qbks (b:List (List UInt8×Nat))(r:Vars)(s:List UInt8):Qfl (b::r) s=(((vT (b::r)).find? fun x=>decide (x.1=s)).map fun x=>decide (x.2.2=r.length)).getD false:=by
 rw[vT,List.find?_append,List.find?_map];have h2:((fun x:List UInt8×Nat×Nat=>decide (x.1=s)) ∘ fun p:List UInt8×Nat=>(p.1,p.2,r.length))=fun p=>decide (p.1=s):=rfl;rw[h2,Qfl,Ja1]
 cases hb:b.find? fun p=>decide (p.1=s)with
 |some p=>
  have h1:=List.find?_some hb;have h3:=List.mem_of_find?_eq_some hb;have:(b.any fun p=>decide (p.1=s))=true:=Jaa.2 ⟨p,h3,h1⟩;rw[this];simp
 |none=>
  have:(b.any fun p=>decide (p.1=s))=false:=by
   rw[List.find?_eq_none]at hb;rw[List.any_eq_false];exact hb
  rw[this]
  cases hr:(vT r).find? fun x=>decide (x.1=s)with
  |none=>rfl
  |some x=>
   have:=Qbkr r x (List.mem_of_find?_eq_some hr);have hne:¬x.2.2=r.length:=by omega
   simp[hne]
theorem Qbgo {α:Type}{l:List α}{p:α→Bool}{k:Nat}(hk:k<l.length)(h:p l[k]=true)(hn:∀x∈l.take k,¬p x=true):l.find? p=some l[k]:=by
 rw[List.find?_eq_some_iff_getElem];refine⟨h,k,hk,rfl,fun j hj=>?_⟩;have:=hn l[j] (by rw[List.mem_take_iff_getElem];exact⟨j,by omega,rfl⟩);simpa using this
theorem Qa6k (l:List Fn)(k:Nat)(s:List UInt8):Qi1 (l.take k) s=match Qi1 l s with
  |some j=>if j<k then some j else none
  |none=>none:=by
 cases h:Qi1 l s with
 |none=>
  rw[Qi1,List.findIdx?_eq_none_iff]at h⊢;exact fun f hf=>h f (List.mem_of_mem_take hf)
 |some j=>
  obtain⟨hj,h1,h2⟩:=Qt9 h;by_cases hk:j<k
  ·simp only[hk,if_true];exact Qavy (by rw[J3];omega) (by rw[Ju];exact h1) fun i hi=>by rw[Ju];exact h2 i hi
  ·simp only[hk,if_false];rw[Qi1,List.findIdx?_eq_none_iff];intro f hf;obtain⟨i,hi,rfl⟩:=List.mem_take_iff_getElem.1 hf;have:=h2 i (by omega);simpa using this
theorem Qa00 (fns:List Fn)(k:Nat)(v:Vars)(p:Ex):Qdx fns k v p =
  if p.op=2 then (if (v.find p.name).isSome then 0 else 3)
  else if p.op=13 then (match Qi1 fns p.name with
   |none=>4
   |some j=>if k≤j then 4 else if ((fns[j]?.map fun f=>f.params.length).getD 0)=p.kids.length then 0 else 5)
  else 0:=by
 rw[Qdx];split
 ·rfl
 ·split
  ·rw[Qa6k]
   cases h:Qi1 fns p.name with
   |none=>rfl
   |some j=>
    simp only[];by_cases hk:j<k
    ·have:¬k≤j:=(by omega);simp only[hk,if_true,this,if_false]
    ·have:k≤j:=(by omega);simp only[hk,if_false,this,if_true]
  ·rfl
theorem Qbke (fns:List Fn)(k:Nat)(op:Int)(name:List UInt8)(args:List Ex)(s:Ck):s.n≤(stC fns k op name args s).n∧(stC fns k op name args s).n≤s.n+1:=by
 simp only[stC];split
 ·exact⟨by simp,by simp⟩
 ·split <;> exact⟨by simp,by simp⟩
mutual
theorem St.ck_n (fns:List Fn)(k:Nat):∀(x:St) (s:Ck),s.n≤(x.ck fns k s).n∧(x.ck fns k s).n≤s.n+x.size
 |.mk op name args body els,s=>by
  simp only[St.ck,St.size];have h1:=Qbke fns k op name args s;have h2:=Q35 fns k body ⟨[]::(stC fns k op name args s).v,(stC fns k op name args s).c,(stC fns k op name args s).n⟩;have h3:=Q35 fns k els ⟨[]::(stC fns k op name args s).v,(Qam fns k body ⟨[]::(stC fns k op name args s).v,(stC fns k op name args s).c,(stC fns k op name args s).n⟩).c,(Qam fns k body ⟨[]::(stC fns k op name args s).v,(stC fns k op name args s).c,(stC fns k op name args s).n⟩).n⟩;simp only at h2 h3;omega
theorem Q35 (fns:List Fn)(k:Nat):∀(l:List St) (s:Ck),s.n≤(Qam fns k l s).n∧(Qam fns k l s).n≤s.n+Qi l
 |[],s=>by simp[Qam]
 |x::r,s=>by
  simp only[Qam,Qi];have h1:=St.ck_n fns k x s;have h2:=Q35 fns k r (x.ck fns k s);omega
end
theorem Qbea (fns:List Fn)(k:Nat)(op:Int)(name:List UInt8)(args:List Ex)(s:Ck){b:List (List UInt8×Nat)}{r:Vars}(hv:s.v=b::r)(h:(Qbp (b::r)).length≤s.n):(Qbp (stC fns k op name args s).v).length≤(stC fns k op name args s).n:=by
 simp only[stC];split
 ·simp only[Qa8,hv,Ja1,List.tail_cons,Qajh,J5,List.length_singleton];omega
 ·split
  ·simp only[hv];exact h
  ·simp only[hv];exact h
theorem Qbbh (fns:List Fn){i:Nat}{c:Int}(h:ckK fns i=c)(hc:c≠0):∀n,i≤n→ckK fns n=c:=by
 intro n hn
 induction n with
 |zero=>have:i=0:=by omega
        subst this;exact h
 |succ n ih=>
  rcases J6 i (n+1)with hlt|hge
  ·rw[Qan3,ih (by omega),Qcs,if_neg hc]
  ·have:i=n+1:=by omega
   subst this;exact h
structure Cmp (ns R:List Int)(k j:Nat):Prop where
 len:R.length=ns.length
 kj:k<j
 jn:j≤ns.length
 asc:(R.take k).Pairwise (· < ·)
 mem:∀x,x∈R.take k↔x∈ns.take j
 same:∀i,j≤i+1→R.getD i 0=ns.getD i 0
variable {ns R:List Int}{k j:Nat}
theorem take_mem {l:List Int}{j:Nat}{x:Int}:x∈l.take j↔∃i,i<j∧i<l.length∧l.getD i 0=x:=by
 constructor
 ·intro h;obtain⟨i,hi,rfl⟩:=J1.1 h;rw[J3]at hi;refine⟨i,by omega,by omega,?_⟩;rw[Ju,Jc,Jk (by omega)];rfl
 ·rintro⟨i,h1,h2,rfl⟩;rw[Jc,Jk h2];exact J1.2 ⟨i,by rw[J3];omega,by rw[Ju];rfl⟩
theorem Qht {ns:List Int}(h:ns.Pairwise (·≤·)){a b:Nat}(hab:a≤b)(hb:b<ns.length):ns.getD a 0≤ns.getD b 0:=by
 rcases J6 a b with h1|h1
 ·have:=Jl.1 h a b (by omega) hb h1;simpa[Jc,hb,show a<ns.length by omega]using this
 ·have:a=b:=by omega
  subst this;exact Jaz _
theorem Cmp.start (hs:ns.Pairwise (·≤·))(hk0:0<k)(hk:k<ns.length)(hne:∀i,0<i→i<k→ns.getD i 0≠ns.getD (i-1) 0)(he:ns.getD k 0=ns.getD (k-1) 0):Cmp ns ns k (k+1):=by
 refine⟨rfl,by omega,by omega,?_,fun x=>?_,fun i _=>rfl⟩
 ·rw[Jl];intro a b ha hb hab;rw[J3]at ha hb;rw[Ju,Ju];have h1:=Qht hs (a:=a) (b:=b-1) (by omega) (by omega);have h2:=Qht hs (a:=b-1) (b:=b) (by omega) (by omega);have h3:=hne b (by omega) (by omega);have e1:ns.getD a 0=ns[a]:=by simp[Jc,show a<ns.length by omega]
  have e2:ns.getD b 0=ns[b]:=by simp[Jc,show b<ns.length by omega]
  rw[e1]at h1;rw[e2]at h2 h3;omega
 ·rw[take_mem,take_mem];constructor
  ·rintro⟨i,h1,h2,h3⟩;exact⟨i,by omega,h2,h3⟩
  ·rintro⟨i,h1,h2,h3⟩;by_cases h:i<k
   ·exact⟨i,h,h2,h3⟩
   ·have:i=k:=(by omega);subst this;exact⟨i-1,by omega,by omega,by rw[←he];exact h3⟩
theorem Cmp.eq (c:Cmp ns R k j)(hj:j<ns.length)(he:ns.getD j 0=ns.getD (j-1) 0):Cmp ns R k (j+1):=by
 have:=c.kj;refine⟨c.len,by omega,by omega,c.asc,fun x=>?_,fun i hi=>c.same i (by omega)⟩;rw[c.mem,take_mem,take_mem];constructor
 ·rintro⟨i,h1,h2,h3⟩;exact⟨i,by omega,h2,h3⟩
 ·rintro⟨i,h1,h2,h3⟩;by_cases h:i<j
  ·exact⟨i,h,h2,h3⟩
  ·have:i=j:=by omega
   subst this;exact⟨i-1,by omega,by omega,by rw[←he];exact h3⟩
theorem Cmp.ne (c:Cmp ns R k j)(hs:ns.Pairwise (·≤·))(hj:j<ns.length)(he:ns.getD j 0≠ns.getD (j-1) 0):Cmp ns (R.set k (ns.getD j 0)) (k+1) (j+1):=by
 have hkj:=c.kj;have hkl:k<R.length:=by rw[c.len];omega
 have htk:(R.set k (ns.getD j 0)).take (k+1)=R.take k++[ns.getD j 0]:=by
  rw[Jb (by rw[Ja2];exact hkl),List.getElem_set_self];congr 1;rw[List.take_set_of_le (Jm _)]
 refine⟨by rw[Ja2];exact c.len,by omega,by omega,?_,fun x=>?_,fun i hi=>?_⟩
 ·rw[htk,List.pairwise_append];refine⟨c.asc,by simp,fun a ha b hb=>?_⟩;simp at hb;subst hb;obtain⟨i,h1,h2,rfl⟩:=take_mem.1 ((c.mem a).1 ha);have h3:=Qht hs (a:=i) (b:=j-1) (by omega) (by omega);have h4:=Qht hs (a:=j-1) (b:=j) (by omega) hj;simp only[Jc]at *;omega
 ·rw[htk,Jf,c.mem,take_mem,take_mem];simp only[Ja];constructor
  ·rintro (⟨i,h1,h2,h3⟩|rfl)
   ·exact⟨i,by omega,h2,h3⟩
   ·exact⟨j,by omega,hj,rfl⟩
  ·rintro⟨i,h1,h2,h3⟩;by_cases h:i<j
   ·exact .inl ⟨i,h,h2,h3⟩
   ·have:i=j:=(by omega);subst this;exact .inr h3.symm
 ·have:k≠i:=by omega
  rw[←c.same i (by omega)];simp[Jc,this]
theorem Qaql (hs:ns.Pairwise (·≤·))(hne:∀i,0<i→i<ns.length→ns.getD i 0≠ns.getD (i-1) 0):ns.Pairwise (· < ·):=by
 rw[Jl];intro a b ha hb hab;have h1:=Qht hs (a:=a) (b:=b-1) (by omega) (by omega);have h2:=Qht hs (a:=b-1) (b:=b) (by omega) (by omega);have h3:=hne b (by omega) (by omega);have e1:ns.getD a 0=ns[a]:=by simp[Jc,ha]
 have e2:ns.getD b 0=ns[b]:=by simp[Jc,hb]
 rw[e1]at h1;rw[e2]at h2 h3;omega
def srt (ns:List Int):List Int:=ns.mergeSort fun x y=>decide (x≤y)
theorem Qbao (ns:List Int):(srt ns).length=ns.length:=List.length_mergeSort _
theorem Qajc (ns:List Int)(x:Int):x∈srt ns↔x∈ns:=(List.mergeSort_perm ns _).mem_iff
theorem Qanu (ns:List Int):(srt ns).Pairwise (·≤·):=by
 have:=List.pairwise_mergeSort (le:=fun x y:Int=>decide (x≤y)) (by simp only[decide_eq_true_eq];omega) (by simp only[Jai,decide_eq_true_eq];omega) ns;exact this.imp (by simp)
theorem Qbap {ns:List Int}(h:ns.Nodup):(srt ns).Pairwise (· < ·):=by
 have h1:=Qanu ns;have h2:(srt ns).Nodup:=(List.mergeSort_perm ns _).nodup_iff.2 h;exact h1.imp₂ (fun a b hab hne=>by omega) h2
end Go.AE.Y
namespace Go.AE.Y
attribute [local instance] Classical.propDecidable
mutual
theorem Ex.pre_len:∀(x:Ex),x.pre.length=x.size
 |.mk op n name kids=>by simp only[Ex.pre,Ex.size,Jn,Qk1 kids];omega
theorem Qk1:∀(l:List Ex),(Qac l).length=Qu l
 |[]=>rfl
 |x::r=>by simp only[Qac,Qu,J5,Ex.pre_len x,Qk1 r]
end
mutual
theorem St.pre_len:∀(x:St),x.pre.length≤x.size
 |.mk op name args body els=>by
  have h1:=Qla body;have h2:=Qla els;simp only[St.pre,St.size,J5,Qk1];omega
theorem Qla:∀(l:List St),(Qat l).length≤Qi l
 |[]=>by simp[Qat,Qi]
 |x::r=>by
  have h1:=St.pre_len x;have h2:=Qla r;simp only[Qat,Qi,J5];omega
end
theorem Qazp {l:List St}{i:Nat}(h:i<l.length):Qat (l.take (i+1))=Qat (l.take i)++(l[i]).pre:=by
 rw[Jb h,Qa5d];simp[Qat]
def ixI:Option Nat→Int
 |none=>-1
 |some j=>j
def clI (fns:List Fn)(e:Ex):List Int:=if e.op=13 then [ixI (Qi1 fns e.name)]else []
def clL (fns:List Fn)(l:List Ex):List Int:=l.flatMap (clI fns)
theorem Qacy (fns:List Fn)(a b:List Ex):clL fns (a++b)=clL fns a++clL fns b:=by simp[clL]
theorem Q6a (fns:List Fn)(l:List Ex):(clL fns l).length≤l.length:=by
 induction l with
 |nil=>simp[clL]
 |cons x r ih=>
  have:(clI fns x).length≤1:=by rw[clI];split <;> simp
  simp only[clL,List.flatMap_cons,J5,Jn]at ih⊢;omega
theorem Qa51 {fns:List Fn}(h:FineP fns){k:Nat}(hk:k<fns.length){ns:List Int}(hs:ns.Pairwise (· < ·))(hm:∀x,x∈ns↔x∈clL fns (Qat fns[k].body)):ns=(Q39 fns k).map Int.ofNat:=by
 have hmem:∀x:Int,x∈ns↔∃j:Nat,x=j∧Cls fns k j:=by
  intro x;rw[hm,clL,List.mem_flatMap];constructor
  ·rintro⟨e,he,hx⟩;rw[clI]at hx;split at hx
   ·rename_i ho
    obtain⟨j,hj,hl,hn,_⟩:=h.call hk he ho;have hi:=h.ix j hl;rw[hn]at hi;rw[hi,Ja]at hx;exact⟨j,hx,hk,hl,e,he,ho,hn.symm⟩
   ·simp at hx
  ·rintro⟨j,rfl,hk',hl,e,he,ho,hn⟩;refine⟨e,he,?_⟩;rw[clI,if_pos ho,hn,h.ix j hl];simp[ixI]
 have hpos:∀x∈ns,0≤x:=fun x hx=>by
  obtain⟨j,rfl,_⟩:=(hmem x).1 hx;omega
 have e1:ns=(ns.map Int.toNat).map Int.ofNat:=by
  rw[List.map_map]
  conv=>lhs;rw[←List.map_id ns]
  refine List.map_congr_left fun x hx=>?_;exact (Int.toNat_of_nonneg (hpos x hx)).symm
 rw[e1];congr 1;refine Qa5s ?_ Qazv fun x=>?_
 ·rw[List.pairwise_map];exact hs.imp_of_mem fun {a b} ha hb hab=>by
   have:=hpos a ha;omega
 ·rw[Q39,ascL_mem,Jam];constructor
  ·rintro⟨y,hy,rfl⟩;obtain⟨j,rfl,hc⟩:=(hmem y).1 hy;obtain⟨_,hj,_⟩:=id hc;exact⟨by simpa using hj,by simpa using hc⟩
  ·rintro⟨_,hc⟩;exact⟨(x:Int),(hmem _).2 ⟨x,rfl,hc⟩,by simp⟩
end Go.AE.Y
namespace Go.AE.Y
structure Lw where
 regs:Int
 bs:List BlkD
 at_:Nat
def blk0:BlkD:=⟨[],[],0,0,[]⟩
def Lw.put (s:Lw)(op to n:Int)(args:List Int):Lw:={ s with bs:=s.bs.modify s.at_ fun b=>{ b with ins:=b.ins++[⟨op,to,args,n⟩] } }
def Lw.fresh (s:Lw):Lw:={ s with regs:=s.regs+1 }
def Lw.add (s:Lw)(n:Nat):Lw:={ s with bs:=s.bs++List.replicate n blk0 }
def Lw.jump (s:Lw)(kind on:Int)(next:List Int)(at':Nat):Lw:={ s with bs:=s.bs.modify s.at_ fun b=>{ b with jump:=kind,on:=on,next:=next },at_:=at' }
def Qbhp (v:Vars)(dflt:Int)(s:List UInt8):Int:=match v.find s with
 |some n=>(n:Int)
 |none=>dflt
structure Lv where
 s:Lw
 v:Vars
 next:Nat
mutual
def St.lets:St→Nat
 |.mk op _ _ body els=>(if op=1 then 1 else 0)+Q37 body+Q37 els
def Q37:List St→Nat
 |[]=>0
 |x::r=>x.lets+Q37 r
end
def parV (ps:List (List UInt8)):Vars×Nat:=ps.foldl (fun s p=>(Qa8 s.1 p s.2,s.2+1)) ([[]],0)
def Qacf (n:Nat):List UInt8:=[118,UInt8.ofNat (97+n)]
theorem Qavh {a b:Nat}(ha:a<26)(hb:b<26)(h:Qacf a=Qacf b):a=b:=by
 have:∀x y:Fin 26,Qacf x.val=Qacf y.val→x=y:=by decide
 have:=this ⟨a,ha⟩ ⟨b,hb⟩ h;exact congrArg Fin.val this
def renV (v:Vars):Vars:=v.map fun b=>b.map fun p=>(Qacf p.2,p.2)
def VOk (v:Vars)(n:Nat):Prop:=(v.flatten.map Prod.snd).Nodup∧∀p∈v.flatten,p.2<n
theorem Qasb (v:Vars):(renV v).flatten=v.flatten.map fun p=>(Qacf p.2,p.2):=by
 induction v with
 |nil=>rfl
 |cons b r ih=>simp only[renV,J2,List.flatten_cons,Jy]at ih⊢;rw[ih]
theorem Qbby {l:List (List UInt8×Nat)}{n:Nat}(hn:n≤26)(h1:(l.map Prod.snd).Nodup)(h2:∀p∈l,p.2<n){s:List UInt8}{m:Nat}(hf:(l.find? fun p=>decide (p.1=s)).map Prod.snd=some m) :
  ((l.map fun p=>(Qacf p.2,p.2)).find? fun p=>decide (p.1=Qacf m)).map Prod.snd=some m:=by
 obtain⟨p,hp,rfl⟩:=Option.map_eq_some_iff.1 hf;have hpm:=List.mem_of_find?_eq_some hp;clear hf hp
 induction l with
 |nil=>simp at hpm
 |cons a r ih=>
  have ha:=h2 a Jr;have hp2:=h2 p hpm;rw[J2,List.find?_cons];by_cases he:Qacf a.2=Qacf p.2
  ·have:=Qavh (by omega) (by omega) he;simp[this]
  ·simp only[he,decide_false];have:p≠a:=fun e=>he (by rw[e]);exact ih (Jat.1 h1).2 (fun q hq=>h2 q (Jv _ hq)) (by simpa[this]using hpm)
theorem VOk.find {v:Vars}{n:Nat}(h:VOk v n)(hn:n≤26){s:List UInt8}{m:Nat}(hf:v.find s=some m):(renV v).find (Qacf m)=some m:=by
 rw[Vars.find,Qasb];exact Qbby hn h.1 h.2 hf
theorem VOk.put {v:Vars}{n:Nat}(h:VOk v n)(s:List UInt8):VOk (Qa8 v s n) (n+1):=by
 have e:(Qa8 v s n).flatten=(s,n)::v.flatten:=by
  cases v with
  |nil=>rfl
  |cons b r=>simp[Qa8]
 refine⟨?_,fun p hp=>?_⟩
 ·rw[e,J2,Jat];refine⟨fun hm=>?_,h.1⟩;obtain⟨p,hp,he⟩:=Jam.1 hm;have:=h.2 p hp;omega
 ·rw[e]at hp;rcases Jw.1 hp with rfl|hp
  ·show n<n+1;omega
  ·have:=h.2 p hp;omega
theorem VOk.push {v:Vars}{n:Nat}(h:VOk v n):VOk ([]::v) n:=by
 have e:(([]:List (List UInt8×Nat))::v).flatten=v.flatten:=by simp
 exact⟨by rw[e];exact h.1,by rw[e];exact h.2⟩
theorem VOk.mono {v:Vars}{n m:Nat}(h:VOk v n)(hm:n≤m):VOk v m:=⟨h.1,fun p hp=>by have:=h.2 p hp;omega⟩
theorem VOk.top {v:Vars}{n:Nat}(h:VOk v n)(hn:n<26):Qfl (renV v) (Qacf n)=false:=by
 rw[Qfl,List.any_eq_false];intro p hp;have hm:p∈(renV v).flatten:=by
  cases hv:renV v with
  |nil=>rw[hv]at hp;simp at hp
  |cons b r=>rw[hv]at hp;simp at hp;simp[hp]
 rw[Qasb]at hm;obtain⟨q,hq,rfl⟩:=Jam.1 hm;have h2:=h.2 q hq;simp only[decide_eq_true_eq];intro he;have:=Qavh (by omega) hn he;omega
def AllV (v:Vars)(l:List Ex):Prop:=∀e∈l,e.op=2→(v.find e.name).isSome=true
theorem AllV.app {v:Vars}{a b:List Ex}(h:AllV v (a++b)):AllV v a∧AllV v b:=⟨fun e he=>h e (Jh _ he),fun e he=>h e (Jg _ he)⟩
theorem Qbkf (fns:List Fn)(k:Nat)(op:Int)(name:List UInt8)(args:List Ex)(s:Ck):(stC fns k op name args s).n=s.n+if op=1 then 1 else 0:=by
 unfold stC;split
 ·rename_i h;simp[h]
 ·rename_i h
  split <;> simp[h]
mutual
theorem St.ck_nr (fns:List Fn)(k:Nat):∀(x:St) (s:Ck),(x.ck fns k s).n=s.n+x.lets
 |.mk op name args body els,s=>by
  simp only[St.ck,St.lets];rw[Qaco fns k els,Qaco fns k body,Qbkf];omega
theorem Qaco (fns:List Fn)(k:Nat):∀(l:List St) (s:Ck),(Qam fns k l s).n=s.n+Q37 l
 |[],s=>by simp[Qam,Q37]
 |x::r,s=>by
  simp only[Qam,Q37];rw[Qaco fns k r,St.ck_nr fns k x];omega
end
theorem Qa2c {op:Int}{name:List UInt8}{args:List Ex}{body els:List St}{dp:Int}(h:(St.mk op name args body els).form dp=true) :
  Qax body (dp-1)=true∧Qax els (dp-1)=true∧(op≠5→els=[])∧(op≠5→op≠6→body=[])∧args.length=argN op∧(∀a∈args,a.valid=true)∧(1≤op∧op≤8):=by
 simp only[St.form,Jj,Qaap,decide_eq_true_eq,Jai,J9]at h;obtain⟨⟨⟨_,⟨⟨⟨⟨⟨⟨h1,h2⟩,_⟩,_⟩,h3⟩,_⟩,h4⟩,h5⟩,h6⟩,h7⟩:=h;refine⟨h6,h7,fun h=>Jap.1 (by omega),fun h h'=>Jap.1 (by omega),h2,h3,h1⟩
theorem Qbkg {fns:List Fn}{k:Nat}{op:Int}{name:List UInt8}{args:List Ex}{v:Vars}{n:Nat}(h:(stC fns k op name args ⟨v,0,n⟩).c=0) :
  AllV v (Qac args)∧(op=2→(v.find name).isSome=true)∧stC fns k op name args ⟨v,0,n⟩=⟨if op=1 then Qa8 v name n else v,0,n+if op=1 then 1 else 0⟩:=by
 have h2:Qa0 fns k v (Qac args) 0=0:=by
  unfold stC at h;simp only at h;split at h
  ·exact (fst0_zero.1 h).1
  ·split at h
   ·exact (fst0_zero.1 h).1
   ·exact h
 obtain⟨_,h4⟩:=partsC_zero.1 h2;refine⟨fun e he ho=>?_,fun ho=>?_,?_⟩
 ·have:=h4 e he;rw[Qdx,if_pos ho]at this
  cases hs:(v.find e.name).isSome with
  |true=>rfl
  |false=>rw[hs]at this;simp at this
 ·unfold stC at h;simp only[ho]at h;have:=(fst0_zero.1 h).2
  cases hs:(v.find name).isSome with
  |true=>rfl
  |false=>rw[hs]at this;simp at this
 ·unfold stC at h⊢;simp only at h⊢;by_cases h1:op=1
  ·simp only[h1,if_true]at h⊢;rw[h]
  ·simp only[h1,if_false]at h⊢;by_cases h3:op=2
   ·simp only[h3,if_true]at h⊢;rw[h];rfl
   ·simp only[h3,if_false]at h⊢;rw[h];rfl
theorem VOk.st {v:Vars}{n:Nat}(h:VOk v n)(op:Int)(name:List UInt8):VOk (if op=1 then Qa8 v name n else v) (n+if op=1 then 1 else 0):=by
 by_cases h1:op=1
 ·simp only[h1,if_true];exact h.put name
 ·simp only[h1,if_false];exact h
theorem Qazz {fns:List Fn}{k:Nat}{op:Int}{name:List UInt8}{args:List Ex}{body els:List St}{v:Vars}{n:Nat}(h:((St.mk op name args body els).ck fns k ⟨v,0,n⟩).c=0) :
  AllV v (Qac args)∧(op=2→(v.find name).isSome=true)∧
  (Qam fns k body ⟨[]::(if op=1 then Qa8 v name n else v),0,n+if op=1 then 1 else 0⟩).c=0∧
  (Qam fns k els ⟨[]::(if op=1 then Qa8 v name n else v),0,(n+if op=1 then 1 else 0)+Q37 body⟩).c=0∧
  (St.mk op name args body els).ck fns k ⟨v,0,n⟩=⟨if op=1 then Qa8 v name n else v,0,n+(St.mk op name args body els).lets⟩:=by
 have hn:=St.ck_nr fns k (.mk op name args body els) ⟨v,0,n⟩;have hc:=h;simp only[St.ck]at h;have h1:=(Qda els h).1;simp only at h1;have h2:=(Qda body h1).1;simp only at h2;obtain⟨a1,a2,a3⟩:=Qbkg h2;rw[a3]at h h1;simp only at h h1;have hbn:=Qaco fns k body ⟨[]::(if op=1 then Qa8 v name n else v),0,n+if op=1 then 1 else 0⟩;simp only at hbn;rw[h1,hbn]at h;refine⟨a1,a2,h1,h,?_⟩;have hv:((St.mk op name args body els).ck fns k ⟨v,0,n⟩).v=if op=1 then Qa8 v name n else v:=by
  simp only[St.ck];rw[a3]
 generalize (St.mk op name args body els).ck fns k ⟨v,0,n⟩=R at *;obtain⟨rv,rc,rn⟩:=R;simp only at hv hc hn;rw[hv,hc,hn]
theorem Qbel {fns:List Fn}{k:Nat}{x:St}{r:List St}{v:Vars}{n:Nat}(h:(Qam fns k (x::r) ⟨v,0,n⟩).c=0) :
  (x.ck fns k ⟨v,0,n⟩).c=0∧(Qam fns k r ⟨if x.op=1 then Qa8 v x.name n else v,0,n+x.lets⟩).c=0:=by
 simp only[Qam]at h;have h1:=(Qda r h).1;refine⟨h1,?_⟩
 cases x with
 |mk op name args body els=>
  rw[(Qazz h1).2.2.2.2]at h;exact h
def parW (ps:List (List UInt8))(v:Vars)(n:Nat):Vars×Nat:=ps.foldl (fun s p=>(Qa8 s.1 p s.2,s.2+1)) (v,n)
theorem Qa8a:∀(ps:List (List UInt8)) (v:Vars) (n:Nat),VOk v n→VOk (parW ps v n).1 (parW ps v n).2∧(parW ps v n).2=n+ps.length
 |[],v,n,h=>⟨h,rfl⟩
 |p::r,v,n,h=>by
  obtain⟨h1,h2⟩:=Qa8a r _ _ (h.put p);refine⟨h1,?_⟩;have:parW (p::r) v n=parW r (Qa8 v p n) (n+1):=rfl;rw[this,h2,Jn];omega
theorem Qa78:∀(ps:List (List UInt8)) (v:Vars) (n:Nat),(Qt6 ps ⟨v,0,n⟩).c=0→Qt6 ps ⟨v,0,n⟩=⟨(parW ps v n).1,0,(parW ps v n).2⟩
 |[],v,n,h=>rfl
 |p::r,v,n,h=>by
  have e:Qt6 (p::r) ⟨v,0,n⟩=Qt6 r ⟨Qa8 v p n,Qcs 0 (if Qfl v p then 2 else 0),n+1⟩:=rfl;rw[e]at h⊢;have h0:=Qar1 h;simp only at h0;rw[h0]at h⊢;exact Qa78 r _ _ h
theorem vok0:VOk [[]] 0:=⟨by simp,by simp⟩
theorem FineP.fn {fns:List Fn}(h:FineP fns){k:Nat}(hk:k<fns.length) :
  Qt6 fns[k].params ⟨[[]],0,0⟩=⟨(parV fns[k].params).1,0,fns[k].params.length⟩∧VOk (parV fns[k].params).1 fns[k].params.length∧(Qam fns k fns[k].body ⟨(parV fns[k].params).1,0,fns[k].params.length⟩).c=0∧
   fns[k].params.all Qc8=true∧Qc8 fns[k].name=true∧fns[k].params.length≤3∧Qax fns[k].body 4=true:=by
 have hc:=h.c k hk;have h1:=Qa78 _ _ _ (Qda _ hc).1;obtain⟨h2,h3⟩:=Qa8a fns[k].params [[]] 0 vok0;rw[Jax]at h3;rw[h3]at h1 h2;have hv:=h.v;simp only[Qlj,Jj,decide_eq_true_eq,J9]at hv;have hf:=hv.1.2 _ (Jd hk);simp only[Fn.form,Jj,decide_eq_true_eq]at hf;refine⟨h1,h2,?_,hf.1.1.1,hf.1.1.2,hf.1.2,hf.2⟩;rw[h1]at hc;exact hc
def Lw.ok (s:Lw):Prop:=s.at_<s.bs.length
open Go.Proofs.Tryz
variable {F H:Heap}{w:Nat}{s:LS}{K:V→Heap→Prop}
def intB (l:List (List C)):List Int:=l.map fun r=>match r with
 |[.int _ n]=>n
 |_=>0
def rowI (r:List C):InsD:=match r with
 |[.int _ op,.int _ to,.sl _ _ a,.int _ n]=>⟨op,to,intB a,n⟩
 |_=>⟨0,0,[],0⟩
def Blk.d (b:Blk):BlkD:=⟨[],b.irows.map rowI,b.jump,b.on,b.next⟩
def LS.d (s:LS):Lw:=⟨s.regs,s.blocks.map Blk.d,s.at_⟩
end Go.AE.Y
namespace Go.AE.Y
open Go.Proofs.Tryz
variable {H:Heap}{K:V→Heap→Prop}
theorem Qa2g {b:UInt8}(hK:∀n:Int,decide (n=1)=Qcz b→K (.c (.int .i64 n)) H):Ql prog Qyh [.c (.int .u8 b.toNat)] H K:=by
 refine Qc Qal Qarg ?_;have hs:(bif decide ((97:Int)≤(b.toNat:Int))then decide ((b.toNat:Int)≤122)else false)=Qcz b:=by
  unfold Qcz;by_cases h:97≤b.toNat
  ·have h':(97:Int)≤(b.toNat:Int):=by omega
   simp only[h',decide_true,cond_true,h,true_and,decide_eq_decide];omega
  ·have h':¬(97:Int)≤(b.toNat:Int):=by omega
   simp[h',h]
 have ret:∀(n:Int) (e:Env),decide (n=1)=Qcz b→lk 2 e=.c (.int .i64 n)→Qp Qcu K .ret e H:=by
  intro n e h1 h2;simp only[go_sem,Qp,Q8,Qcu,Ja,forall_eq,RS.op,h2];exact hK n h1
 refine Qa ?_;simp only[go_sem];refine Qf (Qd ?_);refine Qa ?_;simp only[go_sem];refine Qb rfl ?_ ?_
 ·intro hc;rw[hs]at hc;refine Qa ?_;simp only[go_sem];refine Qh ?_;simp only[go_sem];exact ret 1 _ (by rw[hc];rfl) (by simp[lk])
 intro hc;rw[hs]at hc;refine Qa ?_;simp only[go_sem];refine Qb rfl ?_ ?_
 ·intro _;refine Qa ?_;simp only[go_sem];refine Qh ?_;simp only[go_sem];exact ret 2 _ (by rw[hc];rfl) (by simp[lk])
 intro _;refine Qa ?_;simp only[go_sem];refine Qaq3 fun n=>?_;simp only[go_sem,Qvz];refine Qb rfl ?_ ?_
 ·intro _;refine Qa ?_;simp only[go_sem];refine Qh ?_;simp only[go_sem];exact ret 3 _ (by rw[hc];rfl) (by simp[lk])
 intro _;refine Qa ?_;simp only[go_sem];refine Qb rfl ?_ ?_
 ·intro _;refine Qa ?_;simp only[go_sem];refine Qh ?_;simp only[go_sem];exact ret 4 _ (by rw[hc];rfl) (by simp[lk])
 intro _;refine Qe ?_;simp only[go_sem];refine Qa ?_;simp only[go_sem];refine Qh ?_;exact ret 0 _ (by rw[hc];rfl) (by simp[lk])
theorem Qhu {α:Type}{p:α→Bool}{l:List α}{i:Nat}(h:i<l.length):(l.take (i+1)).all p=((l.take i).all p&&p l[i]):=by
 rw[Jb h,List.all_append];simp
theorem Qoa {α:Type}{p:α→Bool}{l:List α}{i:Nat}(h:i<l.length)(hp:p l[i]=false):l.all p=false:=by
 rw[List.all_eq_false];exact⟨l[i],Jd h,by rw[hp];simp⟩
theorem Qbcl {s:List UInt8}(hK:K (.c (.bool (s.all Qcz&&decide (0<s.length)))) H):Ql prog Qach [.c (.str s),.c (.int .i64 1)] H K:=by
 refine Qc Qal Qa7l ?_;have retf:∀(b:Bool) (e:Env),(s.all Qcz&&decide (0<s.length))=b→lk 4 e=.c (.bool b)→Qp Qm4 K .ret e H:=by
  intro b e h1 h3;simp only[go_sem,Qp,Q8,Qm4,Ja,forall_eq,RS.op,h3];rw[←h1];exact hK
 refine Qa ?_;simp only[go_sem];refine Q6 ?_;refine Qa ?_;simp only[go_sem];refine Qf (Qd (Qab (fun n e1 H1=>∃i:Nat,n=s.length-i∧i≤s.length∧H1=H∧(s.take i).all Qcz=true∧e1=[(0,.c (.str s)),(1,.c (.int .i64 1)),(5,.c (.int .i64 i))]) s.length ?_ ?_))
 ·exact⟨0,by omega,by omega,rfl,rfl,rfl⟩
 ·rintro n e1 H1 ⟨i,hn,hi,rfl,hall,rfl⟩;refine Q6 ?_;refine Qa ?_;simp only[go_sem];intro hl;simp only[LIM]at hl;refine Qf (Qb rfl ?_ ?_)
  ·intro hc;have hlt:i<s.length:=by simpa using hc
   have hg:s.getD i 0=s[i]:=by simp[Jc,hlt]
   refine Qe ?_;simp only[go_sem];refine Qf (Qd ?_);refine Qa ?_;simp only[go_sem,hlt,hg];refine Qa2g fun cl hcl=>?_;simp only[go_sem,Q8a];refine Qb rfl ?_ ?_
   ·intro hc2;have hf:Qcz s[i]=false:=by
     rw[←hcl]
     cases hd:decide (cl=1)with
     |false=>rfl
     |true=>rw[hd]at hc2;simp at hc2
    refine Qa ?_;simp only[go_sem];refine Qh ?_;simp only[go_sem,X.next];exact retf false _ (by rw[Qoa hlt hf];rfl) (by simp[lk])
   ·intro hc2;have hf:Qcz s[i]=true:=by
     rw[←hcl]
     cases hd:decide (cl=1)with
     |true=>rfl
     |false=>rw[hd]at hc2;simp at hc2
    refine Qe ?_;simp only[go_sem];refine Qq ?_;simp only[go_sem,X.next];exact⟨Q1 (by omega) (by omega),s.length-(i+1),by omega,i+1,rfl,by omega,by rw[Qhu hlt,hall,hf];rfl,rfl⟩
  ·intro hc;have hge:s.length≤i:=by simpa using hc
   rw[Je hge]at hall;refine Q9 ?_;simp only[go_sem,X.next];refine Qa ?_;simp only[go_sem];intro _;refine Qh ?_;exact retf (decide ((0:Int)<(s.length:Int))) _ (by rw[hall,Ji,decide_eq_decide];omega) (by simp[lk])
theorem Qavl (hK:K (.c (.sl true 1 (Q0 keysL))) H):Ql prog Qh0 [] H K:=by
 refine Qc Qal Q4q ?_;refine Qa ?_;simp only[go_sem];refine Qa ?_;simp only[go_sem];refine Qh ?_;simp only[go_sem,Qp,Q8,Qqv,Ja,forall_eq,RS.op];exact hK
theorem Qba9 {α:Type}{p:α→Bool}{l:List α}{i:Nat}(h:i<l.length):(l.take (i+1)).any p=((l.take i).any p || p l[i]):=by
 rw[Jb h,List.any_append];simp
theorem Qaqq {l:List (List UInt8)}{s:List UInt8}:l.contains s=l.any fun x=>decide (x=s):=by
 rw[Jp,Jag,Jaa];constructor
 ·intro h;exact⟨s,h,by simp⟩
 ·rintro⟨x,hx,h⟩;have:x=s:=by simpa using h
  rw[←this];exact hx
theorem Qbcm {s:List UInt8}(hK:K (.c (.bool (keysL.contains s))) H):Ql prog Qaci [.c (.str s)] H K:=by
 refine Qc Qal Qa7m ?_;rw[Qaqq]at hK;generalize hks:keysL=ss at *;have retf:∀(b:Bool) (e:Env),(ss.any fun x=>decide (x=s))=b→lk 2 e=.c (.bool b)→Qp Qcu K .ret e H:=by
  intro b e h1 h3;simp only[go_sem,Qp,Q8,Qcu,Ja,forall_eq,RS.op,h3];rw[←h1];exact hK
 refine Qa ?_;simp only[go_sem];refine Qa ?_;simp only[go_sem];refine Qavl ?_;rw[hks];simp only[go_sem,Q8b];refine Q6 ?_;refine Qa ?_;simp only[go_sem];refine Qf (Qd (Qab (fun n e1 H1=>∃i:Nat,n=ss.length-i∧i≤ss.length∧H1=H∧((ss.take i).any fun x=>decide (x=s))=false∧e1=[(0,.c (.str s)),(3,.c (.sl true 1 (Q0 ss))),(4,.c (.int .i64 i))]) ss.length ?_ ?_))
 ·exact⟨0,by omega,by omega,rfl,rfl,rfl⟩
 ·rintro n e1 H1 ⟨i,hn,hi,rfl,hall,rfl⟩;refine Q6 ?_;refine Qa ?_;simp only[go_sem,Qo];intro hl;simp only[LIM]at hl;refine Qf (Qb rfl ?_ ?_)
  ·intro hc;have hlt:i<ss.length:=by simpa using hc
   have hg:ss.getD i []=ss[i]:=by simp[Jc,hlt]
   refine Qe ?_;simp only[go_sem];refine Qf (Qd ?_);refine Qa ?_;simp only[go_sem,hlt,Qo,Qbo _ _ hlt,hg];refine Qb rfl ?_ ?_
   ·intro hc2;refine Qa ?_;simp only[go_sem];refine Qh ?_;simp only[go_sem,X.next];exact retf true _ (Jaa.2 ⟨ss[i],Jd hlt,hc2⟩) (by simp[lk])
   ·intro hc2;refine Qe ?_;simp only[go_sem];refine Qq ?_;simp only[go_sem,X.next];exact⟨Q1 (by omega) (by omega),ss.length-(i+1),by omega,i+1,rfl,by omega,by rw[Qba9 hlt,hall,hc2];rfl,rfl⟩
  ·intro hc;have hge:ss.length≤i:=by simpa using hc
   rw[Je hge]at hall;refine Q9 ?_;simp only[go_sem,X.next];refine Qa ?_;simp only[go_sem];refine Qh ?_;exact retf false _ hall (by simp[lk])
theorem Q38 {s:List UInt8}(hK:K (.c (.bool (Qc8 s))) H):Ql prog Qdu [.c (.str s)] H K:=by
 refine Qc Qal Qad0 ?_;refine Qa ?_;simp only[go_sem];refine Qa ?_;simp only[go_sem];refine Qbcl ?_;simp only[go_sem,Qos];intro hl;have hle:decide ((s.length:Int)≤4)=decide (s.length≤4):=by rw[decide_eq_decide];omega
 have e0:Qc8 s=((s.all Qcz&&decide (0<s.length))&&decide (s.length≤4)&&!keysL.contains s):=by
  unfold Qc8;have:decide (1≤s.length∧s.length≤4)=(decide (0<s.length)&&decide (s.length≤4)):=by
   rw[Jp];simp only[decide_eq_true_eq,Jj];omega
  rw[this];cases s.all Qcz <;> cases decide (0<s.length) <;> cases decide (s.length≤4) <;> rfl
 have e1:(bif (s.all Qcz&&decide (0<s.length))then decide ((s.length:Int)≤4)else false)=((s.all Qcz&&decide (0<s.length))&&decide (s.length≤4)):=by
  rw[hle];cases (s.all Qcz&&decide (0<s.length)) <;> rfl
 refine⟨fun hb=>?_,fun hb=>?_⟩
 ·refine Qbcm ?_;simp only[go_sem,Qer];refine Qh ?_;simp only[go_sem,Qp,Q8,Qcu,Ja,forall_eq,RS.op];have:(bif (bif (s.all Qcz&&decide (0<s.length))then decide ((s.length:Int)≤4)else false)then !keysL.contains s else false)=Qc8 s:=by
   rw[e1,e0];cases ((s.all Qcz&&decide (0<s.length))&&decide (s.length≤4)) <;> rfl
  first|(rw[this];exact hK)|(rw[e0,←e1,hb];exact hK)
 ·simp only[go_sem,Qer,hb];refine Qh ?_;simp only[go_sem,Qp,Q8,Qcu,Ja,forall_eq,RS.op];have hf:Qc8 s=false:=by
   rw[e0,←e1];have hb':=hb
   first|(rw[hb'];rfl)|(simp at hb';simp[hb'])
  rw[hf]at hK;exact hK
theorem Qa63 {op:Int}(hK:K (.tup [.c (.int .i64 (Qdv op)),.c (.int .i64 (Qdi op))]) H):Ql prog Q4b [.c (.int .i64 op)] H K:=by
 refine Qc Qal Qa0s ?_;refine Qa ?_;simp only[go_sem];refine Q6 ?_;refine Qa ?_;simp only[go_sem];have ret:∀(a b:Int) (e:Env),Qdv op=a→Qdi op=b→lk 2 e=.c (.int .i64 a)→lk 3 e=.c (.int .i64 b)→Qp Qkv K .ret e H:=by
  intro a b e h1 h2 h3 h4;simp only[go_sem,Qp,Q8,Qkv,J8,RS.op,h3,h4];rw[h1,h2]at hK;exact hK
 refine Qf (Qd ?_);refine Q6 ?_;refine Qa ?_;simp only[go_sem];have r5:∀(b:Bool),b=decide (op=1∨op=2)→Q3 prog Q8d (X.inBlock 0 (X.sq prog Qpn (Qp Qkv K))) [(4,.c (.int .i64 op)),(5,.c (.bool b))] H:=by
  intro b hb;refine Qb rfl ?_ ?_
  ·intro hc;rw[hb,decide_eq_true_eq]at hc;refine Qa ?_;simp only[go_sem];refine Qh ?_;simp only[go_sem];exact ret 0 0 _ (by rw[Qdv,if_pos (by omega)]) (by rw[Qdi,if_pos hc]) (by simp[lk]) (by simp[lk])
  intro hc;rw[hb,decide_eq_false_iff_not]at hc;refine Q6 ?_;refine Qa ?_;simp only[go_sem];have r8:∀(b:Bool),b=decide (op=11∨op=12)→Q3 prog Q8c (X.inBlock 0 (X.sq prog Qpn (Qp Qkv K))) [(4,.c (.int .i64 op)),(8,.c (.bool b))] H:=by
   intro b hb2;refine Qb rfl ?_ ?_
   ·intro hc2;rw[hb2,decide_eq_true_eq]at hc2;refine Qa ?_;simp only[go_sem];refine Qh ?_;simp only[go_sem];exact ret 1 1 _ (by rw[Qdv,if_neg (by omega),if_pos hc2]) (by rw[Qdi,if_neg hc,if_pos hc2]) (by simp[lk]) (by simp[lk])
   intro hc2;rw[hb2,decide_eq_false_iff_not]at hc2;refine Qa ?_;simp only[go_sem];refine Qb rfl ?_ ?_
   ·intro hc3;have hc3:op=13:=(by simpa using hc3);refine Qa ?_;simp only[go_sem];refine Qh ?_;simp only[go_sem];exact ret 0 3 _ (by rw[Qdv,if_pos (by omega)]) (by rw[Qdi,if_neg hc,if_neg hc2,if_pos hc3]) (by simp[lk]) (by simp[lk])
   ·intro hc3;have hc3:¬op=13:=(by simpa using hc3);refine Qe ?_;simp only[go_sem];refine Qa ?_;simp only[go_sem];refine Qh ?_;exact ret 2 2 _ (by rw[Qdv,if_neg (by omega),if_neg hc2]) (by rw[Qdi,if_neg hc,if_neg hc2,if_neg hc3]) (by simp[lk]) (by simp[lk])
  refine Qf (Qb rfl ?_ ?_)
  ·intro hc2;have h11:op=11:=by simpa using hc2
   refine Qe ?_;simp only[go_sem];exact r8 _ (by rw[hc2];symm;rw[decide_eq_true_eq];exact .inl h11)
  ·intro hc2;have h11:¬op=11:=by simpa using hc2
   refine Qq ?_;simp only[go_sem];exact r8 _ (by rw[decide_eq_decide];omega)
 refine Qf (Qb rfl ?_ ?_)
 ·intro hc;have h1:op=1:=by simpa using hc
  refine Qe ?_;simp only[go_sem];exact r5 _ (by rw[hc];symm;rw[decide_eq_true_eq];exact .inl h1)
 ·intro hc;have h1:¬op=1:=by simpa using hc
  refine Qq ?_;simp only[go_sem];exact r5 _ (by rw[decide_eq_decide];omega)
def exA (op:Int)(k:Nat)(d:Int):Bool:=decide (1≤d)&&decide (1≤op∧op≤13)&&decide (Qdv op≤(k:Int)∧(k:Int)≤Qdi op)
def exB (op n:Int)(name:List UInt8):Bool:=(decide (op=2∨op=13) == Qc8 name)&&(decide (op=2∨op=13) || decide (name=[]))&&decide (0≤n∧n≤255)&&(decide (op=1) || decide (n=0))
theorem Qbgs (x:Ex)(d:Int):x.form d=(exA x.op x.kids.length d&&(exB x.op x.n x.name&&x.kids.all fun y=>y.form (d-1))):=by
 rw[x.form_eq,Qac1,exA,exB,Qac2];simp only[J4]
theorem Qja (a b:Bool):(bif a then true else b)=(a || b):=by cases a <;> rfl
theorem Qd9 (a b:Bool):(bif a then b else false)=(a&&b):=by cases a <;> rfl
theorem Qa13 {a b:Int}:decide (a<b) = !decide (b≤a):=by
 rw[Jp];simp only[decide_eq_true_eq,J7,decide_eq_false_iff_not];omega
theorem Qa62:∀(n:Nat) (x:Ex) {H:Heap} {K:V→Heap→Prop} (deep:Int),x.size≤n→deep≤100→K (.c (.bool (x.form deep))) H→Ql prog Que [.ag x.cells,.c (.int .i64 deep)] H K:=by
 intro n
 induction n with
 |zero=>intro x _ _ _ h;have:=x.size_pos;omega
 |succ n ih=>
 intro x H K deep hn hd hK;rw[Qbgs]at hK;have hsz:=x.size_kids;refine Qc Qal Qa0r ?_;refine Qa ?_;simp only[go_sem,x.cells_eq];refine Qa ?_;simp only[go_sem];refine Qa63 ?_;simp only[go_sem,Q2z,Jq,Jt];refine Q6 ?_;refine Qa ?_;simp only[go_sem];have retf:∀(b:Bool) (e:Env),(exA x.op x.kids.length deep&&(exB x.op x.n x.name&&x.kids.all fun y=>y.form (deep-1)))=b→lk 4 e=.c (.bool b)→Qp Qm4 K .ret e H:=by
  intro b e h0 h1;simp only[go_sem,Qp,Q8,Qm4,Ja,forall_eq,RS.op,h1];rw[←h0];exact hK
 have rest:∀b:Bool,b = !exA x.op x.kids.length deep→Q3 prog (s_l2Form_3.seq Q2y) (Qp Qm4 K)
   [(1,.c (.int .i64 deep)),(2,.c (.pp [.int .i64 x.op,.int .i64 x.n,.str x.name,.sl false 4 (Qt x.kids)])),(31,.c (.bool b))] H:=by
  intro b hb;refine Qf (Qb rfl ?_ ?_)
  ·intro hc;refine Qa ?_;simp only[go_sem];refine Qh ?_;simp only[go_sem];have hA:exA x.op x.kids.length deep=false:=by rw[hc]at hb;simpa using hb.symm
   exact retf false _ (by rw[hA];rfl) (by simp[lk])
  intro hc;have hA:exA x.op x.kids.length deep=true:=by rw[hc]at hb;simpa using hb.symm
  have hdp:1≤deep:=by
   have:=hA;simp only[exA,Jj,decide_eq_true_eq]at this;exact this.1.1
  rw[hA,Ji]at retf;refine Qe ?_;simp only[go_sem];refine Qa ?_;simp only[go_sem];refine Q6 ?_;refine Qa ?_;simp only[go_sem];refine Q38 ?_;simp only[go_sem,Q20];have rest2:∀b:Bool,b = !exB x.op x.n x.name→Q3 prog (s_l2Form_6.seq Q2x) (Qp Qm4 K)
    [(1,.c (.int .i64 deep)),(2,.c (.pp [.int .i64 x.op,.int .i64 x.n,.str x.name,.sl false 4 (Qt x.kids)])),(69,.c (.bool b))] H:=by
   intro b hb;refine Qf (Qb rfl ?_ ?_)
   ·intro hc;have hB:exB x.op x.n x.name=false:=(by rw[hc]at hb;simpa using hb.symm);refine Qa ?_;simp only[go_sem];refine Qh ?_;simp only[go_sem];exact retf false _ (by rw[hB];rfl) (by simp[lk])
   intro hc;have hB:exB x.op x.n x.name=true:=by rw[hc]at hb;simpa using hb.symm
   rw[hB,Ji]at retf;refine Qe ?_;simp only[go_sem];refine Q6 ?_;refine Qa ?_;simp only[go_sem];refine Qf (Qd (Qab (fun n e1 H1=>∃i:Nat,n=x.kids.length-i∧i≤x.kids.length∧H1=H∧((x.kids.take i).all fun y=>y.form (deep-1))=true∧e1=[(1,.c (.int .i64 deep)),(2,.c (.pp [.int .i64 x.op,.int .i64 x.n,.str x.name,.sl false 4 (Qt x.kids)])),(8,.c (.int .i64 i))]) x.kids.length ?_ ?_))
   ·exact⟨0,by omega,by omega,rfl,rfl,rfl⟩
   ·rintro n e1 H1 ⟨i,hn,hi,rfl,hall,rfl⟩;refine Q6 ?_;refine Qa ?_;simp only[go_sem,Qj];intro hl;simp only[LIM]at hl;refine Qf (Qb rfl ?_ ?_)
    ·intro hc;have hlt:i<x.kids.length:=(by simpa using hc);have hm:=Qau (Jd hlt);refine Qe ?_;simp only[go_sem];refine Qf (Qd ?_);refine Qa ?_;simp only[go_sem,hlt,Qj,Qr _ _ hlt,Ex.take4,Ex.allOw,Ex.cells_len];refine⟨Q1 (by omega) (by omega),?_⟩;refine ih _ (deep-1) (by omega) (by omega) ?_;simp only[go_sem,Q21];refine Qb rfl ?_ ?_
     ·intro hc2;refine Qa ?_;simp only[go_sem];refine Qh ?_;simp only[go_sem,X.next];exact retf false _ (Qoa hlt (Qyw hc2)) (by simp[lk])
     ·intro hc2;refine Qe ?_;simp only[go_sem];refine Qq ?_;simp only[go_sem,X.next];exact⟨Q1 (by omega) (by omega),x.kids.length-(i+1),by omega,i+1,rfl,by omega,by rw[Qhu hlt,hall,Qmu hc2];rfl,rfl⟩
    ·intro hc;have hge:x.kids.length≤i:=(by simpa using hc);rw[Je hge]at hall;refine Q9 ?_;simp only[go_sem,X.next];refine Qa ?_;simp only[go_sem];refine Qh ?_;exact retf true _ hall (by simp[lk])
  refine⟨fun hb1=>?_,fun hb1=>?_⟩
  ·refine Qrv ?_;simp only[go_sem,Ql3];refine rest2 _ ?_;simp only[Qja,Qd9,exB];by_cases h1:x.op=1 <;> by_cases h2:x.op=2 <;> by_cases h3:x.op=13 <;> cases Qc8 x.name <;> by_cases h4:x.name=[] <;> by_cases h5:(0≤x.n∧x.n≤255) <;> by_cases h6:x.n=0 <;> simp[h1,h2,h3,h4,h5,h6]
  ·replace hb1:=Qmu hb1;simp only[go_sem,Ql3,hb1];refine rest2 _ ?_;simp only[Qja,Qd9,exB]at hb1⊢;revert hb1;by_cases h1:x.op=1 <;> by_cases h2:x.op=2 <;> by_cases h3:x.op=13 <;> cases Qc8 x.name <;> by_cases h4:x.name=[] <;> by_cases h5:(0≤x.n∧x.n≤255) <;> by_cases h6:x.n=0 <;> simp[h1,h2,h3,h4,h5,h6]
 refine⟨fun hb1=>?_,fun hb1=>?_⟩
 ·replace hb1:=Qyw hb1;have hdp:1≤deep:=by simp at hb1;omega
  refine Qrv ?_;simp only[go_sem,Ql2,hb1,Qj,cond_false];intro hl;refine⟨fun hb2=>?_,fun hb2=>?_⟩
  ·refine Qrv ?_;simp only[go_sem,Qe6];refine rest _ ?_;simp only[Qja,exA];have hd1:decide (1≤deep)=true:=decide_eq_true hdp;rw[hd1];cases decide (1≤x.op∧x.op≤13) <;> cases decide (Qdv x.op≤(x.kids.length:Int)∧(x.kids.length:Int)≤Qdi x.op) <;> rfl
  ·replace hb2:=Qmu hb2;simp only[go_sem,Qe6,hb2];refine rest _ ?_;have hop:decide (1≤x.op∧x.op≤13)=false:=by
    cases h:decide (1≤x.op∧x.op≤13)with
    |false=>rfl
    |true=>rw[h]at hb2;simp at hb2
   simp only[exA,hop,Jau,Jan,Jaf]
 ·replace hb1:=Qmu hb1;simp only[go_sem,Ql2,Qe6,hb1,Qj,cond_true];refine rest _ ?_;have hdp:decide (1≤deep)=false:=by
   rw[decide_eq_false_iff_not];simp at hb1;omega
  simp only[exA,hdp,Jan,Jaf]
theorem Qaqj {x:Ex}(hx:x.size≤2^40)(hK:K (.c (.bool x.valid)) H):Ql prog Qf1 [.ag x.cells] H K:=by
 refine Qc Qal Q0z ?_;refine Qa ?_;simp only[go_sem,Ex.ne_nil];refine Qa ?_;simp only[go_sem,Ex.take4,Ex.allOw,Ex.cells_len];refine Qa62 x.size x 6 (Jm _) (by omega) ?_;simp only[go_sem,Qhs,Ex.take4,Ex.allOw,Ex.cells_len];have e:decide ((x.size:Int)≤30)=decide (x.size≤30):=by rw[decide_eq_decide];omega
 refine⟨fun hb=>?_,fun hb=>?_⟩
 ·refine Qaq2 x.size x (Jm _) hx ?_;simp only[go_sem,Qcv];refine Qh ?_;simp only[go_sem,Qp,Q8,Qcu,Ja,forall_eq,RS.op];rw[Ex.valid,hb]at hK
  first|(rw[e];exact hK)|(rw[hb,e];exact hK)|(simp only[hb,e,cond_true];exact hK)
 ·simp only[go_sem,Qcv,hb];refine Qh ?_;simp only[go_sem,Qp,Q8,Qcu,Ja,forall_eq,RS.op];rw[Ex.valid,hb]at hK;exact hK
mutual
theorem St.cnt_le:∀(x:St),x.cnt≤x.size
 |.mk op name args body els=>by
  have h1:=Qx9 body;have h2:=Qx9 els;simp only[St.cnt,St.size];omega
theorem Qx9:∀(l:List St),Qcm l≤Qi l
 |[]=>by simp[Qcm]
 |x::r=>by
  have h1:=St.cnt_le x;have h2:=Qx9 r;simp only[Qcm,Qi];omega
end
theorem Qa5c (l:List St):Qcm l=l.length+(l.map fun x=>Qcm x.body+Qcm x.els).sum:=by
 induction l with
 |nil=>simp[Qcm]
 |cons x r ih=>simp only[Qcm,Jn,J2,List.sum_cons,ih,x.cnt_eq];omega
def inC (l:List St):Nat:=(l.map fun x=>Qcm x.body+Qcm x.els).sum
theorem Qbb9 {l:List St}{i:Nat}(h:i<l.length):inC (l.take (i+1))=inC (l.take i)+(Qcm (l[i]'h).body+Qcm (l[i]'h).els):=by
 rw[inC,inC,Jb h,Jy,Ja3];simp
theorem Qbi9 (l:List St)(i:Nat):inC (l.take i)≤inC l:=by
 have:inC l=inC (l.take i)+inC (l.drop i):=by rw[inC,inC,inC,←Ja3,←Jy,J0]
 omega
theorem Qa2h:∀(n:Nat) (l:List St) {fl:Bool} {H:Heap} {K:V→Heap→Prop},Qi l≤n→Qi l≤2^40→K (.c (.int .i64 (Qcm l))) H→Ql prog Qk3 [.c (.sl fl 5 (Qk l))] H K:=by
 intro n
 induction n using Nat.strongRecOn with
 |ind n ih=>
 intro l fl H K hn hb hK;have hlen:=Qan l;have htot:=Qa5c l;have hcl:=Qx9 l;change Qcm l=l.length+inC l at htot;refine Qc Qal Qari ?_;refine Qa ?_;simp only[go_sem];refine Qa ?_;simp only[go_sem,Qx];intro hl;refine Q6 ?_;refine Qa ?_;simp only[go_sem];refine Qf (Qd (Qab (fun n e1 H1=>∃(i:Nat),n=l.length-i∧i≤l.length∧H1=H∧e1=[(0,.c (.sl fl 5 (Qk l))),(3,.c (.int .i64 ((l.length+inC (l.take i):Nat):Int))),(4,.c (.int .i64 i))]) l.length ?_ ?_))
 ·exact⟨0,by omega,by omega,rfl,rfl⟩
 ·rintro n e1 H1 ⟨i,hn1,hi,rfl,rfl⟩;refine Q6 ?_;refine Qa ?_;simp only[go_sem,Qx];simp only[LIM]at hl;refine fun _=>?_;refine Qf (Qb rfl ?_ ?_)
  ·intro hc;have hlt:i<l.length:=by simpa using hc
   have hm:=Qa3 (Jd hlt);have hse:=(l[i]'hlt).size_eq;have hit:=Qbb9 hlt;have hil:=Qbi9 l (i+1);refine Qe ?_;simp only[go_sem];refine Qf (Qd (Qel ?_));simp only[go_sem,hlt,Qx,Qbe _ _ hlt,St.cells_eq];refine ih (Qi l[i].body) (by omega) l[i].body (Jm _) (by omega) ?_;simp only[go_sem,Qv1,hlt,Qx,Qbe _ _ hlt,St.cells_eq];refine⟨Q1 (by omega) (by omega),?_⟩;refine ih (Qi l[i].els) (by omega) l[i].els (Jm _) (by omega) ?_;simp only[go_sem,Qv0];refine⟨Q1 (by omega) (by omega),?_⟩;refine Qq ?_;simp only[go_sem,X.next];refine⟨Q1 (by omega) (by omega),l.length-(i+1),by omega,i+1,rfl,by omega,?_⟩;rw[hit];simp;omega
  ·intro hc;have hge:l.length≤i:=by simpa using hc
   refine Q9 ?_;simp only[go_sem,X.next];refine Qa ?_;simp only[go_sem];refine Qh ?_;simp only[go_sem,Qp,Q8,Qcu,Ja,forall_eq,RS.op];rw[Je hge,←htot];exact hK
def stA (op:Int)(k:Nat)(d:Int):Bool:=decide (1≤d)&&decide (1≤op∧op≤8)&&decide (k=argN op)
def stB (op:Int)(name:List UInt8):Bool:=(decide (op=1∨op=2) == Qc8 name)&&(decide (op=1∨op=2) || decide (name=[]))
def stD (op:Int)(nb ne:Nat):Bool:=(decide (op=5) || decide (ne=0))&&(decide (op=5∨op=6) || decide (nb=0))
theorem Qbl2 (x:St)(d:Int):x.form d=(stA x.op x.args.length d&&(stB x.op x.name&&(x.args.all Ex.valid&&((!decide (x.op=8) || decide ((x.args.map Ex.op).getD 0 0=13))&&(stD x.op x.body.length x.els.length&&(Qax x.body (d-1)&&Qax x.els (d-1))))))):=by
 rw[x.form_eq,Qaap,stA,stB,stD];simp only[J4]
def Qbin (n:Nat):Prop:=∀(x:St) (deep:Int) (H:Heap) (K:V→Heap→Prop),x.size≤n→x.size≤2^40→deep≤100→K (.c (.bool (x.form deep))) H→Ql prog Q4c [.ag x.cells,.c (.int .i64 deep)] H K
def Qa5o (n:Nat):Prop:=∀(l:List St) (deep:Int) (fl:Bool) (H:Heap) (K:V→Heap→Prop),Qi l≤n→Qi l≤2^40→deep≤100→K (.c (.bool (Qax l deep))) H→Ql prog Qk4 [.c (.sl fl 5 (Qk l)),.c (.int .i64 deep)] H K
theorem Qbar {n:Nat}(hS:Qbin n):Qa5o n:=by
 intro l deep fl H K hn hb hd hK;rw[Q36]at hK;refine Qc Qal Qarn ?_;have retf:∀(b:Bool) (e:Env),(l.all fun x=>x.form deep)=b→lk 4 e=.c (.bool b)→Qp Qm4 K .ret e H:=by
  intro b e h0 h1;simp only[go_sem,Qp,Q8,Qm4,Ja,forall_eq,RS.op,h1];rw[←h0];exact hK
 refine Qa ?_;simp only[go_sem];refine Q6 ?_;refine Qa ?_;simp only[go_sem];refine Qf (Qd (Qab (fun n e1 H1=>∃(i:Nat),n=l.length-i∧i≤l.length∧H1=H∧((l.take i).all fun x=>x.form deep)=true∧e1=[(0,.c (.sl fl 5 (Qk l))),(1,.c (.int .i64 deep)),(5,.c (.int .i64 i))]) l.length ?_ ?_))
 ·exact⟨0,by omega,by omega,rfl,rfl,rfl⟩
 ·rintro n e1 H1 ⟨i,hn1,hi,rfl,hall,rfl⟩;refine Q6 ?_;refine Qa ?_;simp only[go_sem,Qx];intro hl;simp only[LIM]at hl;refine Qf (Qb rfl ?_ ?_)
  ·intro hc;have hlt:i<l.length:=by simpa using hc
   have hm:=Qa3 (Jd hlt);refine Qe ?_;simp only[go_sem];refine Qf (Qd ?_);refine Qa ?_;simp only[go_sem,hlt,Qx,Qbe _ _ hlt,St.take5,St.allOw,St.cells_len];refine hS _ deep _ _ (by omega) (by omega) hd ?_;simp only[go_sem,Qwy];refine Qb rfl ?_ ?_
   ·intro hc2;refine Qa ?_;simp only[go_sem];refine Qh ?_;simp only[go_sem,X.next];exact retf false _ (Qoa hlt (Qyw hc2)) (by simp[lk])
   ·intro hc2;refine Qe ?_;simp only[go_sem];refine Qq ?_;simp only[go_sem,X.next];exact⟨Q1 (by omega) (by omega),l.length-(i+1),by omega,i+1,rfl,by omega,by rw[Qhu hlt,hall,Qmu hc2];rfl,rfl⟩
  ·intro hc;have hge:l.length≤i:=by simpa using hc
   rw[Je hge]at hall;refine Q9 ?_;simp only[go_sem,X.next];refine Qa ?_;simp only[go_sem];refine Qh ?_;exact retf true _ hall (by simp[lk])
theorem Qbee {n:Nat}(hS:∀m,m<n→Qa5o m):Qbin n:=by
 intro x deep H K hn hb hd hK;rw[Qbl2]at hK;have hsz:=x.size_eq;refine Qc Qal Qa0u ?_;have retf:∀(b:Bool) (e:Env),(stA x.op x.args.length deep&&(stB x.op x.name&&(x.args.all Ex.valid&&((!decide (x.op=8) || decide ((x.args.map Ex.op).getD 0 0=13))&&(stD x.op x.body.length x.els.length&&(Qax x.body (deep-1)&&Qax x.els (deep-1)))))))=b→
   lk 4 e=.c (.bool b)→Qp Qm4 K .ret e H:=by
  intro b e h0 h1;simp only[go_sem,Qp,Q8,Qm4,Ja,forall_eq,RS.op,h1];rw[←h0];exact hK
 refine Qa ?_;simp only[go_sem,x.cells_eq];refine Q6 ?_;refine Qa1 ?_;simp only[go_sem];have rest:∀b:Bool,b = !stA x.op x.args.length deep→Q3 prog (s_l3Stmt_2.seq Q24) (Qp Qm4 K)
   [(1,.c (.int .i64 deep)),(2,.c (.pp [.int .i64 x.op,.str x.name,.sl false 4 (Qt x.args),.sl false 5 (Qk x.body),.sl false 5 (Qk x.els)])),(23,.c (.bool b))] H:=by
  intro b hb;refine Qf (Qb rfl ?_ ?_)
  ·intro hc;have hA:stA x.op x.args.length deep=false:=by rw[hc]at hb;simpa using hb.symm
   refine Qa ?_;simp only[go_sem];refine Qh ?_;simp only[go_sem];exact retf false _ (by rw[hA];rfl) (by simp[lk])
  intro hc;have hA:stA x.op x.args.length deep=true:=by rw[hc]at hb;simpa using hb.symm
  rw[hA,Ji]at retf;simp only[stA,Jj,decide_eq_true_eq]at hA;obtain⟨⟨hdp,_⟩,hal⟩:=hA;have hap:0<x.args.length:=by rw[hal,argN];split <;> omega
  refine Qe ?_;simp only[go_sem];refine Qa ?_;simp only[go_sem];refine Q6 ?_;refine Qa ?_;simp only[go_sem];refine Q38 ?_;simp only[go_sem,Q25];refine Qf (Qb rfl ?_ ?_)
  ·intro hc;have hB:stB x.op x.name=false:=by
    simp only[Qja,Qd9]at hc;simp only[stB];revert hc;by_cases h1:x.op=1 <;> by_cases h2:x.op=2 <;> cases Qc8 x.name <;> by_cases h4:x.name=[] <;> simp[h1,h2,h4]
   refine Qa ?_;simp only[go_sem];refine Qh ?_;simp only[go_sem];exact retf false _ (by rw[hB];rfl) (by simp[lk])
  intro hc;have hB:stB x.op x.name=true:=by
   simp only[Qja,Qd9]at hc;simp only[stB];revert hc;by_cases h1:x.op=1 <;> by_cases h2:x.op=2 <;> cases Qc8 x.name <;> by_cases h4:x.name=[] <;> simp[h1,h2,h4]
  rw[hB,Ji]at retf;refine Qe ?_;simp only[go_sem];refine Q6 ?_;refine Qa ?_;simp only[go_sem];refine Qf (Qd (Qab (fun n e1 H1=>∃(i:Nat),n=x.args.length-i∧i≤x.args.length∧H1=H∧(x.args.take i).all Ex.valid=true∧e1=[(1,.c (.int .i64 deep)),(2,.c (.pp [.int .i64 x.op,.str x.name,.sl false 4 (Qt x.args),.sl false 5 (Qk x.body),.sl false 5 (Qk x.els)])),(6,.c (.int .i64 i))]) x.args.length ?_ ?_))
  ·exact⟨0,by omega,by omega,rfl,rfl,rfl⟩
  ·rintro n e1 H1 ⟨i,hn1,hi,rfl,hall,rfl⟩;refine Q6 ?_;refine Qa ?_;simp only[go_sem,Qj];intro hl;simp only[LIM]at hl;refine Qf (Qb rfl ?_ ?_)
   ·intro hc;have hlt:i<x.args.length:=(by simpa using hc);have hm:=Qau (Jd hlt);refine Qe ?_;simp only[go_sem];refine Qf (Qd ?_);refine Qa ?_;simp only[go_sem,hlt,Qj,Qr _ _ hlt,Ex.take4,Ex.allOw,Ex.cells_len];refine Qaqj (by omega) ?_;simp only[go_sem,Q26];refine Qb rfl ?_ ?_
    ·intro hc2;refine Qa ?_;simp only[go_sem];refine Qh ?_;simp only[go_sem,X.next];exact retf false _ (by rw[Qoa hlt (Qyw hc2)];rfl) (by simp[lk])
    ·intro hc2;refine Qe ?_;simp only[go_sem];refine Qq ?_;simp only[go_sem,X.next];exact⟨Q1 (by omega) (by omega),x.args.length-(i+1),by omega,i+1,rfl,by omega,by rw[Qhu hlt,hall,Qmu hc2];rfl,rfl⟩
   ·intro hc;have hge:x.args.length≤i:=(by simpa using hc);rw[Je hge]at hall;rw[hall,Ji]at retf;have hg0:(x.args.map Ex.op).getD 0 0=x.args[0].op:=(by simp[Jc,hap]);refine Q9 ?_;simp only[go_sem,X.next];refine Q6 ?_;refine Qa ?_;simp only[go_sem,hap,Qj,Qr _ _ hap,Ex.cells_eq];refine⟨fun _=>Jaz _,?_⟩;refine Qf (Qb rfl ?_ ?_)
    ·intro hc;have hC:(!decide (x.op=8) || decide ((x.args.map Ex.op).getD 0 0=13))=false:=by
      rw[hg0];simp only[Qd9]at hc;revert hc;by_cases h1:x.op=8 <;> by_cases h2:x.args[0].op=13 <;> simp[h1,h2]
     refine Qa ?_;simp only[go_sem];refine Qh ?_;simp only[go_sem];exact retf false _ (by rw[hC];rfl) (by simp[lk])
    intro hc;have hC:(!decide (x.op=8) || decide ((x.args.map Ex.op).getD 0 0=13))=true:=by
     rw[hg0];simp only[Qd9]at hc;revert hc;by_cases h1:x.op=8 <;> by_cases h2:x.args[0].op=13 <;> simp[h1,h2]
    rw[hC,Ji]at retf;refine Qe ?_;simp only[go_sem];refine Q6 ?_;refine Qa ?_;simp only[go_sem,Qx]
    intros
    have eb:decide ((0:Int)<(x.body.length:Int)) = !decide (x.body.length=0):=by
     rw[Jp];simp only[decide_eq_true_eq,J7,decide_eq_false_iff_not];omega
    have ee:decide ((0:Int)<(x.els.length:Int)) = !decide (x.els.length=0):=by
     rw[Jp];simp only[decide_eq_true_eq,J7,decide_eq_false_iff_not];omega
    refine Qf (Qb rfl ?_ ?_)
    ·intro hc;have hD:stD x.op x.body.length x.els.length=false:=by
      simp only[Qd9,Qja,eb,ee]at hc;simp only[stD];revert hc;by_cases h1:x.op=5 <;> by_cases h2:x.op=6 <;> cases decide (x.body.length=0) <;> cases decide (x.els.length=0) <;> simp[h1,h2]
     refine Qa ?_;simp only[go_sem];refine Qh ?_;simp only[go_sem];exact retf false _ (by rw[hD];rfl) (by simp[lk])
    intro hc;have hD:stD x.op x.body.length x.els.length=true:=by
     simp only[Qd9,Qja,eb,ee]at hc;simp only[stD];revert hc;by_cases h1:x.op=5 <;> by_cases h2:x.op=6 <;> cases decide (x.body.length=0) <;> cases decide (x.els.length=0) <;> simp[h1,h2]
    rw[hD,Ji]at retf;refine Qe ?_;simp only[go_sem];refine Qa ?_;simp only[go_sem];refine⟨Q1 (by omega) (by omega),?_⟩;refine hS (Qi x.body) (by omega) _ _ _ _ _ (Jm _) (by omega) (by omega) ?_;simp only[go_sem,Qwx];refine⟨fun _=>Q1 (by omega) (by omega),?_⟩;refine⟨fun hb1=>?_,fun hb1=>?_⟩
    ·refine hS (Qi x.els) (by omega) _ _ _ _ _ (Jm _) (by omega) (by omega) ?_;simp only[go_sem,Qiy,hb1];refine Qh ?_;exact retf _ _ (by rw[hb1,Ji]) (by simp[lk])
    ·simp only[go_sem,Qiy,hb1];refine Qh ?_;exact retf false _ (by rw[hb1];rfl) (by simp[lk])
 refine⟨fun hb1=>?_,fun hb1=>?_⟩
 ·replace hb1:=Qyw hb1;have hdp:1≤deep:=by simp at hb1;omega
  have hd1:decide (1≤deep)=true:=decide_eq_true hdp;refine Qrv ?_;simp only[go_sem,Ql7,hb1,Qj,cond_false];refine⟨fun hb2=>?_,fun hb2=>?_⟩
  ·refine Qa0h ?_;simp only[go_sem,Qe7,Qj];refine rest _ ?_;have hln:decide ((x.args.length:Int)=if x.op=4 then 2 else 1)=decide (x.args.length=argN x.op):=by
    rw[decide_eq_decide,argN];split <;> omega
   simp only[stA,hd1,hln,Qja];cases decide (1≤x.op∧x.op≤8) <;> cases decide (x.args.length=argN x.op) <;> rfl
  ·replace hb2:=Qmu hb2;simp only[go_sem,Qe7,hb2,Qj];refine rest _ ?_;have hop:decide (1≤x.op∧x.op≤8)=false:=by
    cases h:decide (1≤x.op∧x.op≤8)with
    |false=>rfl
    |true=>rw[h]at hb2;simp at hb2
   simp only[stA,hop,Jau,Jan,Jaf]
 ·replace hb1:=Qmu hb1;simp only[go_sem,Ql7,Qe7,hb1,Qj,cond_true];refine rest _ ?_;have hdp:decide (1≤deep)=false:=by
   rw[decide_eq_false_iff_not];simp at hb1;omega
  simp only[stA,hdp,Jan,Jaf]
theorem Qbef (n:Nat):Qa5o n:=by
 induction n using Nat.strongRecOn with
 |ind n ih=>exact Qbar (Qbee ih)
theorem Qbg8 {f:Fn}(hf:Qi f.body≤2^40)(hK:K (.c (.bool f.form)) H):Ql prog Qan7 [.ag f.cells] H K:=by
 refine Qc Qal Qbe7 ?_;have e0:f.form=(f.params.all Qc8&&(Qc8 f.name&&(decide (f.params.length≤3)&&Qax f.body 4))):=by simp only[Fn.form,J4]
 rw[e0]at hK;have retf:∀(b:Bool) (e:Env),(f.params.all Qc8&&(Qc8 f.name&&(decide (f.params.length≤3)&&Qax f.body 4)))=b→lk 2 e=.c (.bool b)→Qp Qcu K .ret e H:=by
  intro b e h0 h1;simp only[go_sem,Qp,Q8,Qcu,Ja,forall_eq,RS.op,h1];rw[←h0];exact hK
 refine Qa ?_;simp only[go_sem,Fn.cells];refine Q6 ?_;refine Qa ?_;simp only[go_sem];refine Qf (Qd (Qab (fun n e1 H1=>∃(i:Nat),n=f.params.length-i∧i≤f.params.length∧H1=H∧(f.params.take i).all Qc8=true∧e1=[(1,.c (.pp [.str f.name,.sl false 1 (Q0 f.params),.sl false 5 (Qk f.body)])),(3,.c (.int .i64 i))]) f.params.length ?_ ?_))
 ·exact⟨0,by omega,by omega,rfl,rfl,rfl⟩
 ·rintro n e1 H1 ⟨i,hn1,hi,rfl,hall,rfl⟩;refine Q6 ?_;refine Qa ?_;simp only[go_sem,Qo];intro hl;simp only[LIM]at hl;refine Qf (Qb rfl ?_ ?_)
  ·intro hc;have hlt:i<f.params.length:=by simpa using hc
   have hg:f.params.getD i []=f.params[i]:=by simp[Jc,hlt]
   refine Qe ?_;simp only[go_sem];refine Qf (Qd ?_);refine Qa ?_;simp only[go_sem,hlt,Qo,Qbo _ _ hlt,hg];refine Q38 ?_;simp only[go_sem,Qaga];refine Qb rfl ?_ ?_
   ·intro hc2;refine Qa ?_;simp only[go_sem];refine Qh ?_;simp only[go_sem,X.next];exact retf false _ (by rw[Qoa hlt (Qyw hc2)];rfl) (by simp[lk])
   ·intro hc2;refine Qe ?_;simp only[go_sem];refine Qq ?_;simp only[go_sem,X.next];exact⟨Q1 (by omega) (by omega),f.params.length-(i+1),by omega,i+1,rfl,by omega,by rw[Qhu hlt,hall,Qmu hc2];rfl,rfl⟩
  ·intro hc;have hge:f.params.length≤i:=by simpa using hc
   rw[Je hge]at hall;rw[hall,Ji]at retf;refine Q9 ?_;simp only[go_sem,X.next];refine Qa ?_;simp only[go_sem];refine Q38 ?_;simp only[go_sem,Qagb,Qo]
   intros
   have e3:decide ((f.params.length:Int)≤3)=decide (f.params.length≤3):=by rw[decide_eq_decide];omega
   refine⟨fun hb1=>?_,fun hb1=>?_⟩
   ·refine Qbef _ _ _ _ _ _ (Jm _) hf (by omega) ?_;simp only[go_sem,Qv2,hb1];rw[Qd9,e3,Jj]at hb1;refine Qh ?_;exact retf _ _ (by rw[hb1.1,hb1.2,Ji,Ji]) (by simp[lk])
   ·simp only[go_sem,Qv2,hb1];rw[Qd9,e3]at hb1;refine Qh ?_;exact retf false _ (by rw[←J4,hb1];rfl) (by simp[lk])
theorem Qaz0 (l:List Fn):Qdb l≤Qs l:=by
 induction l with
 |nil=>simp[Qdb]
 |cons f r ih=>have:=Qx9 f.body;simp only[Qdb,Qs];omega
theorem Qbcr {l:List Fn}{fl:Bool}(hf:Qs l≤2^40)(hK:K (.c (.int .i64 (Qdb l))) H):Ql prog Qacj [.ag [.sl fl 3 (Qy l)]] H K:=by
 refine Qc Qal Qa7q ?_;refine Qa ?_;simp only[go_sem];refine Qa ?_;simp only[go_sem];refine Q6 ?_;refine Qa ?_;simp only[go_sem];refine Qf (Qd (Qab (fun n e1 H1=>∃(i:Nat),n=l.length-i∧i≤l.length∧H1=H∧e1=[(1,.c (.pp [.sl fl 3 (Qy l)])),(3,.c (.int .i64 (Qdb (l.take i):Nat))),(4,.c (.int .i64 i))]) l.length ?_ ?_))
 ·exact⟨0,by omega,by omega,rfl,rfl⟩
 ·rintro n e1 H1 ⟨i,hn1,hi,rfl,rfl⟩;refine Q6 ?_;refine Qa ?_;simp only[go_sem,Qw];intro hl;simp only[LIM]at hl;refine Qf (Qb rfl ?_ ?_)
  ·intro hc;have hlt:i<l.length:=by simpa using hc
   have hm:=Qa5 (Jd hlt);have htk:=Q6b hlt;have htl:=Qi6 l (i+1);have hct:=Qaz0 (l.take (i+1));refine Qe ?_;simp only[go_sem];refine Qf (Qd (Qq ?_));simp only[go_sem,hlt,Qw,Qaf _ _ hlt,Fn.cells];refine Qa2h _ _ (Jm _) (by omega) ?_;simp only[go_sem,Q8f];refine⟨Q1 (by omega) (by omega),?_⟩;refine Qq ?_;simp only[go_sem,X.next];refine⟨Q1 (by omega) (by omega),l.length-(i+1),by omega,i+1,rfl,by omega,?_⟩;rw[htk];simp
  ·intro hc;have hge:l.length≤i:=by simpa using hc
   refine Q9 ?_;simp only[go_sem,X.next];refine Qa ?_;simp only[go_sem];refine Qh ?_;simp only[go_sem,Qp,Q8,Qcu,Ja,forall_eq,RS.op];rw[Je hge];exact hK
theorem Qact {l:List Fn}{fl:Bool}(hf:Qs l≤2^40)(hK:K (.c (.bool (Qlj l))) H):Ql prog Qce [.ag [.sl fl 3 (Qy l)]] H K:=by
 refine Qc Qal Qo2 ?_;have e0:Qlj l=(decide (1≤l.length∧l.length≤4)&&(l.all Fn.form&&decide (Qdb l≤40))):=by simp only[Qlj,J4]
 rw[e0]at hK;have retf:∀(b:Bool) (e:Env),(decide (1≤l.length∧l.length≤4)&&(l.all Fn.form&&decide (Qdb l≤40)))=b→lk 2 e=.c (.bool b)→Qp Qcu K .ret e H:=by
  intro b e h0 h1;simp only[go_sem,Qp,Q8,Qcu,Ja,forall_eq,RS.op,h1];rw[←h0];exact hK
 refine Qa ?_;simp only[go_sem];refine Q6 ?_;refine Qa ?_;simp only[go_sem,Qw];intro hl;simp only[LIM]at hl;refine Qrv ?_;simp only[go_sem,Qei];have e1:decide ((1:Int)≤(l.length:Int)∧(l.length:Int)≤4)=decide (1≤l.length∧l.length≤4):=by rw[decide_eq_decide];omega
 refine Qf (Qb rfl ?_ ?_)
 ·intro hc;have hA:=Qyw hc;rw[e1]at hA;refine Qa ?_;simp only[go_sem];refine Qh ?_;simp only[go_sem];exact retf false _ (by rw[hA];rfl) (by simp[lk])
 intro hc;have hA:=Qmu hc;rw[e1]at hA;rw[hA,Ji]at retf;refine Qe ?_;simp only[go_sem];refine Q6 ?_;refine Qa ?_;simp only[go_sem];refine Qf (Qd (Qab (fun n e1 H1=>∃(i:Nat),n=l.length-i∧i≤l.length∧H1=H∧(l.take i).all Fn.form=true∧e1=[(1,.c (.pp [.sl fl 3 (Qy l)])),(3,.c (.int .i64 i))]) l.length ?_ ?_))
 ·exact⟨0,by omega,by omega,rfl,rfl,rfl⟩
 ·rintro n e1 H1 ⟨i,hn1,hi,rfl,hall,rfl⟩;refine Q6 ?_;refine Qa ?_;simp only[go_sem,Qw];refine fun _=>?_;refine Qf (Qb rfl ?_ ?_)
  ·intro hc;have hlt:i<l.length:=by simpa using hc
   have hm:=Qa5 (Jd hlt);refine Qe ?_;simp only[go_sem];refine Qf (Qd ?_);refine Qa ?_;simp only[go_sem,hlt,Qw,Qaf _ _ hlt,Fn.take3,Fn.allOw,Fn.cells_len];refine Qbg8 (by omega) ?_;simp only[go_sem,Qej];refine Qb rfl ?_ ?_
   ·intro hc2;refine Qa ?_;simp only[go_sem];refine Qh ?_;simp only[go_sem,X.next];exact retf false _ (by rw[Qoa hlt (Qyw hc2)];rfl) (by simp[lk])
   ·intro hc2;refine Qe ?_;simp only[go_sem];refine Qq ?_;simp only[go_sem,X.next];exact⟨Q1 (by omega) (by omega),l.length-(i+1),by omega,i+1,rfl,by omega,by rw[Qhu hlt,hall,Qmu hc2];rfl,rfl⟩
  ·intro hc;have hge:l.length≤i:=by simpa using hc
   rw[Je hge]at hall;rw[hall,Ji]at retf;refine Q9 ?_;simp only[go_sem,X.next];refine Qa ?_;simp only[go_sem];refine Qbcr hf ?_;simp only[go_sem,Qek];refine Qh ?_;exact retf (decide ((Qdb l:Int)≤40)) _ (by rw[decide_eq_decide];omega) (by simp[lk])
end Go.AE.Y
namespace Go.AE.Y
open Go.Proofs.Tryz
def Qjk:List Item:=[oJ 13 12]
def Q1t:SC:=cT 13 (sR [zJ 2 1] [2] .ret) .skip
def Qjl:List Item:=[mJ 3 16]
def Qjm:List Item:=[mJ 4 22,sJ 3 5 24]
def Qjn:List Item:=[mJ 33 4,bJ 34 .lss 32 33]
def Q1u:SC:=cT 34 (.reg [mJ 35 3,aJ 36 Qao [.t 35,kI 2]] [1,3,5,18,19,20]) .skip
def Qjo:List Item:=[mJ 6 37]
def Q1v:SC:=cT 54 (.reg [mJ 55 3,aJ 56 Qao [.t 55,kI 2]] [1,3,5,6,8,18,19,20,39,40,41]) .skip
def Q1w:SC:=sR [mJ 54 10] [1,3,5,6,8,18,19,20,39,40,41,54] Q1v
def Qlq:SC:=.reg [mJ 57 6,kJ 58 57,fJ 59 0 58,lJ 60 59,mJ 61 8,.e none none (.upd 1 (.t 60) (.t 61) (kI 0))] [1,3,5,6,18,19,20,39,40,41]
def Qyx:SC:=.seq (sR [mJ 46 6,kJ 47 46,fJ 48 0 47,lJ 49 48,mJ 50 8,fI 51 (.lup2 1 (.c (.int .i64 0)) (.t 49) (.t 50)),mJ 45 51,fI 52 (.ext (.t 45) 0),fI 53 (.ext (.t 45) 1),mJ 9 52,mJ 10 53] [1,3,5,6,8,10,18,19,20,39,40,41] Q1w) Qlq
def Qjg:SC:=.reg [cJ 62 .add 41 1,mJ 41 62] [1,3,5,6,18,19,20,39,40,41]
def Qyy:SC:=.seq (.block 3 (sR [iJ 43 1 39 41,lJ 44 43,mJ 8 44] [1,3,5,6,8,18,19,20,39,40,41] Qyx)) Qjg
def Qu3:SC:=sR [bJ 42 .lss 41 40] [1,3,5,6,18,19,20,39,40,41,42] (cX 42 2 Qyy)
def Qjh:SC:=.reg [mJ 63 3,fJ 64 2 5,lJ 65 64,mJ 66 6,aJ 67 Qb2 [.t 63,.t 65,.t 66]] [1,3,18,19,20]
def Qyz:SC:=.seq (sR [fJ 38 1 5,lJ 39 38,nJ 40 39,zJ 41 0] [1,3,5,6,18,19,20,39,40,41] (bL 2 Qu3)) Qjh
def Qji:SC:=sR (aJ 37 Qc6 [.k (.c .pnil)]::Qjo) [1,3,5,6,18,19,20] Qyz
def Qjj:SC:=.seq (sR (tJ 29 1 1::fJ 30 0 5::lJ 31 30::aJ 32 Qk2 [.t 29,.t 31]::Qjn) [1,3,5,18,19,20,34] Q1u) Qji
def Qy0:SC:=sR [mJ 25 3,mJ 26 4,kJ 27 25,fJ 28 1 27,sJ 1 28 26] [1,3,4,5,18,19,20] Qjj
def Qy1:SC:=.reg [cJ 68 .add 20 1,mJ 20 68] [1,3,18,19,20]
def Qy2:SC:=.seq (.block 1 (sR (mJ 22 20::iJ 23 3 18 20::tJ 24 3 23::eI 5 (.alloc [.str [],.sl true 1 [],.sl true 5 []])::Qjm) [1,3,4,5,18,19,20] Qy0)) Qy1
def Qu4:SC:=sR [bJ 21 .lss 20 19] [1,3,18,19,20,21] (cX 21 0 Qy2)
def Qy3:SC:=sR [mJ 69 3,kJ 70 69,fJ 71 2 70,lJ 72 71,mJ 2 72] [2] .ret
def Qy4:SC:=.seq (sR [fJ 17 0 1,lJ 18 17,nJ 19 18,zJ 20 0] [1,3,18,19,20] (bL 0 Qu4)) Qy3
def Qy5:SC:=sR (tJ 14 1 1::fI 15 (.bld [.sl true 3 [],.int .i64 0,.int .i64 0] [(0,1,.t 14)])::eI 16 (.boxm (.t 15))::Qjl) [1,3] Qy4
def Qy6:SC:=.seq (sR (tJ 11 1 1::aJ 12 Qfq [.t 11]::Qjk) [1,13] Q1t) Qy5
def Q7b:SC:=sR [vJ 1 0,zJ 2 0] [1] Qy6
theorem Q6k:mFn prog Qfn 1 73 Q7b Qcu=true:=by kernel_rfl
def Qjp:List Item:=[fB 3 false]
def Qjq:List Item:=[oJ 6 5]
def Qjr:List Item:=[fB 3 false]
def Q1x:SC:=cT 6 (sR (fI 7 (.bld [.sl true 3 []] [])::sJ 1 2 7::Qjr) [2,3] .ret) .skip
def Qjs:List Item:=[fB 3 true]
def Qjt:List Item:=fI 12 (.bld [.sl true 3 []] [(0,1,.t 11)])::sJ 1 2 12::Qjs
def Qju:List Item:=fI 10 (.mkf Qbi [.t 1])::aJ 11 Qe0 [.t 9,.t 10]::Qjt
def Q1y:SC:=sR (tJ 8 1 1::aJ 9 Qoc [.t 8]::Qju) [2,3] .ret
def Q1z:SC:=.seq (sR (tJ 4 1 1::aJ 5 Qot [.t 4]::Qjq) [1,2,6] Q1x) Q1y
def Q7c:SC:=sR (vJ 1 0::eI 2 (.alloc [.sl true 3 []])::Qjp) [1,2] Q1z
def Qhi:List RS:=[.cell 2 1 true,.tmp 3]
theorem Q6l:mFn prog Qfo 1 13 Q7c Qhi=true:=by kernel_rfl
def Qge:List Item:=[sJ 3 3 9]
def Qsw:SC:=sR (fJ 4 0 1::lJ 5 4::mJ 6 0::iJ 7 3 5 6::tJ 8 3 7::aJ 9 Qp5 [.t 8]::Qge) [3] .ret
def Qy7:SC:=sR [eI 3 (.alloc [.str [],.sl true 1 [],.sl true 5 []])] [0,1,3] Qsw
def Qjc:List RS:=[.cell 3 3 true]
theorem Qyr:mFn prog Qbi 2 10 Qy7 Qjc=true:=by kernel_rfl
def Qpb:List Item:=[mJ 6 8,fI 9 (.ext (.t 6) 0),fI 10 (.ext (.t 6) 1),fI 11 (.ext (.t 6) 2),mJ 3 9,mJ 4 10,mJ 5 11]
def Qaaw:SC:=sR [mJ 12 5,mJ 2 12] [2] .ret
def Qaax:SC:=sR (tJ 7 4 1::aJ 8 Qhx [.t 7,kI 6]::Qpb) [5] Qaaw
def Qaju:SC:=sR [vJ 1 0,fB 2 false] [1] Qaax
theorem Qajn:mFn prog Qle 1 13 Qaju Qcu=true:=by kernel_rfl
def Q9p:List Item:=[mJ 4 8]
def Qawp:SC:=sR (fJ 5 0 2::lJ 6 5::fI 7 (.mkf Qfp [.t 3])::aJ 8 Qfx [.t 6,.t 7]::Q9p) [4] .ret
def Qa8n:SC:=sR [vJ 2 0,vJ 3 1,zJ 4 0] [2,3] Qawp
theorem Qa7j:mFn prog Qk2 2 9 Qa8n Qm4=true:=by kernel_rfl
def Qajv:SC:=sR [fJ 4 0 2,lJ 5 4,lJ 6 1,bJ 7 .eql 5 6,mJ 3 7] [3] .ret
def Qase:SC:=sR [vJ 2 0,fB 3 false] [1,2] Qajv
def Q9g:List RS:=[.tmp 3]
theorem Qaq8:mFn prog Qfp 2 8 Qase Q9g=true:=by kernel_rfl
def Qh1:List Item:=[gT 15 11 (.not (.t 14)),pF 16 11 15,mJ 2 16]
def Qh2:List Item:=gT 9 6 (.bin 0 .lss (.t 8) (kI 0))::pF 10 6 9::mJ 11 10::gT 12 11 (.aslg 9 Qf2 Qf2)::gTm 13 11 0::.e (some 14) (some (11,true)) (.call Qdt [.t 12,.t 13])::Qh1
def Qom:List Item:=mJ 6 5::gTm 7 6 0::.e (some 8) (some (6,true)) (.call Qec [.t 7,.k (.c (.fn Qcp []))])::Qh2
def Qao6:SC:=sR (mJ 3 0::fI 4 (.lens (.t 3))::aJ 5 Qcx [.t 4,kI 1,kI 4]::Qom) [2] .ret
def Qawq:SC:=sR [fB 2 false] [0] Qao6
theorem Qawb:mFn prog Qdo 1 17 Qawq Qcu=true:=by kernel_rfl
def Qaay:SC:=sR [mJ 3 0,fI 4 (.bin 0 .lss (.t 3) (.k (.c (.int .i32 97)))),mJ 5 4,gFm 6 5 0,gF 7 5 (.bin 0 .gtr (.t 6) (.k (.c (.int .i32 122)))),pT 8 5 7,mJ 2 8] [2] .ret
def Qajw:SC:=sR [fB 2 false] [0] Qaay
theorem Qajo:mFn prog Qcp 1 9 Qajw Qcu=true:=by kernel_rfl
def Qrz:List Item:=[oJ 5 4]
def Qaen:SC:=cT 5 (sR [fI 2 (.mv (.k (.c (.sl true 1 []))))] [2] .ret) .skip
def Qr0:List Item:=[mJ 2 12]
def Qaeo:SC:=sR (fJ 6 0 1::lJ 7 6::nJ 8 7::cJ 9 .sub 8 1::fI 10 (.bsl 1 [.t 9])::fI 11 (.mkf Qcq [.t 1])::aJ 12 Qp6 [.t 10,.t 11]::Qr0) [2] .ret
def Qaep:SC:=.seq (sR (tJ 3 1 1::aJ 4 Qot [.t 3]::Qrz) [1,5] Qaen) Qaeo
def Qao7:SC:=sR [vJ 1 0,fI 2 (.mv (.k (.c (.sl true 1 []))))] [1] Qaep
theorem Qaon:mFn prog Qoc 1 13 Qao7 Qcu=true:=by kernel_rfl
def Qlr:List Item:=[mJ 3 6]
def Q4v:SC:=sR (tJ 4 1 1::mJ 5 0::aJ 6 Qp4 [.t 4,.t 5]::Qlr) [3] .ret
def Qaaz:SC:=sR [fI 3 (.mv (.k (.c (.sl true 1 []))))] [0,1] Q4v
theorem Qaat:mFn prog Qcq 2 7 Qaaz Q9g=true:=by kernel_rfl
def Qjw:List Item:=[oJ 11 10]
def Q10:SC:=cT 11 (sR [fB 2 false] [2] .ret) .skip
def Qjx:List Item:=[sJ 3 4 18]
def Qbr:List Item:=[gF 38 34 (.not (.t 37)),pT 39 34 38]
def Qbs:List Item:=pT 33 29 32::mJ 34 33::gFf 35 34 2 4::gFl 36 34 35::.e (some 37) (some (34,false)) (.call Qfr [.t 36,kI 1])::Qbr
def Qcn:List Item:=oJ 22 21::mJ 23 22::gFf 24 23 1 4::gFl 25 23 24::gF 26 23 (.len (.t 25))::gF 27 23 (.bin 0 .gtr (.t 26) (kI 3))::pT 28 23 27::mJ 29 28::gFf 30 29 1 4::gFl 31 29 30::.e (some 32) (some (29,false)) (.call Qck [.t 31,.k (.c (.fn Qdp []))])::Qbs
def Qls:SC:=cT 39 (sR [fB 2 false] [2] .ret) .skip
def Q11:SC:=sR (fJ 19 0 4::lJ 20 19::aJ 21 Qdo [.t 20]::Qcn) [1,13,14,15,39] Qls
def Qlt:SC:=.reg [cJ 40 .add 15 1,mJ 15 40] [1,13,14,15]
def Q12:SC:=.seq (.block 1 (sR (iJ 17 3 13 15::tJ 18 3 17::eI 4 (.alloc [.str [],.sl true 1 [],.sl true 5 []])::Qjx) [1,4,13,14,15] Q11)) Qlt
def Qu5:SC:=sR [bJ 16 .lss 15 14] [1,13,14,15,16] (cX 16 0 Q12)
def Qh9:List Item:=[mJ 41 43,fI 44 (.ext (.t 41) 0),fI 45 (.ext (.t 41) 1),mJ 5 44,mJ 6 45]
def Qy8:SC:=sR [mJ 46 5,cJ 47 .leq 46 40,mJ 2 47] [2] .ret
def Qjv:SC:=sR (tJ 42 1 1::aJ 43 Qp8 [.t 42]::Qh9) [5] Qy8
def Qy9:SC:=.seq (sR [fJ 12 0 1,lJ 13 12,nJ 14 13,zJ 15 0] [1,13,14,15] (bL 0 Qu5)) Qjv
def Qza:SC:=.seq (sR (fJ 7 0 1::lJ 8 7::nJ 9 8::aJ 10 Qcx [.t 9,kI 1,kI 4]::Qjw) [1,11] Q10) Qy9
def Q7d:SC:=sR [vJ 1 0,fB 2 false] [1] Qza
theorem Q6m:mFn prog Qfq 1 48 Q7d Qcu=true:=by kernel_rfl
def Qgf:List Item:=[oJ 5 4,mJ 2 5]
def Qsx:SC:=sR (mJ 3 0::aJ 4 Qdo [.t 3]::Qgf) [2] .ret
def Qzb:SC:=sR [fB 2 false] [0] Qsx
theorem Qys:mFn prog Qdp 1 6 Qzb Qcu=true:=by kernel_rfl
def Qaer:SC:=cT 7 .skip (.reg [cJ 9 .eql 6 2,mJ 7 9] [6,7])
def Qaes:SC:=cT 10 .skip (.reg [cJ 13 .eql 6 8,mJ 10 13] [6,10])
def Qaet:SC:=cT 10 .skip (sR [cJ 12 .eql 6 7,mJ 10 12] [6,10] Qaes)
def Qaeu:SC:=cT 18 (sR [zJ 2 1,fB 3 false,fB 4 true,fB 5 false] [2,3,4,5] .ret) .skip
def Qaev:SC:=cT 16 (sR [zJ 2 1,fB 3 false,fB 4 true,fB 5 true] [2,3,4,5] .ret) (sR [cJ 19 .eql 6 6,mJ 18 19] [18] Qaeu)
def Qaew:SC:=cT 14 (sR [zJ 2 2,fB 3 false,fB 4 false,fB 5 false] [2,3,4,5] .ret) (sR [cJ 17 .eql 6 5,mJ 16 17] [6,16] Qaev)
def Qu6:SC:=cT 10 (sR [zJ 2 1,fB 3 false,fB 4 false,fB 5 false] [2,3,4,5] .ret) (sR [cJ 15 .eql 6 4,mJ 14 15] [6,14] Qaew)
def Qu7:SC:=cT 7 (sR [zJ 2 1,fB 3 true,fB 4 false,fB 5 false] [2,3,4,5] .ret) (.seq (sR [cJ 11 .eql 6 3,mJ 10 11] [6,10] Qaet) Qu6)
def Qaex:SC:=.block 0 (.seq (sR [cJ 8 .eql 6 1,mJ 7 8] [6,7] Qaer) Qu7)
def Qlw:SC:=sR [zJ 2 (-1),fB 3 false,fB 4 false,fB 5 false] [2,3,4,5] .ret
def Qaa1:SC:=.seq (sR [mJ 6 0] [6] Qaex) Qlw
def Qao8:SC:=sR [zJ 2 0,fB 3 false,fB 4 false,fB 5 false] [0] Qaa1
def Qf7:List RS:=[.tmp 2,.tmp 3,.tmp 4,.tmp 5]
theorem Qaoo:mFn prog Qod 1 20 Qao8 Qf7=true:=by kernel_rfl
def Qu8:List Item:=[oJ 8 7,mJ 4 8]
def Qajx:SC:=sR (mJ 5 0::fI 6 (.mkf Qrt [.t 3])::aJ 7 Qc2 [.t 5,.t 6]::Qu8) [4] .ret
def Qasm:SC:=sR [vJ 3 1,fB 4 false] [0,3] Qajx
theorem Qaq9:mFn prog Qfr 2 9 Qasm Qm4=true:=by kernel_rfl
def Qne:List Item:=[oJ 7 6,mJ 3 7]
def Q7f:SC:=sR (tJ 4 5 2::lJ 5 1::aJ 6 Qud [.t 4,.t 5]::Qne) [3] .ret
def Qae1:SC:=sR [vJ 2 0,fB 3 false] [1,2] Q7f
theorem Qadp:mFn prog Qrt 2 8 Qae1 Q9g=true:=by kernel_rfl
def Qu9:List Item:=[mJ 4 17]
def Qajz:SC:=sR (lJ 16 5::aJ 17 Qqf [.t 16]::Qu9) [4] .ret
def Qaj0:SC:=sR [lJ 14 5,aJ 15 Qov [.t 14]] [5] Qajz
def Qaj1:SC:=sR [fJ 6 0 2,lJ 7 6,mJ 8 1,iJ 9 3 7 8,fJ 10 2 9,lJ 11 10,fI 12 (.mkf Qc5 [.t 5,.t 2]),aJ 13 Qe2 [.t 11,kI 1,.t 12]] [5] Qaj0
def Qaj2:SC:=sR [eI 5 (.alloc [.sl true 1 []])] [1,2,5] Qaj1
def Qaso:SC:=sR [vJ 2 0,fI 4 (.mv (.k (.c (.sl true 1 []))))] [1,2] Qaj2
theorem Qarb:mFn prog Qp4 2 18 Qaso Qm4=true:=by kernel_rfl
def Qng:List Item:=[sJ 4 7 14]
def Q7h:SC:=.reg [tJ 15 4 7,fI 16 (.mkf Qb1 [.t 2,.t 3]),aJ 17 Qhf [.t 15,.t 16]] [2,3,9,10,11]
def Q7i:SC:=.reg [cJ 18 .add 11 1,mJ 11 18] [2,3,9,10,11]
def Q7j:SC:=.seq (.block 1 (sR (iJ 13 4 9 11::tJ 14 4 13::eI 7 (.alloc [.int .i64 0,.int .i64 0,.str [],.sl true 4 []])::Qng) [2,3,7,9,10,11] Q7h)) Q7i
def Q44:SC:=sR [bJ 12 .lss 11 10] [2,3,9,10,11,12] (cX 12 0 Q7j)
def Q7k:SC:=sR [fJ 8 2 4,lJ 9 8,nJ 10 9,zJ 11 0] [2,3,9,10,11] (bL 0 Q44)
def Qae3:SC:=sR [vJ 4 0] [2,3,4] Q7k
theorem Qadr:mFn prog Qc5 4 19 Qae3 Qasa=true:=by kernel_rfl
def Qia:List Item:=[sJ 1 1 13]
def Qib:List Item:=hJ 7 1::fI 12 (.bsl 1 [.t 11])::xJ 13 1 7 12::Qia
def Qzc:SC:=cT 6 (.dreg 8 [0,1,2,3,4,0,5,6,7] ( lJ 7 1::tJ 8 1 2::fJ 9 2 3::lJ 10 9::aJ 11 Qk2 [.t 8,.t 10]::Qib) []) .skip
def Qzd:SC:=sR [fJ 4 0 3,lJ 5 4,cJ 6 .eql 5 13] [1,2,3,6] Qzc
def Q43:SC:=sR [vJ 3 0] [1,2,3] Qzd
theorem Q4k:mFn prog Qb1 3 14 Q43 Qasa=true:=by kernel_rfl
def Qie:List Item:=[sJ 5 7 19]
def Qif:List Item:=[sJ 4 9 26]
def Qze:SC:=.reg [mJ 27 0,tJ 28 4 9,mJ 29 2,aJ 30 Qfs [.t 27,.t 28,.t 29]] [0,2,7,14,15,16,21,22,23]
def Qzf:SC:=.reg [cJ 31 .add 23 1,mJ 23 31] [0,2,7,14,15,16,21,22,23]
def Qzg:SC:=.seq (.block 3 (sR (iJ 25 4 21 23::tJ 26 4 25::eI 9 (.alloc [.int .i64 0,.int .i64 0,.str [],.sl true 4 []])::Qif) [0,2,7,9,14,15,16,21,22,23] Qze)) Qzf
def Qvi:SC:=sR [bJ 24 .lss 23 22] [0,2,7,14,15,16,21,22,23,24] (cX 24 2 Qzg)
def Qzh:SC:=cT 46 (.reg [mJ 47 0,aJ 48 Qao [.t 47,kI 2]] [0,2,7,14,15,16]) .skip
def Qzi:SC:=sR [mJ 46 11] [0,2,7,14,15,16,46] Qzh
def Qjy:SC:=.dreg 7 [0,1,2,3,4,5,6] ( mJ 49 2::kJ 50 49::fJ 51 0 50::lJ 52 51::fJ 53 1 7::lJ 54 53::.e none none (.upd 1 (.t 52) (.t 54) (kI 0))::[]) [0,2,7,14,15,16]
def Qig:List Item:=[mJ 57 61,fI 62 (.ext (.t 57) 0),fI 63 (.ext (.t 57) 1),mJ 12 62,mJ 13 63]
def Qva:SC:=cT 65 (.reg [mJ 66 0,aJ 67 Qao [.t 66,kI 3]] [0,2,7,14,15,16]) .skip
def Qvb:SC:=sR [mJ 64 13,oJ 65 64] [0,2,7,14,15,16,65] Qva
def Qvc:SC:=cT 55 (sR (mJ 58 2::fJ 59 1 7::lJ 60 59::aJ 61 Qeu [.t 58,.t 60]::Qig) [0,2,7,13,14,15,16] Qvb) .skip
def Qvd:SC:=cT 34 (.seq (.seq (.dreg 12 [0,1,2,3,4,5,6,7,8,9,10,11] ( mJ 37 2::kJ 38 37::fJ 39 0 38::lJ 40 39::fJ 41 1 7::lJ 42 41::fI 43 (.lup2 1 (.c (.int .i64 0)) (.t 40) (.t 42))::mJ 36 43::fI 44 (.ext (.t 36) 0)::fI 45 (.ext (.t 36) 1)::mJ 10 44::mJ 11 45::[]) [0,2,7,11,14,15,16]) Qzi) Qjy) (sR [cJ 56 .eql 33 2,mJ 55 56] [0,2,7,14,15,16,55] Qvc)
def Qve:SC:=.block 4 (sR [cJ 35 .eql 33 1,mJ 34 35] [0,2,7,14,15,16,33,34] Qvd)
def Qgy:List Item:=[hJ 78 77,aJ 81 Qb2 [.t 76,.t 78,.t 80]]
def Qgz:List Item:=[hJ 84 83,aJ 87 Qb2 [.t 82,.t 84,.t 86]]
def Qvf:SC:=.dreg 6 [0,1,2,3,4,2,5] ( mJ 82 0::fJ 83 4 7::lJ 84 83::mJ 85 2::aJ 86 Qc6 [.t 85]::Qgz) [0,2,14,15,16]
def Qvg:SC:=cT 75 (.seq (.dreg 6 [0,1,2,3,4,2,5] ( mJ 76 0::fJ 77 3 7::lJ 78 77::mJ 79 2::aJ 80 Qc6 [.t 79]::Qgy) [0,2,7,14,15,16]) Qvf) .skip
def Qd0:SC:=sR [fJ 68 0 7,lJ 69 68,cJ 70 .eql 69 5,mJ 71 70,gFf 72 71 0 7,gFl 73 71 72,gF 74 71 (.bin 0 .eql (.t 73) (kI 6)),pT 75 71 74] [0,2,7,14,15,16,75] Qvg
def Qd1:SC:=.seq (sR [fJ 32 0 7,lJ 33 32] [0,2,7,14,15,16,33] Qve) Qd0
def Qic:SC:=.seq (sR [fJ 20 2 7,lJ 21 20,nJ 22 21,zJ 23 0] [0,2,7,14,15,16,21,22,23] (bL 2 Qvi)) Qd1
def Qid:SC:=.reg [cJ 88 .add 16 1,mJ 16 88] [0,2,14,15,16]
def Qvh:SC:=.seq (.block 1 (sR (iJ 18 5 14 16::tJ 19 5 18::eI 7 (.alloc [.int .i64 0,.str [],.sl true 4 [],.sl true 5 [],.sl true 5 []])::Qie) [0,2,7,14,15,16] Qic)) Qid
def Qsy:SC:=sR [bJ 17 .lss 16 15] [0,2,14,15,16,17] (cX 17 0 Qvh)
def Q45:SC:=sR [mJ 14 1,nJ 15 14,zJ 16 0] [0,2,14,15,16] (bL 0 Qsy)
theorem Q4l:mFn prog Qb2 3 89 Q45 Qasa=true:=by kernel_rfl
def Q13:SC:=.reg [tJ 6 4 4,fI 7 (.mkf Qcc [.t 5,.t 3]),aJ 8 Qhf [.t 6,.t 7]] []
def Q7l:SC:=sR [vJ 3 0,vJ 4 1,vJ 5 2] [3,4,5] Q13
theorem Q6o:mFn prog Qfs 3 9 Q7l Qasa=true:=by kernel_rfl
def Qgh:List Item:=[mJ 11 15,fI 16 (.ext (.t 11) 0),fI 17 (.ext (.t 11) 1),mJ 4 16,mJ 5 17]
def Qsz:SC:=cT 19 (.reg [lJ 20 2,aJ 21 Qao [.t 20,kI 3]] []) .skip
def Qs0:SC:=sR [mJ 18 5,oJ 19 18] [2,19] Qsz
def Qgi:List Item:=[mJ 6 37]
def Qs1:SC:=cT 55 (.reg [lJ 56 2,aJ 57 Qao [.t 56,kI 5]] []) .skip
def Qs2:SC:=cT 39 (.reg [lJ 40 2,aJ 41 Qao [.t 40,kI 4]] []) (.seq (.dreg 14 [0,1,2,3,4,5,6,7,8,9,10,11,12,13] ( lJ 42 2::kJ 43 42::fJ 44 0 43::fJ 45 0 44::lJ 46 45::mJ 47 6::iJ 48 3 46 47::fJ 49 1 48::lJ 50 49::nJ 51 50::fJ 52 3 3::lJ 53 52::nJ 54 53::bJ 55 .neq 51 54::[]) [2,55]) Qs1)
def Qs3:SC:=sR [mJ 38 6,cJ 39 .lss 38 0] [2,3,6,39] Qs2
def Qs4:SC:=cT 22 (.seq (.dreg 15 [0,1,2,3,4,5,6,7,8,9,10,11,12,13,14] ( lJ 24 2::kJ 25 24::fJ 26 0 25::fJ 27 0 26::lJ 28 27::lJ 29 2::kJ 30 29::fJ 31 1 30::lJ 32 31::fI 33 (.sli 3 (.t 28) none (some (.t 32)))::fI 34 (.bld [.sl true 3 []] [(0,1,.t 33)])::fJ 35 2 3::lJ 36 35::aJ 37 Qk2 [.t 34,.t 36]::Qgi) [2,3,6]) Qs3) .skip
def Qs5:SC:=cT 9 (sR (lJ 12 1::fJ 13 2 3::lJ 14 13::aJ 15 Qeu [.t 12,.t 14]::Qgh) [2,5] Qs0) (sR [cJ 23 .eql 8 13,mJ 22 23] [2,3,22] Qs4)
def Qs6:SC:=.block 0 (sR [cJ 10 .eql 8 2,mJ 9 10] [1,2,3,8,9] Qs5)
def Qqx:SC:=sR [fJ 7 0 3,lJ 8 7] [1,2,3,8] Qs6
def Qzj:SC:=sR [vJ 3 0] [1,2,3] Qqx
theorem Qyt:mFn prog Qcc 3 58 Qzj Qasa=true:=by kernel_rfl
def Q14:SC:=cT 8 (.reg [mJ 9 0,mJ 10 1,kJ 11 9,fJ 12 2 11,sJ 1 12 10] []) .skip
def Q7m:SC:=sR [mJ 4 0,kJ 5 4,fJ 6 2 5,lJ 7 6,cJ 8 .eql 7 0] [0,1,8] Q14
theorem Q6p:mFn prog Qao 2 13 Q7m Qasa=true:=by kernel_rfl
def Qpc:List Item:=[eI 2 (.alloc [.int .i64 0,.int .i64 0,.str [],.sl true 4 []])]
def Qpd:List Item:=[fJ 6 3 1,sJ 1 6 5]
def Qaa2:SC:=sR [tJ 7 4 1,sJ 4 2 7] [2] .ret
def Qaa3:SC:=sR (fJ 3 3 1::lJ 4 3::eI 5 (.call Qb5 [.t 4,.k (.c (.fn Qft []))])::Qpd) [1,2] Qaa2
def Qaj3:SC:=sR (eI 1 (.boxm (.t 0))::Qpc) [1,2] Qaa3
theorem Qajp:mFn prog Qft 1 8 Qaj3 Q9m=true:=by kernel_rfl
def Qvj:List Item:=[eI 2 (.alloc [.str [],.sl true 1 [],.sl true 5 []])]
def Qvk:List Item:=[fJ 6 1 1,sJ 1 6 5]
def Qvl:List Item:=[fJ 10 2 1,sJ 1 10 9]
def Qaj4:SC:=sR [tJ 11 3 1,sJ 3 2 11] [2] .ret
def Qaj5:SC:=sR (fJ 7 2 1::lJ 8 7::eI 9 (.call Qba [.t 8,.k (.c (.fn Qdq []))])::Qvl) [1,2] Qaj4
def Qaj6:SC:=sR (fJ 3 1 1::lJ 4 3::aJ 5 Qfv [.t 4]::Qvk) [1,2] Qaj5
def Qasp:SC:=sR (eI 1 (.boxm (.t 0))::Qvj) [1,2] Qaj6
def Q9j:List RS:=[.cell 2 3 true]
theorem Qarc:mFn prog Qp5 1 12 Qasp Q9j=true:=by kernel_rfl
def Qpe:List Item:=[eI 2 (.alloc [.int .i64 0,.str [],.sl true 4 [],.sl true 5 [],.sl true 5 []])]
def Qpf:List Item:=[fJ 6 2 1,sJ 1 6 5]
def Qpg:List Item:=[fJ 10 3 1,sJ 1 10 9]
def Qph:List Item:=[fJ 14 4 1,sJ 1 14 13]
def Qaa4:SC:=sR [tJ 15 5 1,sJ 5 2 15] [2] .ret
def Qaa5:SC:=sR (fJ 11 4 1::lJ 12 11::eI 13 (.call Qba [.t 12,.k (.c (.fn Qdq []))])::Qph) [1,2] Qaa4
def Qaa6:SC:=sR (fJ 7 3 1::lJ 8 7::eI 9 (.call Qba [.t 8,.k (.c (.fn Qdq []))])::Qpg) [1,2] Qaa5
def Qaa7:SC:=sR (fJ 3 2 1::lJ 4 3::eI 5 (.call Qb5 [.t 4,.k (.c (.fn Qft []))])::Qpf) [1,2] Qaa6
def Qaj7:SC:=sR (eI 1 (.boxm (.t 0))::Qpe) [1,2] Qaa7
def Q03:List RS:=[.cell 2 5 true]
theorem Qajq:mFn prog Qdq 1 16 Qaj7 Q03=true:=by kernel_rfl
def Qr3:List Item:=[oJ 23 22,mJ 24 23,gFf 25 24 2 2,gFl 26 24 25,gF 27 24 (.bin 0 .neq (.t 26) (.k (.c (.str [])))),pT 28 24 27]
def Qae8:SC:=cT 28 (sR [zJ 4 0,zJ 5 0,fB 6 false] [4,5,6] .ret) .skip
def Qr4:List Item:=[oJ 36 35,mJ 37 36,gFf 38 37 1 2,gFl 39 37 38,gF 40 37 (.bin 0 .neq (.t 39) (kI 0)),pT 41 37 40]
def Qae9:SC:=cT 41 (sR [zJ 4 0,zJ 5 0,fB 6 false] [4,5,6] .ret) .skip
def Qr5:List Item:=[oJ 49 48,mJ 50 49,gFf 51 50 1 2,gFl 52 50 51,gF 53 50 (.bin 0 .neq (.t 52) (kI 0)),pT 54 50 53]
def Qafa:SC:=cT 54 (sR [zJ 4 0,zJ 5 0,fB 6 false] [4,5,6] .ret) .skip
def Qafb:SC:=sR (fJ 46 2 2::lJ 47 46::aJ 48 Qdo [.t 47]::Qr5) [1,2,7,8,54] Qafa
def Qafc:SC:=cT 62 (.reg [zJ 7 1,zJ 8 1] [1,2,7,8]) (sR [zJ 4 0,zJ 5 0,fB 6 false] [4,5,6] .ret)
def Qafd:SC:=cT 55 (.reg [zJ 7 2,zJ 8 2] [1,2,7,8]) (sR [fJ 63 0 2,lJ 64 63,cJ 65 .eql 64 11,mJ 66 65,gFf 67 66 0 2,gFl 68 66 67,gF 69 66 (.bin 0 .eql (.t 68) (kI 12)),pT 70 66 69,mJ 62 70] [1,2,62] Qafc)
def Qafe:SC:=cT 42 (sR [zJ 8 3] [1,2,7,8] Qafb) (sR [fI 56 (.ldo Qbb Qbb),fJ 57 0 2,lJ 58 57,fI 59 (.lup 0 (.ag [.str [],.int .i64 0]) (.t 56) (.t 58)),fI 60 (.fld 1 1 false (.t 59)),cJ 61 .gtr 60 0,mJ 55 61] [1,2,55] Qafd)
def Qabd:SC:=cT 29 (sR (fJ 33 2 2::lJ 34 33::aJ 35 Qdo [.t 34]::Qr4) [1,2,7,8,41] Qae9) (sR [fJ 43 0 2,lJ 44 43,cJ 45 .eql 44 13,mJ 42 45] [1,2,7,42] Qafe)
def Qr1:SC:=cT 16 (sR (fJ 20 1 2::lJ 21 20::aJ 22 Qh4 [.t 21]::Qr3) [1,2,7,8,28] Qae8) (sR [fJ 30 0 2,lJ 31 30,cJ 32 .eql 31 2,mJ 29 32] [1,2,7,8,29] Qabd)
def Qhq:List Item:=[gF 92 85 (.not (.t 91)),pT 93 85 92,mJ 94 93,gFm 95 94 1,gF 96 94 (.bin 0 .lss (.t 95) (kI 1)),pT 97 94 96]
def Qpi:List Item:=cJ 74 .lss 73 6::mJ 75 74::gTf 76 75 1 2::gTl 77 75 76::gT 78 75 (.bin 0 .neq (.t 77) (kI 0))::gTm 79 75 78::gFf 80 79 2 2::gFl 81 79 80::gF 82 79 (.bin 0 .neq (.t 81) (.k (.c (.str []))))::gT 83 75 (.pick (.t 79) (.k (.c (.bool true))) (.t 82))::pF 84 75 83::mJ 85 84::gFf 86 85 3 2::gFl 87 85 86::gF 88 85 (.len (.t 87))::gFm 89 85 7::gFm 90 85 8::.e (some 91) (some (85,false)) (.call Qcx [.t 88,.t 89,.t 90])::Qhq
def s_im_exprSize_14:SC:=cT 97 (sR [zJ 4 0,zJ 5 0,fB 6 false] [4,5,6] .ret) .skip
def Qpj:List Item:=[sJ 4 12 104]
def Qpk:List Item:=[mJ 105 109,fI 110 (.ext (.t 105) 0),fI 111 (.ext (.t 105) 1),fI 112 (.ext (.t 105) 2),mJ 13 110,mJ 14 111,mJ 15 112]
def Qabe:SC:=cT 114 (sR [zJ 4 0,zJ 5 0,fB 6 false] [4,5,6] .ret) .skip
def Qabf:SC:=.reg [mJ 118 10,mJ 119 14,cJ 120 .add 119 1,fI 121 (.mx (.t 118) (.t 120)),mJ 10 121] [1,9,10,99,100,101]
def Qabg:SC:=sR [mJ 115 9,mJ 116 13,bJ 117 .add 115 116,mJ 9 117] [1,9,10,14,99,100,101] Qabf
def Qabh:SC:=.seq (sR [mJ 113 15,oJ 114 113] [1,9,10,13,14,99,100,101,114] Qabe) Qabg
def Qabi:SC:=sR (tJ 106 4 12::mJ 107 1::cJ 108 .sub 107 1::aJ 109 Qhx [.t 106,.t 108]::Qpk) [1,9,10,13,14,15,99,100,101] Qabh
def Qabj:SC:=.reg [cJ 122 .add 101 1,mJ 101 122] [1,9,10,99,100,101]
def Qabk:SC:=.seq (.block 2 (sR (iJ 103 4 99 101::tJ 104 4 103::eI 12 (.alloc [.int .i64 0,.int .i64 0,.str [],.sl true 4 []])::Qpj) [1,9,10,12,99,100,101] Qabi)) Qabj
def Q7t:SC:=sR [bJ 102 .lss 101 100] [1,9,10,99,100,101,102] (cX 102 1 Qabk)
def Qabl:SC:=sR [mJ 123 9,mJ 124 10,mJ 125 9,cJ 126 .leq 125 30,mJ 4 123,mJ 5 124,mJ 6 126] [4,5,6] .ret
def Qabm:SC:=.seq (sR [fJ 98 3 2,lJ 99 98,nJ 100 99,zJ 101 0] [1,9,10,99,100,101] (bL 1 Q7t)) Qabl
def Qr2:SC:=sR [zJ 9 1,zJ 10 1] [1,2,9,10] Qabm
def Qabn:SC:=.seq (sR (fJ 71 0 2::lJ 72 71::aJ 73 Qp7 [.t 72]::Qpi) [1,2,97] s_im_exprSize_14) Qr2
def Qabo:SC:=.seq (.block 0 (sR [fJ 17 0 2,lJ 18 17,cJ 19 .eql 18 1,mJ 16 19] [1,2,7,8,16] Qr1)) Qabn
def Qabp:SC:=sR [zJ 7 0,zJ 8 0] [1,2,7,8] Qabo
def Qapi:SC:=sR [vJ 2 0,zJ 4 0,zJ 5 0,fB 6 false] [1,2] Qabp
def Qga:List RS:=[.tmp 4,.tmp 5,.tmp 6]
theorem Qaoq:mFn prog Qhx 2 127 Qapi Qga=true:=by kernel_rfl
def Q9q:List Item:=[cJ 5 .eql 4 0,mJ 2 5]
def Qaws:SC:=sR (tJ 3 1 1::aJ 4 Qfn [.t 3]::Q9q) [2] .ret
def Qa8o:SC:=sR [vJ 1 0,fB 2 false] [1] Qaws
theorem Qa7k:mFn prog Qot 1 6 Qa8o Qcu=true:=by kernel_rfl
def Qakf:SC:=cT 13 (sR [zJ 2 5] [2] .ret) .skip
def Qakg:SC:=cT 3 (sR [fI 9 (.ldo Qbb Qbb),mJ 10 0,fI 11 (.lup 0 (.ag [.str [],.int .i64 0]) (.t 9) (.t 10)),fI 12 (.fld 1 1 false (.t 11)),mJ 2 12] [2] .ret) (sR [mJ 14 0,cJ 15 .eql 14 11,mJ 16 15,gFm 17 16 0,gF 18 16 (.bin 0 .eql (.t 17) (kI 12)),pT 19 16 18,mJ 13 19] [13] Qakf)
def Qakh:SC:=sR [zJ 2 6] [2] .ret
def Qaki:SC:=.seq (.block 0 (sR [fI 4 (.ldo Qbb Qbb),mJ 5 0,fI 6 (.lup 0 (.ag [.str [],.int .i64 0]) (.t 4) (.t 5)),fI 7 (.fld 1 1 false (.t 6)),cJ 8 .gtr 7 0,mJ 3 8] [0,3] Qakg)) Qakh
def Qass:SC:=sR [zJ 2 0] [0] Qaki
theorem Qare:mFn prog Qp7 1 20 Qass Qcu=true:=by kernel_rfl
def Qff:List Item:=[sJ 4 7 13]
def Qfg:List Item:=[mJ 5 19]
def Qfh:List Item:=fI 18 (.bsl 4 [.t 17])::xJ 19 4 14 18::Qfg
def Qqy:SC:=.reg (mJ 14 5::mJ 15 1::tJ 16 4 7::eI 17 (.callv (.t 15) [.t 16])::Qfh) [1,5,8,9,10]
def Qqz:SC:=.reg [cJ 20 .add 10 1,mJ 10 20] [1,5,8,9,10]
def Qq0:SC:=.seq (.block 1 (sR (iJ 12 4 8 10::tJ 13 4 12::eI 7 (.alloc [.int .i64 0,.int .i64 0,.str [],.sl true 4 []])::Qff) [1,5,7,8,9,10] Qqy)) Qqz
def Qpl:SC:=sR [bJ 11 .lss 10 9] [1,5,8,9,10,11] (cX 11 0 Qq0)
def Qq1:SC:=sR [mJ 21 5,mJ 4 21] [4] .ret
def Qq2:SC:=.seq (sR [mJ 8 0,nJ 9 8,zJ 10 0] [1,5,8,9,10] (bL 0 Qpl)) Qq1
def Qq3:SC:=sR [fI 5 (.mv (.k (.c (.sl true 4 []))))] [0,1,5] Qq2
def Qvp:SC:=sR [fI 4 (.mv (.k (.c (.sl true 4 []))))] [0,1] Qq3
theorem Quk:mFn prog Qb5 2 22 Qvp Qm4=true:=by kernel_rfl
def Qfi:List Item:=[sJ 5 7 13]
def Qfj:List Item:=[mJ 5 19]
def Qfk:List Item:=fI 18 (.bsl 5 [.t 17])::xJ 19 5 14 18::Qfj
def Qq4:SC:=.reg (mJ 14 5::mJ 15 1::tJ 16 5 7::eI 17 (.callv (.t 15) [.t 16])::Qfk) [1,5,8,9,10]
def Qq5:SC:=.reg [cJ 20 .add 10 1,mJ 10 20] [1,5,8,9,10]
def Qq6:SC:=.seq (.block 1 (sR (iJ 12 5 8 10::tJ 13 5 12::eI 7 (.alloc [.int .i64 0,.str [],.sl true 4 [],.sl true 5 [],.sl true 5 []])::Qfi) [1,5,7,8,9,10] Qq4)) Qq5
def Qpm:SC:=sR [bJ 11 .lss 10 9] [1,5,8,9,10,11] (cX 11 0 Qq6)
def Qq7:SC:=sR [mJ 21 5,mJ 4 21] [4] .ret
def Qq8:SC:=.seq (sR [mJ 8 0,nJ 9 8,zJ 10 0] [1,5,8,9,10] (bL 0 Qpm)) Qq7
def Qq9:SC:=sR [fI 5 (.mv (.k (.c (.sl true 5 []))))] [0,1,5] Qq8
def Qvq:SC:=sR [fI 4 (.mv (.k (.c (.sl true 5 []))))] [0,1] Qq9
theorem Qul:mFn prog Qba 2 22 Qvq Qm4=true:=by kernel_rfl
def Qih:List Item:=[mJ 5 19]
def Qii:List Item:=fI 18 (.bsl 3 [.t 17])::xJ 19 3 14 18::Qih
def Qzk:SC:=.reg (mJ 14 5::mJ 15 1::mJ 16 7::eI 17 (.callv (.t 15) [.t 16])::Qii) [1,5,8,9,10]
def Qzl:SC:=.reg [cJ 20 .add 10 1,mJ 10 20] [1,5,8,9,10]
def Qzm:SC:=.seq (.block 1 (sR [iJ 12 1 8 10,lJ 13 12,mJ 7 13] [1,5,7,8,9,10] Qzk)) Qzl
def Qvr:SC:=sR [bJ 11 .lss 10 9] [1,5,8,9,10,11] (cX 11 0 Qzm)
def Qzn:SC:=sR [mJ 21 5,mJ 4 21] [4] .ret
def Qzo:SC:=.seq (sR [mJ 8 0,nJ 9 8,zJ 10 0] [1,5,8,9,10] (bL 0 Qvr)) Qzn
def Qzp:SC:=sR [fI 5 (.mv (.k (.c (.sl true 3 []))))] [0,1,5] Qzo
def Q48:SC:=sR [fI 4 (.mv (.k (.c (.sl true 3 []))))] [0,1] Qzp
theorem Q4m:mFn prog Qe0 2 22 Q48 Qm4=true:=by kernel_rfl
def Qvv:List Item:=[eI 3 (.alloc [.int .i64 0])]
def Qvw:List Item:=[sJ 3 5 12]
def Qakj:SC:=.reg [fJ 13 2 5,lJ 14 13,fI 15 (.mkf Qi3 [.t 2,.t 3]),aJ 16 Qe2 [.t 14,kI 1,.t 15]] [2,3,7,8,9]
def Qakk:SC:=.reg [cJ 17 .add 9 1,mJ 9 17] [2,3,7,8,9]
def Qakl:SC:=.seq (.block 1 (sR (iJ 11 3 7 9::tJ 12 3 11::eI 5 (.alloc [.str [],.sl true 1 [],.sl true 5 []])::Qvw) [2,3,5,7,8,9] Qakj)) Qakk
def Qafg:SC:=sR [bJ 10 .lss 9 8] [2,3,7,8,9,10] (cX 10 0 Qakl)
def Qvx:List Item:=[hJ 19 3,sJ 1 3 19]
def Qakm:SC:=.seq (.dreg 4 [0,1,2,1,3] ( lJ 18 2::lJ 19 3::sJ 1 2 18::Qvx) [2,3]) .ret
def Qakn:SC:=.seq (sR [fJ 6 0 1,lJ 7 6,nJ 8 7,zJ 9 0] [2,3,7,8,9] (bL 0 Qafg)) Qakm
def Qast:SC:=sR (vJ 1 0::eI 2 (.alloc [.int .i64 0])::Qvv) [1,2,3] Qakn
def Q9l:List RS:=[.cell 2 1 false,.cell 3 1 false]
theorem Qarf:mFn prog Qp8 1 20 Qast Q9l=true:=by kernel_rfl
def Q7z:SC:=.reg [lJ 8 3,mJ 9 1,fI 10 (.mx (.t 8) (.t 9)),sJ 1 3 10] []
def Q70:SC:=sR [lJ 6 2,cJ 7 .add 6 1,sJ 1 2 7] [1,3] Q7z
def Qaff:SC:=sR [vJ 4 0] [1,2,3] Q70
theorem Qadu:mFn prog Qi3 4 11 Qaff Qasa=true:=by kernel_rfl
def Qra:List Item:=[sJ 4 5 15]
def Qasu:SC:=.reg [tJ 16 4 5,mJ 17 1,aJ 18 Qhf [.t 16,.t 17]] [1,10,11,12]
def Qasv:SC:=.reg [cJ 19 .add 12 1,mJ 12 19] [1,10,11,12]
def Qasw:SC:=.seq (.block 1 (sR (iJ 14 4 10 12::tJ 15 4 14::eI 5 (.alloc [.int .i64 0,.int .i64 0,.str [],.sl true 4 []])::Qra) [1,5,10,11,12] Qasu)) Qasv
def Qapk:SC:=sR [bJ 13 .lss 12 11] [1,10,11,12,13] (cX 13 0 Qasw)
def Qasx:SC:=sR [fJ 9 3 2,lJ 10 9,nJ 11 10,zJ 12 0] [1,10,11,12] (bL 0 Qapk)
def Qasy:SC:=sR [mJ 6 1,tJ 7 4 2,eI 8 (.callv (.t 6) [.t 7])] [1,2] Qasx
def Qa2z:SC:=sR [vJ 2 0] [1,2] Qasy
theorem Qam0:mFn prog Qhf 2 20 Qa2z Qasa=true:=by kernel_rfl
def Q74:SC:=cT 23 (sR [mJ 24 6,mJ 4 24,fB 5 true] [4,5] .ret) .skip
def Q75:SC:=sR [mJ 23 7] [0,1,6,23] Q74
def Q76:SC:=.reg [mJ 10 0,kJ 11 10,fJ 12 1 11,lJ 13 12,mJ 0 13] [0,1]
def Q77:SC:=.seq (.block 1 (sR [mJ 15 0,kJ 16 15,fJ 17 0 16,lJ 18 17,mJ 19 1,fI 20 (.lup2 1 (.c (.int .i64 0)) (.t 18) (.t 19)),mJ 14 20,fI 21 (.ext (.t 14) 0),fI 22 (.ext (.t 14) 1),mJ 6 21,mJ 7 22] [0,1,6,7] Q75)) Q76
def Q5d:SC:=.seq (sR [mJ 8 0,fI 9 (.bin 2 .neq (.t 8) (.k (.c .pnil)))] [0,1,9] (cT 9 .skip (.exit 0))) Q77
def Q78:SC:=sR [zJ 4 0,fB 5 false] [4,5] .ret
def Qafi:SC:=sR [zJ 4 0,fB 5 false] [0,1] (.seq (bL 0 Q5d) Q78)
def Qll:List RS:=[.tmp 4,.tmp 5]
theorem Qadw:mFn prog Qeu 2 25 Qafi Qll=true:=by kernel_rfl
def Qno:List Item:=[mJ 4 0,fI 5 (.bld [.mnil,.pnil] [(0,1,.t 3),(1,1,.t 4)]),vJ 6 5,mJ 2 6]
def Q79:SC:=sR (eI 3 (.mkm)::Qno) [2] .ret
def Qafj:SC:=sR [fI 2 (.mv (.k (.c .pnil)))] [0] Q79
theorem Qadx:mFn prog Qc6 1 7 Qafj Qcu=true:=by kernel_rfl
def Q05:List Item:=[mJ 11 14,fI 15 (.ext (.t 11) 0),fI 16 (.ext (.t 11) 1),fI 17 (.ext (.t 11) 2),fI 18 (.ext (.t 11) 3),mJ 5 15,mJ 6 16,mJ 7 17,mJ 8 18]
def Qoq:List Item:=[gT 32 28 (.not (.t 31)),pF 33 28 32,mJ 19 33]
def Qapl:SC:=cT 19 .skip (.reg [fJ 57 0 2,lJ 58 57,cJ 59 .eql 58 8,mJ 60 59,gTf 61 60 2 2,gTl 62 60 61,gT 63 60 (.iad 4 (.t 62) (kI 0)),gTf 64 60 0 63,gTl 65 60 64,gT 66 60 (.bin 0 .neq (.t 65) (kI 13)),pF 67 60 66,mJ 19 67] [1,2,19])
def Qapm:SC:=cT 19 .skip (sR [mJ 49 8,oJ 50 49,mJ 51 50,gTf 52 51 4 2,gTl 53 51 52,gT 54 51 (.len (.t 53)),gT 55 51 (.bin 0 .gtr (.t 54) (kI 0)),pF 56 51 55,mJ 19 56] [1,2,19] Qapl)
def Qapn:SC:=cT 19 .skip (sR [mJ 41 7,oJ 42 41,mJ 43 42,gTf 44 43 3 2,gTl 45 43 44,gT 46 43 (.len (.t 45)),gT 47 43 (.bin 0 .gtr (.t 46) (kI 0)),pF 48 43 47,mJ 19 48] [1,2,8,19] Qapm)
def Q5e:SC:=cT 19 .skip (sR [mJ 34 6,oJ 35 34,mJ 36 35,gTf 37 36 1 2,gTl 38 36 37,gT 39 36 (.bin 0 .neq (.t 38) (.k (.c (.str [])))),pF 40 36 39,mJ 19 40] [1,2,7,8,19] Qapn)
def Qapo:SC:=cT 19 .skip (sR (mJ 27 6::mJ 28 27::gTf 29 28 1 2::gTl 30 28 29::.e (some 31) (some (28,true)) (.call Qdo [.t 30])::Qoq) [1,2,6,7,8,19] Q5e)
def Q5f:SC:=cT 19 .skip (sR [fJ 22 2 2,lJ 23 22,nJ 24 23,mJ 25 5,bJ 26 .neq 24 25,mJ 19 26] [1,2,6,7,8,19] Qapo)
def Qapp:SC:=cT 19 (sR [fB 4 false] [4] .ret) .skip
def Q06:List Item:=[sJ 4 10 74]
def Qvy:List Item:=[oJ 77 76]
def Qako:SC:=cT 77 (sR [fB 4 false] [4] .ret) .skip
def Qakp:SC:=sR (tJ 75 4 10::aJ 76 Qle [.t 75]::Qvy) [1,2,69,70,71,77] Qako
def Qakq:SC:=.reg [cJ 78 .add 71 1,mJ 71 78] [1,2,69,70,71]
def Qakr:SC:=.seq (.block 2 (sR (iJ 73 4 69 71::tJ 74 4 73::eI 10 (.alloc [.int .i64 0,.int .i64 0,.str [],.sl true 4 []])::Q06) [1,2,10,69,70,71] Qakp)) Qakq
def Qafk:SC:=sR [bJ 72 .lss 71 70] [1,2,69,70,71,72] (cX 72 1 Qakr)
def Qlz:List Item:=[pF 90 84 89,mJ 4 90]
def Ql0:List Item:=mJ 84 83::gTf 85 84 4 2::gTl 86 84 85::gTm 87 84 1::gT 88 84 (.bin 0 .add (.t 87) (kI 1))::.e (some 89) (some (84,true)) (.call Qfr [.t 86,.t 88])::Qlz
def Qaks:SC:=sR (fJ 79 3 2::lJ 80 79::mJ 81 1::cJ 82 .add 81 1::aJ 83 Qfr [.t 80,.t 82]::Ql0) [4] .ret
def Qakt:SC:=.seq (sR [fJ 68 2 2,lJ 69 68,nJ 70 69,zJ 71 0] [1,2,69,70,71] (bL 1 Qafk)) Qaks
def Qaku:SC:=.seq (.block 0 (.seq (sR [mJ 20 1,cJ 21 .gtr 20 4,mJ 19 21] [1,2,5,6,7,8,19] Q5f) Qapp)) Qakt
def Qakv:SC:=sR (fJ 12 0 2::lJ 13 12::aJ 14 Qod [.t 13]::Q05) [1,2,5,6,7,8] Qaku
def Qawu:SC:=sR [vJ 2 0,fB 4 false] [1,2] Qakv
theorem Qawd:mFn prog Qud 2 91 Qawu Qm4=true:=by kernel_rfl
def Qrc:List Item:=[sJ 5 7 13]
def Qasz:SC:=.reg [fJ 24 4 7,lJ 25 24,mJ 26 1,cJ 27 .add 26 1,mJ 28 2,aJ 29 Qe2 [.t 25,.t 27,.t 28]] [1,2,8,9,10]
def Qas0:SC:=sR [fJ 18 3 7,lJ 19 18,mJ 20 1,cJ 21 .add 20 1,mJ 22 2,aJ 23 Qe2 [.t 19,.t 21,.t 22]] [1,2,7,8,9,10] Qasz
def Qas1:SC:=sR [mJ 14 2,tJ 15 5 7,mJ 16 1,eI 17 (.callv (.t 14) [.t 15,.t 16])] [1,2,7,8,9,10] Qas0
def Qas2:SC:=.reg [cJ 30 .add 10 1,mJ 10 30] [1,2,8,9,10]
def Qas3:SC:=.seq (.block 1 (sR (iJ 12 5 8 10::tJ 13 5 12::eI 7 (.alloc [.int .i64 0,.str [],.sl true 4 [],.sl true 5 [],.sl true 5 []])::Qrc) [1,2,7,8,9,10] Qas1)) Qas2
def Qapq:SC:=sR [bJ 11 .lss 10 9] [1,2,8,9,10,11] (cX 11 0 Qas3)
def Qa20:SC:=sR [mJ 8 0,nJ 9 8,zJ 10 0] [1,2,8,9,10] (bL 0 Qapq)
theorem Qam1:mFn prog Qe2 3 31 Qa20 Qasa=true:=by kernel_rfl
def Qam8:List Item:=[sJ 4 5 11]
def Qam9:List Item:=eI 5 (.alloc [.int .i64 0,.int .i64 0,.str [],.sl true 4 []])::Qam8
def Qana:List Item:=[cJ 14 .gtr 13 0]
def Qa81:SC:=cT 14 (sR [tJ 15 4 5,sJ 4 4 15] [4] .ret) .skip
def Qanb:List Item:=[sJ 4 6 19]
def Qanc:List Item:=fI 19 (.bld [.int .i64 0,.int .i64 0,.str [],.sl true 4 []] [(0,1,kI 13),(2,1,.t 18)])::eI 6 (.alloc [.int .i64 0,.int .i64 0,.str [],.sl true 4 []])::Qanb
def Qand:List Item:=[mJ 7 21]
def Qane:List Item:=[fJ 33 3 6,sJ 1 33 32]
def Qanf:List Item:=hJ 27 26::fI 31 (.bsl 4 [.t 30])::xJ 32 4 27 31::Qane
def Qa82:SC:=.reg [mJ 24 7,cJ 25 .sub 24 1,mJ 7 25] [0,4,5,6,7]
def Qa23:SC:=.seq (.block 1 (.dreg 9 [0,1,2,3,4,1,5,6,7,8] ( fJ 26 3 6::lJ 27 26::mJ 28 0::fI 29 (.bsl 1 [.k (.c (.str [97])),.k (.c (.str [98]))])::aJ 30 Qdr [.t 28,.t 29,kI 2]::Qanf) [0,4,5,6,7])) Qa82
def Qaw2:SC:=.seq (sR [mJ 22 7,cJ 23 .gtr 22 0] [0,4,5,6,7,23] (cT 23 .skip (.exit 0))) Qa23
def Qafl:List Item:=[cJ 36 .eql 35 0]
def Qa24:SC:=cT 36 (sR [tJ 37 4 6,sJ 4 4 37] [4] .ret) .skip
def Qa25:SC:=.seq (.seq .gh (.reg [tJ 38 4 5,tJ 39 4 6,fI 40 (.bsl 4 [.t 38,.t 39]),fI 41 (.bld [.int .i64 0,.int .i64 0,.str [],.sl true 4 []] [(0,1,kI 3),(3,1,.t 40)]),sJ 4 4 41] [4])) .ret
def Qa26:SC:=.seq (sR (mJ 34 0::aJ 35 Qz [.t 34,kI 2]::Qafl) [4,5,6,36] Qa24) Qa25
def Qa27:SC:=.seq (sR (mJ 20 0::aJ 21 Qz [.t 20,kI 4]::Qand) [0,4,5,6,7] (bL 0 Qaw2)) Qa26
def Qa28:SC:=sR (mJ 16 0::fI 17 (.bsl 1 [.k (.c (.str [102])),.k (.c (.str [103])),.k (.c (.str [97]))])::aJ 18 Qbd [.t 16,.t 17]::Qanc) [0,4,5,6] Qa27
def Qa29:SC:=.seq (sR (mJ 12 0::aJ 13 Qz [.t 12,kI 3]::Qana) [0,4,5,14] Qa81) Qa28
def Qa3a:SC:=sR (mJ 8 0::fI 9 (.bsl 1 [.k (.c (.str [97])),.k (.c (.str [98])),.k (.c (.str [120])),.k (.c (.str [103,111]))])::mJ 10 1::aJ 11 Qdr [.t 8,.t 9,.t 10]::Qam9) [0,4,5] Qa29
def Qbhw:SC:=sR [eI 4 (.alloc [.int .i64 0,.int .i64 0,.str [],.sl true 4 []])] [0,1,4] Qa3a
theorem Qbhe:mFn prog Qyi 2 42 Qbhw Qm5=true:=by kernel_rfl
def Qafn:List Item:=[sJ 4 3 5]
def Qafo:List Item:=eI 3 (.alloc [.int .i64 0,.int .i64 0,.str [],.sl true 4 []])::Qafn
def Qafp:List Item:=[fJ 13 1 3,sJ 1 13 12]
def Qafq:List Item:=[fJ 19 2 3,sJ 1 19 18]
def Qafr:List Item:=[fJ 25 0 3,sJ 1 25 24]
def Qafs:List Item:=[fJ 34 3 3,sJ 1 34 33]
def Qaft:List Item:=hJ 29 28::fI 32 (.bsl 4 [.t 31])::xJ 33 4 29 32::Qafs
def Qafu:List Item:=[sJ 4 3 38]
def Qa3b:SC:=cT 35 (.reg (mJ 37 0::aJ 38 Qyi [.t 37,kI 7]::Qafu) [2,3]) .skip
def Qa3c:SC:=cT 26 (.dreg 8 [0,1,2,3,1,4,5,6,7] ( fJ 28 3 3::lJ 29 28::mJ 30 0::eI 31 (.call Quf [.t 30,.k (.c (.sl true 1 []))])::Qaft) [2,3]) (sR [cJ 36 .eql 7 4,mJ 35 36] [0,2,3,35] Qa3b)
def Qaw3:SC:=cT 20 (.reg (mJ 22 0::fI 23 (.bsl 1 [kI 0,kI 14,kI (-1),kI 5,kI 11])::aJ 24 Qak [.t 22,.t 23]::Qafr) [2,3]) (sR [cJ 27 .eql 7 3,mJ 26 27] [0,2,3,7,26] Qa3c)
def Qaw4:SC:=cT 14 (.reg (mJ 16 0::fI 17 (.bsl 1 [.k (.c (.str [])),.k (.c (.str [100,111])),.k (.c (.str [65])),.k (.c (.str [97,98,99,100,101])),.k (.c (.str [113]))])::aJ 18 Qbd [.t 16,.t 17]::Qafq) [2,3]) (sR [cJ 21 .eql 7 2,mJ 20 21] [0,2,3,7,20] Qaw3)
def Qaw5:SC:=cT 8 (.reg (mJ 10 0::fI 11 (.bsl 1 [kI (-1),kI 256,kI 3])::aJ 12 Qak [.t 10,.t 11]::Qafp) [2,3]) (sR [cJ 15 .eql 7 1,mJ 14 15] [0,2,3,7,14] Qaw4)
def Qaw6:SC:=.block 0 (sR [cJ 9 .eql 7 0,mJ 8 9] [0,2,3,7,8] Qaw5)
def Qafm:SC:=sR [tJ 39 4 3,sJ 4 2 39] [2] .ret
def Qaw7:SC:=.seq (sR [mJ 6 0,aJ 7 Qz [.t 6,kI 20]] [0,2,3,7] Qaw6) Qafm
def Qaw8:SC:=sR (mJ 4 0::aJ 5 Qyi [.t 4,kI 4]::Qafo) [0,2,3] Qaw7
def Qbdg:SC:=sR [eI 2 (.alloc [.int .i64 0,.int .i64 0,.str [],.sl true 4 []])] [0,2] Qaw8
theorem Qbcw:mFn prog Qada 1 40 Qbdg Q9m=true:=by kernel_rfl
def Qafv:List Item:=[eI 2 (.alloc [.int .i64 0,.int .i64 0,.str [],.sl true 4 []])]
def Qafw:List Item:=[mJ 3 21]
def Qafx:List Item:=fI 20 (.bsl 4 [.t 19])::xJ 21 4 13 20::Qafw
def Qa3d:SC:=.reg [mJ 11 4,cJ 12 .add 11 1,mJ 4 12] [1,2,3,4]
def Qa3e:SC:=.seq (.block 1 (.reg (mJ 13 3::fJ 14 3 1::lJ 15 14::mJ 16 4::iJ 17 4 15 16::tJ 18 4 17::aJ 19 Q4a [.t 18]::Qafx) [1,2,3,4])) Qa3d
def Qaw9:SC:=.seq (sR [mJ 6 4,fJ 7 3 1,lJ 8 7,nJ 9 8,bJ 10 .lss 6 9] [1,2,3,4,10] (cT 10 .skip (.exit 0))) Qa3e
def Qa3f:SC:=sR [tJ 24 4 1,sJ 4 2 24] [2] .ret
def Qa3g:SC:=sR [mJ 22 3,fJ 23 3 1,sJ 1 23 22] [1,2] Qa3f
def Qa3h:SC:=.seq (sR [zJ 4 0] [1,2,3,4] (bL 0 Qaw9)) Qa3g
def Qa3i:SC:=sR [fI 5 (.bsl 4 []),mJ 3 5] [1,2,3] Qa3h
def Qbdh:SC:=sR (eI 1 (.boxm (.t 0))::Qafv) [1,2] Qa3i
theorem Qbcx:mFn prog Q4a 1 25 Qbdh Q9m=true:=by kernel_rfl
def Qaf0:List Item:=[sJ 1 3 10]
def Qaf1:List Item:=eI 3 (.alloc [.sl true 3 []])::Qaf0
def Qaf2:List Item:=[sJ 3 4 18]
def Qaf3:List Item:=[fJ 26 0 4,sJ 1 26 25]
def Qaf4:List Item:=[fJ 38 1 4,sJ 1 38 37]
def Qaf5:List Item:=fI 36 (.bsl 1 [.t 35])::xJ 37 1 32 36::Qaf4
def Qaf6:List Item:=mJ 33 0::fI 34 (.bsl 1 [.k (.c (.str [97])),.k (.c (.str [120])),.k (.c (.str [105,102]))])::aJ 35 Qbd [.t 33,.t 34]::Qaf5
def Qaf7:List Item:=[fJ 51 2 4,sJ 1 51 50]
def Qaf8:List Item:=fI 47 (.bsl 4 [.t 46])::fI 48 (.bld [.int .i64 0,.str [],.sl true 4 [],.sl true 5 [],.sl true 5 []] [(0,1,kI 3),(2,1,.t 47)])::fI 49 (.bsl 5 [.t 48])::xJ 50 5 44 49::Qaf7
def Qaf9:List Item:=mJ 45 0::aJ 46 Qada [.t 45]::Qaf8
def Q9t:List Item:=[fJ 69 2 4,sJ 1 69 68]
def Q9u:List Item:=fI 65 (.bsl 4 [.t 64])::fI 66 (.bld [.int .i64 0,.str [],.sl true 4 [],.sl true 5 [],.sl true 5 []] [(0,1,.t 59),(1,1,.t 62),(2,1,.t 65)])::fI 67 (.bsl 5 [.t 66])::xJ 68 5 57 67::Q9t
def Q9v:List Item:=mJ 63 0::aJ 64 Qyi [.t 63,kI 2]::Q9u
def Q9w:List Item:=mJ 60 0::fI 61 (.bsl 1 [.k (.c (.str [])),.k (.c (.str [97])),.k (.c (.str [122,122]))])::aJ 62 Qbd [.t 60,.t 61]::Q9v
def Q9x:List Item:=mJ 58 0::aJ 59 Qz [.t 58,kI 10]::Q9w
def Q9y:List Item:=[sJ 5 5 74]
def Q9z:List Item:=[mJ 6 76]
def Q90:List Item:=[hJ 85 84,.chk 86 none (.ld 5 true (.t 5)),fI 88 (.bld [.int .i64 0,.str [],.sl true 4 [],.sl true 5 [],.sl true 5 []] [(0,1,.t 83),(2,1,.t 85),(3,1,.t 87)]),sJ 5 5 88]
def Qaxv:SC:=.reg [mJ 79 6,cJ 80 .sub 79 1,mJ 6 80] [0,2,3,4,5,6]
def Qaxw:SC:=.seq (.block 2 (.dreg 9 [0,1,3,4,5,6,2,4,5,7,8] ( mJ 81 0::fI 82 (.bsl 1 [kI 5,kI 6])::fJ 84 2 5::lJ 85 84::tJ 86 5 5::fI 87 (.bsl 5 [.t 86])::aJ 83 Qak [.t 81,.t 82]::Q90) [0,2,3,4,5,6])) Qaxv
def Qas9:SC:=.seq (sR [mJ 77 6,cJ 78 .gtr 77 0] [0,2,3,4,5,6,78] (cT 78 .skip (.exit 1))) Qaxw
def Q91:List Item:=[fJ 96 2 4,sJ 1 96 95]
def Q92:List Item:=.chk 93 none (.ld 5 true (.t 5))::xJ 95 5 92 94::Q91
def Qaxx:SC:=.dreg 9 [0,1,2,4,5,3,4,6,7,8] ( fI 89 (.bsl 5 [])::fJ 90 2 4::lJ 91 90::tJ 93 5 5::fI 94 (.bsl 5 [.t 93])::xJ 92 5 89 91::Q92) [2,3,4]
def Qaxy:SC:=.seq (sR (mJ 75 0::aJ 76 Qz [.t 75,kI 5]::Q9z) [0,2,3,4,5,6] (bL 1 Qas9)) Qaxx
def Q93:List Item:=[mJ 7 104]
def Q94:List Item:=[fJ 119 2 4,sJ 1 119 118]
def Q95:List Item:=mJ 113 7::fI 114 (.bld [.int .i64 0,.int .i64 0,.str [],.sl true 4 []] [(0,1,kI 1),(1,1,.t 113)])::fI 115 (.bsl 4 [.t 114])::fI 116 (.bld [.int .i64 0,.str [],.sl true 4 [],.sl true 5 [],.sl true 5 []] [(0,1,kI 3),(2,1,.t 115)])::fI 117 (.bsl 5 [.t 116])::xJ 118 5 112 117::Q94
def Qaxz:SC:=.reg [mJ 107 7,cJ 108 .sub 107 1,mJ 7 108] [2,3,4,7]
def Qax0:SC:=.seq (.block 4 (.reg (fI 109 (.bsl 5 [])::fJ 110 2 4::lJ 111 110::xJ 112 5 109 111::Q95) [2,3,4,7])) Qaxz
def Qata:SC:=.seq (sR [mJ 105 7,cJ 106 .gtr 105 0] [2,3,4,7,106] (cT 106 .skip (.exit 3))) Qax0
def Q96:List Item:=[fI 132 (.bld [.sl true 3 []] [(0,1,.t 131)]),sJ 1 2 132]
def Q97:List Item:=hJ 127 126::.chk 128 none (.iad 3 (.t 127) (kI 0))::.chk 129 none (.ld 3 true (.t 128))::xJ 131 3 125 130::Q96
def Qax1:SC:=cT 120 (.seq (.dreg 12 [0,1,2,4,5,6,7,8,3,5,6,7,9,10,11] ( fI 122 (.bsl 3 [])::fJ 123 0 3::lJ 124 123::fJ 126 0 3::lJ 127 126::fI 128 (.iad 3 (.t 127) (kI 0))::tJ 129 3 128::fI 130 (.bsl 3 [.t 129])::xJ 125 3 122 124::Q97) [2]) .ret) .skip
def Qax2:SC:=cT 100 (sR (mJ 102 0::fI 103 (.bsl 1 [kI 20,kI 40,kI 41])::aJ 104 Qak [.t 102,.t 103]::Q93) [2,3,4,7] (bL 3 Qata)) (sR [cJ 121 .eql 20 7,mJ 120 121] [2,3,4,120] Qax1)
def Qax3:SC:=cT 97 (sR [fI 99 (.bld [.sl true 3 []] []),sJ 1 2 99] [2] .ret) (sR [cJ 101 .eql 20 6,mJ 100 101] [0,2,3,4,20,100] Qax2)
def Qax4:SC:=cT 70 (sR (fI 72 (.bld [.int .i64 0,.int .i64 0,.str [],.sl true 4 []] [(0,1,kI 1)])::fI 73 (.bsl 4 [.t 72])::fI 74 (.bld [.int .i64 0,.str [],.sl true 4 [],.sl true 5 [],.sl true 5 []] [(0,1,kI 6),(2,1,.t 73)])::eI 5 (.alloc [.int .i64 0,.str [],.sl true 4 [],.sl true 5 [],.sl true 5 []])::Q9y) [0,2,3,4,5] Qaxy) (sR [cJ 98 .eql 20 5,mJ 97 98] [0,2,3,4,20,97] Qax3)
def Qax5:SC:=cT 52 (.reg (fI 54 (.bsl 5 [])::fJ 55 2 4::lJ 56 55::xJ 57 5 54 56::Q9x) [2,3,4]) (sR [cJ 71 .eql 20 4,mJ 70 71] [0,2,3,4,20,70] Qax4)
def Qax6:SC:=cT 39 (.reg (fI 41 (.bsl 5 [])::fJ 42 2 4::lJ 43 42::xJ 44 5 41 43::Qaf9) [2,3,4]) (sR [cJ 53 .eql 20 3,mJ 52 53] [0,2,3,4,20,52] Qax5)
def Qax7:SC:=cT 27 (.reg (fI 29 (.bsl 1 [])::fJ 30 1 4::lJ 31 30::xJ 32 1 29 31::Qaf6) [2,3,4]) (sR [cJ 40 .eql 20 2,mJ 39 40] [0,2,3,4,20,39] Qax6)
def Qax8:SC:=cT 21 (.reg (mJ 23 0::fI 24 (.bsl 1 [.k (.c (.str [102])),.k (.c (.str [100,111])),.k (.c (.str [])),.k (.c (.str [103]))])::aJ 25 Qbd [.t 23,.t 24]::Qaf3) [2,3,4]) (sR [cJ 28 .eql 20 1,mJ 27 28] [0,2,3,4,20,27] Qax7)
def Qax9:SC:=.block 0 (sR [cJ 22 .eql 20 0,mJ 21 22] [0,2,3,4,20,21] Qax8)
def Q98:List Item:=[mJ 8 136]
def Qaya:SC:=sR [mJ 143 8,fI 144 (.bld [.sl true 3 []] [(0,1,.t 143)]),sJ 1 2 144] [2] .ret
def Qayb:SC:=sR [mJ 137 8,mJ 138 8,nJ 139 138,cJ 140 .sub 139 1,tJ 141 3 4,iJ 142 3 137 140,sJ 3 142 141] [2,8] Qaya
def Qafz:SC:=sR (fI 133 (.bsl 3 [])::fJ 134 0 3::lJ 135 134::xJ 136 3 133 135::Q98) [2,4,8] Qayb
def Qayc:SC:=.seq (sR [mJ 19 0,aJ 20 Qz [.t 19,kI 32]] [0,2,3,4,20] Qax9) Qafz
def Qayd:SC:=sR (fJ 11 0 3::lJ 12 11::fJ 13 0 3::lJ 14 13::nJ 15 14::cJ 16 .sub 15 1::iJ 17 3 12 16::tJ 18 3 17::eI 4 (.alloc [.str [],.sl true 1 [],.sl true 5 []])::Qaf2) [0,2,3,4] Qayc
def Qaye:SC:=sR (mJ 9 0::aJ 10 Qug [.t 9]::Qaf1) [0,2,3] Qayd
def Qbdn:SC:=sR [eI 2 (.alloc [.sl true 3 []])] [0,2] Qaye
theorem Qbcz:mFn prog Qadc 1 145 Qbdn Qao2=true:=by kernel_rfl
def Qahf:List Item:=[sJ 1 3 6]
def Qahg:List Item:=[sJ 3 5 18]
def Qahh:List Item:=[fJ 33 0 3,sJ 1 33 32]
def Qahi:List Item:=hJ 20 19::hJ 22 21::fI 30 (.bld [.str [],.sl true 1 [],.sl true 5 []] [(0,1,.t 22),(1,1,.t 26),(2,1,.t 29)])::fI 31 (.bsl 3 [.t 30])::xJ 32 3 20 31::Qahh
def Qahj:List Item:=hJ 20 19::hJ 22 21::hJ 28 27::aJ 29 Qhg [.t 28]::Qahi
def Qa35:SC:=.dreg 16 [0,1,2,3,4,5,6,8,9,7,1,3,9,10,1,3,11,12,13,14,15] ( fJ 19 0 3::lJ 20 19::fJ 21 0 5::lJ 22 21::fI 23 (.bsl 1 [])::fJ 24 1 5::lJ 25 24::fJ 27 2 5::lJ 28 27::xJ 26 1 23 25::Qahj) [1,2,3,4]
def Qa36:SC:=.reg [mJ 12 4,cJ 13 .add 12 1,mJ 4 13] [1,2,3,4]
def Qa37:SC:=.seq (.block 1 (sR (fJ 14 0 1::lJ 15 14::mJ 16 4::iJ 17 3 15 16::tJ 18 3 17::eI 5 (.alloc [.str [],.sl true 1 [],.sl true 5 []])::Qahg) [1,2,3,4,5] Qa35)) Qa36
def Qay8:SC:=.seq (sR [mJ 7 4,fJ 8 0 1,lJ 9 8,nJ 10 9,bJ 11 .lss 7 10] [1,2,3,4,11] (cT 11 .skip (.exit 0))) Qa37
def Qa38:SC:=sR [tJ 34 1 3,sJ 1 2 34] [2] .ret
def Qay6:SC:=.seq (sR [zJ 4 0] [1,2,3,4] (bL 0 Qay8)) Qa38
def Qay7:SC:=sR (fI 6 (.bld [.sl true 3 []] [])::eI 3 (.alloc [.sl true 3 []])::Qahf) [1,2,3] Qay6
def Qbdv:SC:=sR [vJ 1 0,eI 2 (.alloc [.sl true 3 []])] [1,2] Qay7
theorem Qbc1:mFn prog Qadd 1 35 Qbdv Qao2=true:=by kernel_rfl
def Qahk:List Item:=[cJ 5 .eql 4 0,mJ 2 5]
def Qa39:SC:=sR (tJ 3 1 1::aJ 4 Qf0 [.t 3]::Qahk) [2] .ret
def Qbdw:SC:=sR [vJ 1 0,fB 2 false] [1] Qa39
theorem Qbc2:mFn prog Qade 1 6 Qbdw Qcu=true:=by kernel_rfl
def Qatl:List Item:=[zJ 5 0,zJ 6 0]
def Qatm:List Item:=[mJ 7 14]
def Qatn:List Item:=[sJ 3 8 19]
def Qato:List Item:=[mJ 24 1,bJ 25 .neq 23 24]
def Qbdx:SC:=cT 25 (.reg [mJ 26 7,aJ 27 Qcj [.t 26,kI 2]] [4,7,8]) .skip
def Qatp:List Item:=[mJ 9 45]
def Qatq:List Item:=fI 44 (.bsl 1 [.t 43])::xJ 45 1 36 44::Qatp
def Qbdy:SC:=.reg [mJ 34 10,cJ 35 .add 34 1,mJ 10 35] [4,7,8,9,10]
def Qbdz:SC:=.seq (.block 1 (.reg (mJ 36 9::mJ 37 7::fJ 38 1 8::lJ 39 38::mJ 40 10::iJ 41 1 39 40::lJ 42 41::aJ 43 Qko [.t 37,.t 42,kI 0]::Qatq) [4,7,8,9,10])) Qbdy
def Qa9l:SC:=.seq (sR [mJ 29 10,fJ 30 1 8,lJ 31 30,nJ 32 31,bJ 33 .lss 29 32] [4,7,8,9,10,33] (cT 33 .skip (.exit 0))) Qbdz
def Qang:List Item:=[fJ 52 2 8,sJ 1 52 51]
def Qanh:List Item:=[hJ 57 56,hJ 61 60,mJ 5 57,mJ 6 61]
def Qa9e:SC:=.seq (.dreg 12 [0,1,2,3,4,5,6,7,8,9,4,8,10,11] ( tJ 53 3 8::mJ 54 7::kJ 55 54::fJ 56 4 55::lJ 57 56::mJ 58 7::kJ 59 58::fJ 60 3 59::lJ 61 60::sJ 3 4 53::Qanh) [4,5,6]) .ret
def Qa9f:SC:=sR (mJ 48 7::fJ 49 2 8::lJ 50 49::aJ 51 Qds [.t 48,.t 50,kI 0]::Qang) [4,7,8] Qa9e
def Qa9g:SC:=sR [mJ 46 9,fJ 47 1 8,sJ 1 47 46] [4,7,8] Qa9f
def Qa9h:SC:=.seq (sR [zJ 10 0] [4,7,8,9,10] (bL 0 Qa9l)) Qa9g
def Qatk:SC:=sR [fI 28 (.bsl 1 []),mJ 9 28] [4,7,8,9] Qa9h
def Qa9i:SC:=.seq (sR (tJ 20 1 2::fJ 21 0 8::lJ 22 21::aJ 23 Qox [.t 20,.t 22]::Qato) [4,7,8,25] Qbdx) Qatk
def Qa9j:SC:=sR (fJ 15 0 2::lJ 16 15::mJ 17 1::iJ 18 3 16 17::tJ 19 3 18::eI 8 (.alloc [.str [],.sl true 1 [],.sl true 5 []])::Qatn) [1,2,4,7,8] Qa9i
def Qa9k:SC:=sR (tJ 11 1 2::mJ 12 1::fI 13 (.bld [.sl true 3 [],.int .i64 0,.sl true 3 [],.int .i64 0,.int .i64 0] [(0,1,.t 11),(1,1,.t 12)])::eI 14 (.boxm (.t 13))::Qatm) [1,2,4,7] Qa9j
def Qbj2:SC:=sR (vJ 2 0::eI 4 (.alloc [.str [],.sl true 1 [],.sl true 5 []])::Qatl) [1,2,4] Qa9k
def Qa8g:List RS:=[.cell 4 3 true,.tmp 5,.tmp 6]
theorem Qbjm:mFn prog Qavz 2 62 Qbj2 Qa8g=true:=by kernel_rfl
def Qa4a:SC:=sR [mJ 6 3,mJ 7 3,cJ 8 .add 7 1,fI 9 (.slis (.k (.c (.str [97,98,99,100,101,102,103,104,105,106,107,108,109,110,111,112,113,114,115,116,117,118,119,120,121,122]))) (some (.t 6)) (some (.t 8))),fI 10 (.bin 0 .add (.k (.c (.str [118]))) (.t 9)),mJ 2 10] [2] .ret
def Qa4b:SC:=sR [mJ 4 0,cJ 5 .rem 4 26,mJ 3 5] [3] Qa4a
def Qbd0:SC:=sR [fI 2 (.mv (.k (.c (.str []))))] [0] Qa4b
theorem Qbc3:mFn prog Q4d 1 11 Qbd0 Qcu=true:=by kernel_rfl
def Qaag:List Item:=[sJ 5 5 18]
def Qaah:List Item:=[mJ 6 35]
def Qaai:List Item:=fI 34 (.bsl 4 [.t 33])::xJ 35 4 27 34::Qaah
def Qay9:SC:=.reg [mJ 25 7,cJ 26 .add 25 1,mJ 7 26] [0,3,4,5,6,7]
def Qaza:SC:=.seq (.block 3 (.reg (mJ 27 6::fJ 28 2 5::lJ 29 28::mJ 30 7::iJ 31 4 29 30::tJ 32 4 31::aJ 33 Q4a [.t 32]::Qaai) [0,3,4,5,6,7])) Qay9
def Qaty:SC:=.seq (sR [mJ 20 7,fJ 21 2 5,lJ 22 21,nJ 23 22,bJ 24 .lss 20 23] [0,3,4,5,6,7,24] (cT 24 .skip (.exit 2))) Qaza
def Qaaj:List Item:=[mJ 3 50]
def Qaak:List Item:=hJ 38 37::hJ 40 39::fI 48 (.bld [.int .i64 0,.str [],.sl true 4 [],.sl true 5 [],.sl true 5 []] [(0,1,.t 38),(1,1,.t 40),(2,1,.t 41),(3,1,.t 44),(4,1,.t 47)])::fI 49 (.bsl 5 [.t 48])::xJ 50 5 36 49::Qaaj
def Qaal:List Item:=hJ 38 37::hJ 40 39::hJ 46 45::aJ 47 Qhg [.t 46]::Qaak
def Qazb:SC:=.dreg 16 [0,1,2,3,4,5,6,7,9,10,8,2,4,10,11,2,4,12,13,14,15] ( mJ 36 3::fJ 37 0 5::lJ 38 37::fJ 39 1 5::lJ 40 39::mJ 41 6::fJ 42 3 5::lJ 43 42::fJ 45 4 5::lJ 46 45::aJ 44 Qhg [.t 43]::Qaal) [0,3,4]
def Qatr:SC:=.seq (sR [zJ 7 0] [0,3,4,5,6,7] (bL 2 Qaty)) Qazb
def Qats:SC:=sR [fI 19 (.bsl 4 []),mJ 6 19] [0,3,4,5,6] Qatr
def Qatt:SC:=.reg [mJ 13 4,cJ 14 .add 13 1,mJ 4 14] [0,3,4]
def Qatu:SC:=.seq (.block 1 (sR (mJ 15 0::mJ 16 4::iJ 17 5 15 16::tJ 18 5 17::eI 5 (.alloc [.int .i64 0,.str [],.sl true 4 [],.sl true 5 [],.sl true 5 []])::Qaag) [0,3,4,5] Qats)) Qatt
def Qap2:SC:=.seq (sR [mJ 9 4,mJ 10 0,nJ 11 10,bJ 12 .lss 9 11] [0,3,4,12] (cT 12 .skip (.exit 0))) Qatu
def Qatv:SC:=sR [mJ 51 3,mJ 2 51] [2] .ret
def Qatw:SC:=.seq (sR [zJ 4 0] [0,3,4] (bL 0 Qap2)) Qatv
def Qatx:SC:=sR [fI 8 (.bsl 5 []),mJ 3 8] [0,3] Qatw
def Qa9p:SC:=sR [fI 2 (.mv (.k (.c (.sl true 5 []))))] [0] Qatx
theorem Qa7r:mFn prog Qhg 1 52 Qa9p Qcu=true:=by kernel_rfl
def Qsl:List Item:=[eI 4 (.alloc [.int .i64 0,.int .i64 0,.str [],.sl true 4 []])]
def Qsm:List Item:=[fJ 15 2 3,sJ 1 15 14]
def Qahs:SC:=cT 10 (.reg (mJ 11 0::fJ 12 2 3::lJ 13 12::aJ 14 Qkp [.t 11,.t 13]::Qsm) [0,3,4]) .skip
def Qsn:List Item:=[mJ 5 25]
def Qaht:SC:=cT 51 (.reg [mJ 52 0,aJ 53 Qcj [.t 52,kI 5]] [0,3,4]) .skip
def Qwz:SC:=cT 35 (.reg [mJ 36 0,aJ 37 Qcj [.t 36,kI 4]] [0,3,4]) (.seq (.dreg 14 [0,1,2,3,4,5,6,7,8,9,10,11,12,13] ( mJ 38 0::kJ 39 38::fJ 40 0 39::fJ 41 0 40::lJ 42 41::mJ 43 5::iJ 44 3 42 43::fJ 45 1 44::lJ 46 45::nJ 47 46::fJ 48 3 3::lJ 49 48::nJ 50 49::bJ 51 .neq 47 50::[]) [0,3,4,51]) Qaht)
def Qahu:SC:=sR [mJ 26 5,cJ 27 .lss 26 0,mJ 28 27,gFm 29 28 5,gFm 30 28 0,gF 31 28 (.nck (.t 30)),gFf 32 28 1 31,gFl 33 28 32,gF 34 28 (.bin 0 .geq (.t 29) (.t 33)),pT 35 28 34] [0,3,4,5,35] Qwz
def Qahv:SC:=cT 18 (.seq (.dreg 8 [0,1,2,3,4,5,6,7] ( mJ 19 0::kJ 20 19::fJ 21 0 20::tJ 22 1 21::fJ 23 2 3::lJ 24 23::aJ 25 Qox [.t 22,.t 24]::Qsn) [0,3,4,5]) Qahu) .skip
def Qso:List Item:=[mJ 6 71]
def Qsp:List Item:=fI 70 (.bsl 4 [.t 69])::xJ 71 4 62 70::Qso
def Qabt:SC:=.reg [mJ 60 7,cJ 61 .add 60 1,mJ 7 61] [0,3,4,6,7]
def Qabu:SC:=.seq (.block 1 (.reg (mJ 62 6::mJ 63 0::fJ 64 3 3::lJ 65 64::mJ 66 7::iJ 67 4 65 66::tJ 68 4 67::aJ 69 Qhy [.t 63,.t 68]::Qsp) [0,3,4,6,7])) Qabt
def Q8g:SC:=.seq (sR [mJ 55 7,fJ 56 3 3,lJ 57 56,nJ 58 57,bJ 59 .lss 55 58] [0,3,4,6,7,59] (cT 59 .skip (.exit 0))) Qabu
def Qabv:SC:=sR [tJ 74 4 3,sJ 4 4 74] [4] .ret
def Qabw:SC:=sR [mJ 72 6,fJ 73 3 3,sJ 1 73 72] [3,4] Qabv
def Qabx:SC:=.seq (sR [zJ 7 0] [0,3,4,6,7] (bL 0 Q8g)) Qabw
def Qi8:SC:=sR [fI 54 (.bsl 4 []),mJ 6 54] [0,3,4,6] Qabx
def Qsk:SC:=.seq (sR [fJ 16 0 3,lJ 17 16,cJ 18 .eql 17 13] [0,3,4,18] Qahv) Qi8
def Qaby:SC:=.seq (sR [fJ 8 0 3,lJ 9 8,cJ 10 .eql 9 2] [0,3,4,10] Qahs) Qsk
def Qap3:SC:=sR (eI 3 (.boxm (.t 1))::Qsl) [0,3,4] Qaby
theorem Qaot:mFn prog Qhy 2 75 Qap3 Qm5=true:=by kernel_rfl
def Qahw:SC:=cT 8 (.reg [mJ 9 0,mJ 10 1,kJ 11 9,fJ 12 4 11,sJ 1 12 10] []) .skip
def Qap4:SC:=sR [mJ 4 0,kJ 5 4,fJ 6 4 5,lJ 7 6,cJ 8 .eql 7 0] [0,1,8] Qahw
theorem Qaou:mFn prog Qcj 2 13 Qap4 Qasa=true:=by kernel_rfl
def Qahx:SC:=cT 25 (sR [mJ 26 5,mJ 4 26] [4] .ret) .skip
def Qahy:SC:=.reg [mJ 14 5,cJ 15 .sub 14 1,mJ 5 15] [0,1,5]
def Qahz:SC:=.seq (.block 1 (sR [mJ 16 0,kJ 17 16,fJ 18 2 17,lJ 19 18,mJ 20 5,iJ 21 3 19 20,fJ 22 0 21,lJ 23 22,mJ 24 1,bJ 25 .eql 23 24] [0,1,5,25] Qahx)) Qahy
def Qabz:SC:=.seq (sR [mJ 12 5,cJ 13 .geq 12 0] [0,1,5,13] (cT 13 .skip (.exit 0))) Qahz
def Qah0:SC:=sR [zJ 4 (-1)] [4] .ret
def Qah1:SC:=.seq (sR [mJ 6 0,kJ 7 6,fJ 8 2 7,lJ 9 8,nJ 10 9,cJ 11 .sub 10 1,mJ 5 11] [0,1,5] (bL 0 Qabz)) Qah0
def Qap5:SC:=sR [zJ 4 0] [0,1] Qah1
theorem Qaov:mFn prog Qhz 2 27 Qap5 Qm4=true:=by kernel_rfl
def Qw0:List Item:=[mJ 7 10]
def Qala:SC:=cT 24 (.reg [mJ 25 0,aJ 26 Qcj [.t 25,kI 2]] [0,1,2]) .skip
def Qw1:List Item:=[kJ 41 27,fJ 42 2 41,sJ 1 42 40]
def Qw2:List Item:=[mJ 6 56]
def Qalb:SC:=sR (mJ 51 0::kJ 52 51::fJ 53 3 52::lJ 54 53::cJ 55 .sub 54 1::aJ 56 Q4d [.t 55]::Qw2) [6] .ret
def Qalc:SC:=sR [mJ 43 0,mJ 44 0,kJ 45 44,fJ 46 3 45,lJ 47 46,cJ 48 .add 47 1,kJ 49 43,fJ 50 3 49,sJ 1 50 48] [0] Qalb
def Q1b:SC:=.seq (.dreg 17 [0,1,2,3,4,5,6,7,8,9,10,11,12,13,14,15,16] ( mJ 27 0::mJ 28 0::kJ 29 28::fJ 30 2 29::lJ 31 30::mJ 32 1::mJ 33 0::kJ 34 33::fJ 35 3 34::lJ 36 35::mJ 37 2::fI 38 (.bld [.str [],.int .i64 0,.int .i64 0] [(0,1,.t 32),(1,1,.t 36),(2,1,.t 37)])::fI 39 (.bsl 3 [.t 38])::xJ 40 3 31 39::Qw1) [0]) Qalc
def Qald:SC:=.seq (sR [mJ 11 7,cJ 12 .geq 11 0,mJ 13 12,gTm 14 13 0,gT 15 13 (.nck (.t 14)),gTf 16 13 2 15,gTl 17 13 16,gTm 18 13 7,gT 19 13 (.iad 3 (.t 17) (.t 18)),gTf 20 13 2 19,gTl 21 13 20,gTm 22 13 2,gT 23 13 (.bin 0 .eql (.t 21) (.t 22)),pF 24 13 23] [0,1,2,24] Qala) Q1b
def Qale:SC:=sR (mJ 8 0::mJ 9 1::aJ 10 Qhz [.t 8,.t 9]::Qw0) [0,1,2,7] Qald
def Qatz:SC:=sR [fI 6 (.mv (.k (.c (.str []))))] [0,1,2] Qale
theorem Qaro:mFn prog Qko 3 57 Qatz Qbe9=true:=by kernel_rfl
def Qpq:List Item:=[sJ 5 10 28]
def Qpr:List Item:=[mJ 11 46]
def Qps:List Item:=fI 45 (.bsl 4 [.t 44])::xJ 46 4 37 45::Qpr
def Qab0:SC:=.reg [mJ 35 12,cJ 36 .add 35 1,mJ 12 36] [0,1,2,7,8,9,10,11,12]
def Qab1:SC:=.seq (.block 3 (.reg (mJ 37 11::mJ 38 0::fJ 39 2 10::lJ 40 39::mJ 41 12::iJ 42 4 40 41::tJ 43 4 42::aJ 44 Qhy [.t 38,.t 43]::Qps) [0,1,2,7,8,9,10,11,12])) Qab0
def Q8u:SC:=.seq (sR [mJ 30 12,fJ 31 2 10,lJ 32 31,nJ 33 32,bJ 34 .lss 30 33] [0,1,2,7,8,9,10,11,12,34] (cT 34 .skip (.exit 2))) Qab1
def Qpt:List Item:=[fJ 57 1 10,sJ 1 57 56]
def Qab2:SC:=cT 51 (.reg (mJ 52 0::fJ 53 1 10::lJ 54 53::mJ 55 2::aJ 56 Qko [.t 52,.t 54,.t 55]::Qpt) [0,1,2,7,8,9,10]) .skip
def Qpu:List Item:=[fJ 65 1 10,sJ 1 65 64]
def Qab3:SC:=cT 60 (.reg (mJ 61 0::fJ 62 1 10::lJ 63 62::aJ 64 Qkp [.t 61,.t 63]::Qpu) [0,1,2,7,8,9,10]) .skip
def Qnp:List Item:=[fJ 72 3 10,sJ 1 72 71]
def Qnq:List Item:=[fJ 79 4 10,sJ 1 79 78]
def Qnr:List Item:=[mJ 7 83]
def Q8h:SC:=.reg (mJ 80 7::tJ 81 5 10::fI 82 (.bsl 5 [.t 81])::xJ 83 5 80 82::Qnr) [0,1,2,7,8,9]
def Q8i:SC:=sR (mJ 73 0::fJ 74 4 10::lJ 75 74::mJ 76 2::cJ 77 .add 76 1::aJ 78 Qds [.t 73,.t 75,.t 77]::Qnq) [0,1,2,7,8,9,10] Q8h
def Qhr:SC:=sR (mJ 66 0::fJ 67 3 10::lJ 68 67::mJ 69 2::cJ 70 .add 69 1::aJ 71 Qds [.t 66,.t 68,.t 70]::Qnp) [0,1,2,7,8,9,10] Q8i
def Q8j:SC:=.seq (sR [fJ 58 0 10,lJ 59 58,cJ 60 .eql 59 2] [0,1,2,7,8,9,10,60] Qab3) Qhr
def Qpo:SC:=.seq (sR [fJ 49 0 10,lJ 50 49,cJ 51 .eql 50 1] [0,1,2,7,8,9,10,51] Qab2) Q8j
def Q8k:SC:=.seq (.seq .gh (.reg [mJ 47 11,fJ 48 2 10,sJ 1 48 47] [0,1,2,7,8,9,10])) Qpo
def Q8l:SC:=.seq (sR [zJ 12 0] [0,1,2,7,8,9,10,11,12] (bL 2 Q8u)) Q8k
def Q8m:SC:=sR [fI 29 (.bsl 4 []),mJ 11 29] [0,1,2,7,8,9,10,11] Q8l
def Q8n:SC:=.reg [mJ 23 9,cJ 24 .add 23 1,mJ 9 24] [0,1,2,7,8,9]
def Q8o:SC:=.seq (.block 1 (sR (mJ 25 1::mJ 26 9::iJ 27 5 25 26::tJ 28 5 27::eI 10 (.alloc [.int .i64 0,.str [],.sl true 4 [],.sl true 5 [],.sl true 5 []])::Qpq) [0,1,2,7,8,9,10] Q8m)) Q8n
def Q5m:SC:=.seq (sR [mJ 19 9,mJ 20 1,nJ 21 20,bJ 22 .lss 19 21] [0,1,2,7,8,9,22] (cT 22 .skip (.exit 0))) Q8o
def Q8p:SC:=cT 85 (.reg [mJ 86 0,mJ 87 0,kJ 88 87,fJ 89 2 88,lJ 90 89,mJ 91 8,fI 92 (.sli 3 (.t 90) none (some (.t 91))),kJ 93 86,fJ 94 2 93,sJ 1 94 92] [7]) .skip
def Qpp:SC:=sR [mJ 95 7,mJ 6 95] [6] .ret
def Q8q:SC:=.seq (sR [mJ 84 2,cJ 85 .gtr 84 0] [0,7,8,85] Q8p) Qpp
def Q8r:SC:=.seq (sR [zJ 9 0] [0,1,2,7,8,9] (bL 0 Q5m)) Q8q
def Q8s:SC:=sR [mJ 14 0,kJ 15 14,fJ 16 2 15,lJ 17 16,nJ 18 17,mJ 8 18] [0,1,2,7,8] Q8r
def Q8t:SC:=sR [fI 13 (.bsl 5 []),mJ 7 13] [0,1,2,7] Q8s
def Qalf:SC:=sR [fI 6 (.mv (.k (.c (.sl true 5 []))))] [0,1,2] Q8t
theorem Qajs:mFn prog Qds 3 96 Qalf Qbe9=true:=by kernel_rfl
def Qw3:List Item:=[mJ 5 8]
def Qalg:SC:=sR [mJ 13 1,mJ 4 13] [4] .ret
def Qalh:SC:=cT 10 (sR [mJ 11 0,aJ 12 Qcj [.t 11,kI 3]] [1] Qalg) .skip
def Qw4:List Item:=[mJ 4 22]
def Qali:SC:=sR (mJ 14 0::kJ 15 14::fJ 16 2 15::lJ 17 16::mJ 18 5::iJ 19 3 17 18::fJ 20 1 19::lJ 21 20::aJ 22 Q4d [.t 21]::Qw4) [4] .ret
def Qalj:SC:=.seq (sR [mJ 9 5,cJ 10 .lss 9 0] [0,1,5,10] Qalh) Qali
def Qalk:SC:=sR (mJ 6 0::mJ 7 1::aJ 8 Qhz [.t 6,.t 7]::Qw3) [0,1,5] Qalj
def Qat0:SC:=sR [fI 4 (.mv (.k (.c (.str []))))] [0,1] Qalk
theorem Qarp:mFn prog Qkp 2 23 Qat0 Qm4=true:=by kernel_rfl
def Q28:SC:=cT 4 (sR [fI 2 (.mv (.k (.c (.sl true 1 []))))] [2] .ret) .skip
def Qkg:List Item:=[mJ 2 7]
def Q29:SC:=sR (fI 5 (.bsl 1 [])::mJ 6 0::xJ 7 1 5 6::Qkg) [2] .ret
def Q3a:SC:=.seq (sR [mJ 3 0,eI 4 (.nilq (.t 3))] [0,4] Q28) Q29
def Q8w:SC:=sR [fI 2 (.mv (.k (.c (.sl true 1 []))))] [0] Q3a
theorem Q6v:mFn prog Qfv 1 8 Q8w Qcu=true:=by kernel_rfl
def Qeq:List Item:=[cJ 8 .geq 7 0,mJ 4 8]
def Qpv:SC:=sR (mJ 5 0::mJ 6 1::aJ 7 Qea [.t 5,.t 6]::Qeq) [4] .ret
def Qtd:SC:=sR [fB 4 false] [0,1] Qpv
theorem Qsv:mFn prog Qc2 2 9 Qtd Qm4=true:=by kernel_rfl
def Qd5:List Item:=[cJ 8 .geq 7 0,mJ 4 8]
def Qmv:SC:=sR (mJ 5 0::mJ 6 1::aJ 7 Qdc [.t 5,.t 6]::Qd5) [4] .ret
def Qpw:SC:=sR [fB 4 false] [0,1] Qmv
theorem Qo1:mFn prog Qck 2 9 Qpw Qm4=true:=by kernel_rfl
def Qgt:List Item:=[cJ 8 .geq 7 0,mJ 4 8]
def Qte:SC:=sR (mJ 5 0::mJ 6 1::aJ 7 Qfy [.t 5,.t 6]::Qgt) [4] .ret
def Q0q:SC:=sR [fB 4 false] [0,1] Qte
theorem Qyv:mFn prog Qdt 2 9 Q0q Qm4=true:=by kernel_rfl
def Q3c:SC:=cT 16 (sR [mJ 17 5,mJ 4 17] [4] .ret) .skip
def Q3d:SC:=sR [mJ 11 1,mJ 12 0,mJ 13 5,iJ 14 3 12 13,tJ 15 3 14,eI 16 (.callv (.t 11) [.t 15])] [0,1,5,7,8,16] Q3c
def Q3e:SC:=.reg [cJ 18 .add 8 1,mJ 8 18] [0,1,7,8]
def Q3f:SC:=.seq (.block 1 (sR [mJ 10 8,mJ 5 10] [0,1,5,7,8] Q3d)) Q3e
def Q0r:SC:=sR [bJ 9 .lss 8 7] [0,1,7,8,9] (cX 9 0 Q3f)
def Q3g:SC:=sR [zJ 4 (-1)] [4] .ret
def Q3h:SC:=.seq (sR [mJ 6 0,nJ 7 6,zJ 8 0] [0,1,7,8] (bL 0 Q0r)) Q3g
def Q8y:SC:=sR [zJ 4 0] [0,1] Q3h
theorem Q6x:mFn prog Qfx 2 19 Q8y Qm4=true:=by kernel_rfl
def Qxm:SC:=cT 16 (sR [mJ 17 5,mJ 4 17] [4] .ret) .skip
def Qxn:SC:=sR [mJ 11 1,mJ 12 0,mJ 13 5,iJ 14 5 12 13,tJ 15 5 14,eI 16 (.callv (.t 11) [.t 15])] [0,1,5,7,8,16] Qxm
def Qxo:SC:=.reg [cJ 18 .add 8 1,mJ 8 18] [0,1,7,8]
def Qxp:SC:=.seq (.block 1 (sR [mJ 10 8,mJ 5 10] [0,1,5,7,8] Qxn)) Qxo
def Qtf:SC:=sR [bJ 9 .lss 8 7] [0,1,7,8,9] (cX 9 0 Qxp)
def Qxq:SC:=sR [zJ 4 (-1)] [4] .ret
def Qxr:SC:=.seq (sR [mJ 6 0,nJ 7 6,zJ 8 0] [0,1,7,8] (bL 0 Qtf)) Qxq
def Q3i:SC:=sR [zJ 4 0] [0,1] Qxr
theorem Q1h:mFn prog Qea 2 19 Q3i Qm4=true:=by kernel_rfl
def Qrf:SC:=cT 16 (sR [mJ 17 5,mJ 4 17] [4] .ret) .skip
def Qrg:SC:=sR [mJ 11 1,mJ 12 0,mJ 13 5,iJ 14 1 12 13,lJ 15 14,eI 16 (.callv (.t 11) [.t 15])] [0,1,5,7,8,16] Qrf
def Qrh:SC:=.reg [cJ 18 .add 8 1,mJ 8 18] [0,1,7,8]
def Qri:SC:=.seq (.block 1 (sR [mJ 10 8,mJ 5 10] [0,1,5,7,8] Qrg)) Qrh
def Qpx:SC:=sR [bJ 9 .lss 8 7] [0,1,7,8,9] (cX 9 0 Qri)
def Qrj:SC:=sR [zJ 4 (-1)] [4] .ret
def Qrk:SC:=.seq (sR [mJ 6 0,nJ 7 6,zJ 8 0] [0,1,7,8] (bL 0 Qpx)) Qrj
def Qxs:SC:=sR [zJ 4 0] [0,1] Qrk
theorem Qum:mFn prog Qdc 2 19 Qxs Qm4=true:=by kernel_rfl
def Q3j:SC:=cT 16 (sR [mJ 17 5,mJ 4 17] [4] .ret) .skip
def Q3k:SC:=sR [mJ 11 1,mJ 12 0,mJ 13 5,iJ 14 1 12 13,lJ 15 14,bJ 16 .eql 11 15] [0,1,5,7,8,16] Q3j
def Q3l:SC:=.reg [cJ 18 .add 8 1,mJ 8 18] [0,1,7,8]
def Q3m:SC:=.seq (.block 1 (sR [mJ 10 8,mJ 5 10] [0,1,5,7,8] Q3k)) Q3l
def Q0s:SC:=sR [bJ 9 .lss 8 7] [0,1,7,8,9] (cX 9 0 Q3m)
def Q3n:SC:=sR [zJ 4 (-1)] [4] .ret
def Q3o:SC:=.seq (sR [mJ 6 0,nJ 7 6,zJ 8 0] [0,1,7,8] (bL 0 Q0s)) Q3n
def Q80:SC:=sR [zJ 4 0] [0,1] Q3o
theorem Q6y:mFn prog Qfy 2 19 Q80 Qm4=true:=by kernel_rfl
def Qki:List Item:=[oJ 9 8]
def Q3q:SC:=cT 9 (sR [zJ 2 1] [2] .ret) .skip
def Qkj:List Item:=[mJ 5 22,mJ 6 23]
def Qkk:List Item:=sJ 3 4 21::Qkj
def Qkl:List Item:=mJ 17 20::fI 21 (.ext (.t 17) 0)::fI 22 (.ext (.t 17) 1)::fI 23 (.ext (.t 17) 2)::eI 4 (.alloc [.str [],.sl true 1 [],.sl true 5 []])::Qkk
def Q3r:SC:=cT 25 (sR [mJ 26 5,mJ 2 26] [2] .ret) .skip
def Q3s:SC:=sR [mJ 24 5,cJ 25 .neq 24 0] [1,3,5,25] Q3r
def Q3t:SC:=.reg [mJ 15 3,cJ 16 .add 15 1,mJ 3 16] [1,3]
def Q3u:SC:=.seq (.block 1 (sR (tJ 18 1 1::mJ 19 3::aJ 20 Qavz [.t 18,.t 19]::Qkl) [1,3,5] Q3s)) Q3t
def Q0w:SC:=.seq (sR [mJ 10 3,fJ 11 0 1,lJ 12 11,nJ 13 12,bJ 14 .lss 10 13] [1,3,14] (cT 14 .skip (.exit 0))) Q3u
def Q0t:SC:=sR [zJ 2 0] [2] .ret
def Q0u:SC:=.seq (sR [zJ 3 0] [1,3] (bL 0 Q0w)) Q0t
def Q0v:SC:=.seq (sR (tJ 7 1 1::aJ 8 Qce [.t 7]::Qki) [1,9] Q3q) Q0u
def Q81:SC:=sR [vJ 1 0,zJ 2 0] [1] Q0v
theorem Q6z:mFn prog Qf0 1 27 Q81 Qcu=true:=by kernel_rfl
def Qha:List Item:=[mJ 4 7]
def Qx2:SC:=sR (mJ 5 0::mJ 6 1::aJ 7 Qed [.t 5,.t 6,.k (.c (.bool true))]::Qha) [4] .ret
def Q32:SC:=sR [zJ 4 0] [0,1] Qx2
theorem Q1k:mFn prog Qec 2 8 Q32 Qm4=true:=by kernel_rfl
def Qdd:List Item:=[fI 12 (.ext (.t 11) 0)]
def Qhb:List Item:=[mJ 18 2,fI 19 (.bin 1 .eql (.t 17) (.t 18))]
def Qx3:SC:=cT 19 (sR [mJ 20 7,mJ 6 20] [6] .ret) .skip
def Qx4:SC:=sR (mJ 15 1::mJ 16 8::eI 17 (.callv (.t 15) [.t 16])::Qhb) [1,2,7,10,19] Qx3
def Qx5:SC:=.block 1 (sR [fI 13 (.ext (.t 11) 1),fI 14 (.ext (.t 11) 2),mJ 7 13,mJ 8 14] [1,2,7,8,10] Qx4)
def Qt5:SC:=sR (eI 11 (.nxts (.t 10))::Qdd) [1,2,10,11,12] (cX 12 0 Qx5)
def Qx6:SC:=sR [zJ 6 (-1)] [6] .ret
def Qx7:SC:=.seq (sR [mJ 9 0,eI 10 (.rngs (.t 9))] [1,2,10] (bL 0 Qt5)) Qx6
def Q33:SC:=sR [zJ 6 0] [0,1,2] Qx7
theorem Q1l:mFn prog Qed 3 21 Q33 Qbe9=true:=by kernel_rfl
end Go.AE.Y
namespace Go.AE.Y
attribute [local go_sem] cond_true cond_false Bool.not_true Bool.not_false
open Go.Proofs.Tryz
variable {H:Heap}{K:V→Heap→Prop}
def levN (op:Int):Int:=if op=10 then 1 else if op=8∨op=9 then 2 else if op=3∨op=4 then 3 else if op=5∨op=6∨op=7 then 4 else 0
structure GK (H:Heap):Prop where
 keys:H Qf2=.gl Qf2 (keysL.map C.str)
 sign:∃ks rows,H Qbb=.gl Qbb [.cm true ks rows]∧∀op:Int,Qf5 0 (.int .i64 op) ((ks.zip rows).map fun e=>(e.1,V.ag e.2))∧
  ∃sg,(Qc0 (.int .i64 op) ((ks.zip rows).map fun e=>(e.1,V.ag e.2))).getD (.ag [.str [],.int .i64 0])=.ag [.str sg,.int .i64 (levN op)]
theorem GK.upd {H':Heap}{U:List (Nat×Obj)}(g:GK H)(hu:Upd H H' U)(h1:Qf2∉U.map Prod.fst)(h2:Qbb∉U.map Prod.fst):GK H':=by
 obtain⟨ks,rows,h3,h4⟩:=g.sign;exact⟨(hu.2 _ (by rw[g.keys];nofun) h1).trans g.keys,ks,rows,(hu.2 _ (by rw[h3];nofun) h2).trans h3,h4⟩
theorem GK.upd0 {H':Heap}(g:GK H)(hu:Upd H H' []):GK H':=g.upd hu (by simp) (by simp)
theorem GK.kn {H':Heap}{L:List (Nat×Obj)}(g:GK H)(kn:Kn H H' [] L):GK H':=by
 obtain⟨ks,rows,h3,h4⟩:=g.sign;exact⟨(kn.chg _ (by rw[g.keys];nofun) (by simp)).trans g.keys,ks,rows,(kn.chg _ (by rw[h3];nofun) (by simp)).trans h3,h4⟩
theorem Qa5l {r:Int}(hK:K (.c (.bool (decide (r<97) || decide (122<r)))) H):Ql prog Qcp [.c (.int .i32 r)] H K:=by
 refine Qc Qal Qajo ?_;refine Qa ?_;simp only[go_sem];refine Qa ?_;simp only[go_sem];refine Qh ?_;simp only[go_sem,Qp,Q8,Qcu,Ja,forall_eq,RS.op];have:(bif decide (r<97)then true else decide (122<r))=(decide (r<97) || decide (122<r)):=by cases decide (r<97) <;> rfl
 first|exact hK|(rw[this];exact hK)|(simpa[this]using hK)
theorem Qaq1 {s:List UInt8}(hK:∀(r:Int) (H':Heap),Upd H H' []→decide (r<0)=s.all Qcz→K (.c (.int .i64 r)) H') :
  Ql prog Qed [.c (.str s),.c (.fn Qcp []),.c (.bool true)] H K:=by
 refine Q5 ?_;refine Qc Qal Q1l ?_;have retf:∀(r:Int) (e:Env) (H':Heap) (L:List (Nat×Obj)),decide (r<0)=s.all Qcz→Kn H H' [] L→lk 6 e=.c (.int .i64 r)→Qp Qbe9 (unK H K) .ret e H':=by
  intro r e H' L hr kn h3;simp only[go_sem,Qp,Q8,Qbe9,Ja,forall_eq,RS.op,h3];exact⟨_,.c _ _ (Qg rfl),hK _ _ kn.fin hr⟩
 refine Qa ?_;simp only[go_sem];refine Q6 ?_;refine Qa ?_;simp only[go_sem];intro i hi H1 h1;have kn:=(Kn.start0 H).al hi h1;refine Qf (Qd (Qab (fun m e1 H1=>∃(q:Nat),m=s.length-q∧Kn H H1 [] [(i,.sit s q)]∧(∀x∈s.take q,Qcz x=true)∧
  lk 1 e1=.c (.fn Qcp [])∧lk 2 e1=.c (.bool true)∧lk 10 e1=.c (.itr i)) s.length ?_ ?_))
 ·exact⟨0,by omega,kn,by simp,rfl,rfl,rfl⟩
 ·clear kn;rintro m e1 H2 ⟨q,hm,kn,hall,l1,l2,l10⟩;have hit:=kn.l 0 rfl;refine Qa ?_;simp only[go_sem,l1,l2,l10,hit];refine⟨fun hle=>?_,fun c wd hlt hw h1 h2 H3 h3=>?_⟩
  ·simp only[go_sem,Qdd,l1,l2,l10,Jq];refine Qf (Qb rfl (fun h=>by cases h) (fun _=>?_));refine Q9 ?_;simp only[go_sem,AE.X.next];refine Qa ?_;simp only[go_sem];refine Qh ?_;rw[Je hle]at hall;exact retf (-1) _ _ _ (by rw[J9.2 hall];rfl) kn (by simp[lk])
  ·have kn:=kn.stL 0 rfl h3;have hbe:s.getD q 0=s[q]:=by simp[Jc,hlt]
   rw[hbe]at h1 h2;simp only[go_sem,Qdd,l1,l2,l10,Jq,Jt];refine Qf (Qb rfl (fun _=>?_) (fun h=>by cases h));refine Qe ?_;try simp only[go_sem]
   refine Qd ?_;refine Qa ?_;simp only[go_sem,Jq,Jt];refine Qa ?_;simp only[go_sem];refine Qa5l ?_;have hs:(decide (c<97) || decide (122<c)) = !Qcz s[q]:=by
    rw[Jp,Qcz];simp only[Jai,decide_eq_true_eq,J7,decide_eq_false_iff_not];rcases J6 s[q].toNat 128 with h|h
    ·have:=(h1 h).1;omega
    ·have:=h2 h;omega
   rw[hs];simp only[go_sem,Qhb];refine Qb rfl ?_ ?_
   ·intro hc;have hb:Qcz s[q]=false:=(by simpa using hc);refine Qa ?_;simp only[go_sem];refine Qh ?_;simp only[go_sem,AE.X.next];refine retf (q:Int) _ _ _ ?_ kn (by simp[lk]);rw[decide_eq_false (by omega)]
    symm
    rw[List.all_eq_false];exact⟨_,Jd hlt,by rw[hb];simp⟩
   ·intro hc;have hb:Qcz s[q]=true:=(by simpa using hc);refine Qe ?_;try simp only[go_sem]
    have hw1:wd=1:=by
     rcases J6 s[q].toNat 128 with h|h
     ·exact (h1 h).2
     ·exfalso;rw[Qcz,decide_eq_true_eq]at hb;omega
    subst hw1;show ∃m,_;refine⟨s.length-(q+1),by omega,q+1,rfl,kn,fun x hx=>?_,rfl,rfl,rfl⟩;rw[Jb hlt]at hx;rcases Jf.1 hx with h|h
    ·exact hall x h
    ·rw[Ja]at h;rw[h];exact hb
theorem Qaqk {s:List UInt8}(hK:∀(r:Int) (H':Heap),Upd H H' []→decide (r<0)=s.all Qcz→K (.c (.int .i64 r)) H') :
  Ql prog Qec [.c (.str s),.c (.fn Qcp [])] H K:=by
 refine Qc Qal Q1k ?_;refine Qa ?_;simp only[go_sem];refine Qa ?_;simp only[go_sem];refine Qaq1 fun r H' hu hr=>?_;simp only[go_sem,Qha];refine Qh ?_;simp only[go_sem,Qp,Q8,Qm4,Ja,forall_eq,RS.op];exact hK _ _ hu hr
theorem Qa1p {f:Bool}{ss:List (List UInt8)}{v:List UInt8}(hK:∀r:Int,decide (0≤r)=ss.contains v→K (.c (.int .i64 r)) H) :
  Ql prog Qfy [.c (.sl f 1 (Q0 ss)),.c (.str v)] H K:=by
 refine Qc Qal Q6y ?_;refine Qa ?_;simp only[go_sem];refine Q6 ?_;refine Qa ?_;simp only[go_sem,Qo];intro hl;simp only[LIM]at hl;refine Qf (Qd (Qab (fun m e1 H1=>∃(i:Nat),m=ss.length-i∧i≤ss.length∧H1=H∧v∉ss.take i∧e1=[(0,.c (.sl f 1 (Q0 ss))),(1,.c (.str v)),(7,.c (.int .i64 ss.length)),(8,.c (.int .i64 i))]) ss.length ?_ ?_))
 ·exact⟨0,by omega,by omega,rfl,by simp,rfl⟩
 ·rintro m e1 H1 ⟨i,hm,hi,rfl,hno,rfl⟩;refine Qa ?_;simp only[go_sem];refine Qf (Qb rfl ?_ ?_)
  ·intro hc;have hlt:i<ss.length:=by simpa using hc
   have hgd:ss.getD i []=ss[i]:=by simp[Jc,hlt]
   refine Qe ?_;simp only[go_sem];refine Qf (Qd ?_);refine Qa ?_;simp only[go_sem];refine Qa ?_;simp only[go_sem,hlt,Qo,Qbo _ _ hlt];refine Qb rfl ?_ ?_
   ·intro hc2;have hv:v=ss[i]:=(by first|simpa using hc2|(rw[←hgd];simpa using hc2));refine Qa ?_;simp only[go_sem];refine Qh ?_;simp only[go_sem,AE.X.next,Qp,Q8,Qm4,Ja,forall_eq,RS.op];refine hK _ ?_;have:v∈ss:=(by rw[hv];exact Jd hlt);rw[Jag.2 this];simp
   ·intro hc2;have hv:¬v=ss[i]:=(by first|simpa using hc2|(rw[←hgd];simpa using hc2));refine Qe ?_;simp only[go_sem];refine Qq ?_;simp only[go_sem,AE.X.next];refine⟨Q1 (by omega) (by omega),ss.length-(i+1),by omega,i+1,rfl,by omega,?_,rfl⟩;rw[Jb hlt];simp only[Jf,Ja,not_or];exact⟨hno,hv⟩
  ·intro hc;have hge:ss.length≤i:=by simpa using hc
   rw[Je hge]at hno;refine Q9 ?_;simp only[go_sem,AE.X.next];refine Qa ?_;simp only[go_sem];refine Qh ?_;simp only[go_sem,Qp,Q8,Qm4,Ja,forall_eq,RS.op];refine hK _ ?_;have:ss.contains v=false:=by
    cases hc:ss.contains v with
    |false=>rfl
    |true=>exact absurd (Jag.1 hc) hno
   rw[this];rfl
theorem Qan0 {f:Bool}{ss:List (List UInt8)}{v:List UInt8}(hK:K (.c (.bool (ss.contains v))) H) :
  Ql prog Qdt [.c (.sl f 1 (Q0 ss)),.c (.str v)] H K:=by
 refine Qc Qal Qyv ?_;refine Qa ?_;simp only[go_sem];refine Qa ?_;simp only[go_sem];refine Qa1p fun r hr=>?_;simp only[go_sem,Qgt];refine Qh ?_;simp only[go_sem,Qp,Q8,Qm4,Ja,forall_eq,RS.op];rw[hr];exact hK
theorem Qyl {n lo hi:Int}(hK:K (.c (.bool (decide (lo≤n)&&decide (n≤hi)))) H):Ql prog Qcx [.c (.int .i64 n),.c (.int .i64 lo),.c (.int .i64 hi)] H K:=by
 refine Qc Qal Qady ?_;refine Qa ?_;simp only[go_sem];refine Qa ?_;simp only[go_sem];refine Qh ?_;simp only[go_sem,Qp,Q8,Qbe9,Ja,forall_eq,RS.op];have:(bif decide (lo≤n)then decide (n≤hi)else false)=(decide (lo≤n)&&decide (n≤hi)):=by cases decide (lo≤n) <;> rfl
 first|exact hK|(rw[this];exact hK)|(simpa[this]using hK)
theorem Qo0 {s:List UInt8}(g:GK H)(hK:∀H',Upd H H' []→K (.c (.bool (Qc8 s))) H'):Ql prog Qdo [.c (.str s)] H K:=by
 refine Q5 ?_;refine Qc Qal Qawb ?_;have retf:∀(b:Bool) (e:Env) (H':Heap) (L:List (Nat×Obj)),b=Qc8 s→Kn H H' [] L→lk 2 e=.c (.bool b)→Qp Qcu (unK H K) .ret e H':=by
  rintro b e H' L rfl kn h3;simp only[go_sem,Qp,Q8,Qcu,Ja,forall_eq,RS.op,h3];exact⟨_,.c _ _ (Qg rfl),hK _ kn.fin⟩
 have kn:=Kn.start0 H;refine Qa ?_;simp only[go_sem];refine Qa ?_;simp only[go_sem];try intro _
 refine Qyl ?_;by_cases hl:1≤s.length∧s.length≤4
 ·have hd:(decide ((1:Int)≤(s.length:Int))&&decide ((s.length:Int)≤4))=true:=by simp;omega
  simp only[go_sem,Qom,hd];refine Qaqk fun r H1 hu hr=>?_;have kn:=kn.call0 hu;have g1:=g.upd0 hu
  cases hsm:s.all Qcz with
  |false=>
   rw[hsm]at hr;simp only[go_sem,Qh2,Qh1,hr];refine Qh ?_;exact retf false _ _ _ (by rw[Qc8,hsm];simp) kn (by simp[lk])
  |true=>
   rw[hsm]at hr;have hk:=g1.keys;simp only[go_sem,Qh2,hr,hk];refine⟨⟨by decide,by simp only[LIM];omega⟩,?_⟩;have e:List.map (fun c=>[c]) (List.take 9 (List.map C.str keysL))=Q0 keysL:=rfl;rw[e];refine Qan0 ?_;simp only[go_sem,Qh1];refine Qh ?_;exact retf _ _ _ _ (by rw[Qc8,hsm,decide_eq_true hl];simp) kn rfl
 ·have hd:(decide ((1:Int)≤(s.length:Int))&&decide ((s.length:Int)≤4))=false:=by
   rw[Jar,decide_eq_false_iff_not,decide_eq_false_iff_not];omega
  simp only[go_sem,Qom,Qh2,Qh1,hd];refine Qh ?_;exact retf false _ _ _ (by rw[Qc8,decide_eq_false hl];simp) kn (by simp[lk])
def levO (op:Int):Int:=if 0<levN op then levN op else if op=11∨op=12 then 5 else 6
theorem Qa7c {op:Int}(g:GK H)(hK:K (.c (.int .i64 (levO op))) H):Ql prog Qp7 [.c (.int .i64 op)] H K:=by
 obtain⟨ks,rows,hs,hl⟩:=g.sign;obtain⟨ho,sg,hf⟩:=hl op;have ret:∀(n:Int) (e:Env),n=levO op→lk 2 e=.c (.int .i64 n)→Qp Qcu K .ret e H:=by
  rintro n e rfl h3;simp only[go_sem,Qp,Q8,Qcu,Ja,forall_eq,RS.op,h3];exact hK
 refine Qc Qal Qare ?_;refine Qa ?_;simp only[go_sem];refine Qf (Qd ?_);refine Qa ?_;simp only[go_sem,hs,Qad,Qo4,hf,eq_true ho,Jaj,Jao];refine Qb rfl ?_ ?_
 ·intro hc;have h0:0<levN op:=of_decide_eq_true hc;refine Qa ?_;simp only[go_sem,hs,Qad,Qo4,hf,eq_true ho,Jaj,Jao];refine Qh ?_;simp only[go_sem,AE.X.next];exact ret _ _ (by rw[levO,if_pos h0]) (by simp[lk])
 ·intro hc;have h0:¬0<levN op:=of_decide_eq_false hc;refine Qa ?_;simp only[go_sem,Qja];refine Qb rfl ?_ ?_
  ·intro hc2;have h1:op=11∨op=12:=by simpa using hc2
   refine Qa ?_;simp only[go_sem];refine Qh ?_;simp only[go_sem,AE.X.next];exact ret _ _ (by rw[levO,if_neg h0,if_pos h1]) (by simp[lk])
  ·intro hc2;have h1:¬(op=11∨op=12):=by simpa using hc2
   refine Qe ?_;simp only[go_sem,AE.X.next];refine Qa ?_;simp only[go_sem];refine Qh ?_;exact ret _ _ (by rw[levO,if_neg h0,if_neg h1]) (by simp[lk])
theorem Qbjh {op:Int}:levO op<6↔3≤op∧op≤12:=by
 by_cases h:3≤op∧op≤12
 ·simp only[h,and_self,iff_true];rw[levO,levN];obtain⟨h1,h2⟩:=h;rcases (by omega:op=3∨op=4∨op=5∨op=6∨op=7∨op=8∨op=9∨op=10∨op=11∨op=12)with rfl|rfl|rfl|rfl|rfl|rfl|rfl|rfl|rfl|rfl <;> decide
 ·simp only[h,iff_false];have h0:levN op=0:=by rw[levN,if_neg (by omega),if_neg (by omega),if_neg (by omega),if_neg (by omega)]
  rw[levO,h0,if_neg (by omega),if_neg (by omega)];omega
theorem lev_pos {op:Int}:0<levN op↔3≤op∧op≤10:=by
 by_cases h:3≤op∧op≤10
 ·simp only[h,and_self,iff_true];obtain⟨h1,h2⟩:=h;rcases (by omega:op=3∨op=4∨op=5∨op=6∨op=7∨op=8∨op=9∨op=10)with rfl|rfl|rfl|rfl|rfl|rfl|rfl|rfl <;> decide
 ·simp only[h,iff_false];rw[levN,if_neg (by omega),if_neg (by omega),if_neg (by omega),if_neg (by omega)];omega
def hd1 (op n:Int)(name:List UInt8):Bool:=decide (1≤op∧op≤13)&&(!decide (op=1) || (decide (0≤n∧n≤255)&&decide (name=[])))&&(!decide (op=2∨op=13) || (Qc8 name&&decide (n=0)))
theorem Qarv:Qc8 []=false:=by decide
theorem Qbgu (op n:Int)(name:List UInt8)(k:Nat):Qac1 op n name k =
  (hd1 op n name&&(!decide (levO op<6) || (decide (n=0)&&decide (name=[])))&&(decide (Qdv op≤(k:Int))&&decide ((k:Int)≤Qdi op))):=by
 have hl:decide (levO op<6)=decide (3≤op∧op≤12):=by rw[decide_eq_decide];exact Qbjh
 rw[Qac1,hd1,hl,Jp];simp only[Jj,Jai,decide_eq_true_eq,beq_iff_eq,J7,decide_eq_false_iff_not];by_cases hn:name=[]
 ·subst hn;simp only[Qarv,decide_eq_false_iff_not];constructor
  ·rintro⟨⟨⟨⟨⟨h1,h2⟩,h3⟩,h4⟩,h5⟩,h6⟩;refine⟨⟨⟨⟨h1,?_⟩,?_⟩,?_⟩,h2⟩
   ·exact .inr ⟨h5,trivial⟩
   ·exact .inl h3
   ·rcases h6 with h6|h6
    ·exact .inl (by omega)
    ·exact .inr ⟨h6,trivial⟩
  ·rintro⟨⟨⟨⟨h1,h2⟩,h3⟩,h4⟩,h5⟩;have h3:¬(op=2∨op=13):=by
    rcases h3 with h3|⟨h3,_⟩
    ·exact h3
    ·cases h3
   refine⟨⟨⟨⟨⟨h1,h5⟩,h3⟩,.inr trivial⟩,?_⟩,?_⟩
   ·rcases h2 with h2|⟨h2,_⟩
    ·rcases h4 with h4|⟨h4,_⟩ <;> omega
    ·exact h2
   ·rcases h4 with h4|⟨h4,_⟩
    ·exact .inl (by omega)
    ·exact .inr h4
 ·simp only[hn,and_false,or_false];constructor
  ·rintro⟨⟨⟨⟨⟨h1,h2⟩,h3⟩,h4⟩,h5⟩,h6⟩;rw[decide_eq_true h4]at h3;refine⟨⟨⟨⟨h1,by omega⟩,?_⟩,by omega⟩,h2⟩;exact .inr ⟨h3.symm,by omega⟩
  ·rintro⟨⟨⟨⟨h1,h2⟩,h3⟩,h4⟩,h5⟩;have h6:op=2∨op=13:=by omega
   rcases h3 with h3|⟨h3,h7⟩
   ·exact absurd h6 h3
   ·exact⟨⟨⟨⟨⟨h1,h5⟩,by rw[h3];simp[h6]⟩,h6⟩,by omega⟩,.inr h7⟩
end Go.AE.Y
namespace Go.AE.Y
attribute [local go_sem] cond_true cond_false Bool.not_true Bool.not_false
open Go.Proofs.Tryz
variable {H H0:Heap}{K:V→Heap→Prop}
theorem Qbb6 {n:Int}(hK:K (.c (.bool (decide (0≤n)&&decide (n≤255)))) H):Ql prog Qh4 [.c (.int .i64 n)] H K:=by
 refine Qc Qal Qadt ?_;refine Qa ?_;simp only[go_sem];refine Qa ?_;simp only[go_sem];refine Qyl ?_;simp only[go_sem,Qop];refine Qh ?_;simp only[go_sem,Qp,Q8,Qcu,Ja,forall_eq,RS.op];exact hK
def SzOk (x:Ex)(most:Int)(n d:Int)(ok:Bool):Prop:=ok=(x.form most&&decide (x.size≤30))∧(ok=true→n=x.size∧0≤d∧d≤1000+most)
def Qbik (n:Nat):Prop:=∀(x:Ex) {H:Heap} {K:V→Heap→Prop} (most:Int),x.size≤n→x.size≤2^40→most≤100→GK H→
 (∀(n d:Int) (ok:Bool) H',Upd H H' []→SzOk x most n d ok→K (.tup [.c (.int .i64 n),.c (.int .i64 d),.c (.bool ok)]) H')→Ql prog Qhx [.ag x.cells,.c (.int .i64 most)] H K
theorem Qbem {x:Ex}{most:Int}{Q:X→Env→Heap→Prop}(kn:Kn H0 H [] [])(g:GK H)
  (hf:∀e' H',hd1 x.op x.n x.name=false→Kn H0 H' [] []→lk 4 e'=.c (.int .i64 0)→lk 5 e'=.c (.int .i64 0)→lk 6 e'=.c (.bool false)→Q .ret e' H')
  (hn:∀e' H',hd1 x.op x.n x.name=true→Kn H0 H' [] []→lk 1 e'=.c (.int .i64 most)→lk 2 e'=.c (.pp [.int .i64 x.op,.int .i64 x.n,.str x.name,.sl false 4 (Qt x.kids)])→lk 7 e'=.c (.int .i64 (Qdv x.op))→lk 8 e'=.c (.int .i64 (Qdi x.op))→Q .nrm e' H') :
  Q3 prog Qr1 Q [(1,.c (.int .i64 most)),(2,.c (.pp [.int .i64 x.op,.int .i64 x.n,.str x.name,.sl false 4 (Qt x.kids)])),(7,.c (.int .i64 0)),(8,.c (.int .i64 0)),(16,.c (.bool (decide (x.op=1))))] H:=by
 have ret:∀(e:Env) (H':Heap),hd1 x.op x.n x.name=false→Kn H0 H' [] []→Q3 prog (.seq (.reg (
   .f (some 4) none (.mv (.k (.c (.int .i64 0))))::
   .f (some 5) none (.mv (.k (.c (.int .i64 0))))::
   .f (some 6) none (.mv (.k (.c (.bool false))))::
   []) [4,5,6]) .ret) Q e H':=by
  intro e H' h kn;refine Qa ?_;simp only[go_sem];refine Qh ?_;exact hf _ _ h kn (by simp[lk]) (by simp[lk]) (by simp[lk])
 obtain⟨ks,rows,hs,hl⟩:=g.sign;obtain⟨ho,sg,hfd⟩:=hl x.op;refine Qb rfl ?_ ?_
 ·intro hc;have h1:x.op=1:=by simpa using hc
  refine Qa ?_;simp only[go_sem];refine Qbb6 ?_;simp only[go_sem,Qr3,Qja];refine Qb rfl ?_ ?_
  ·intro hc2;refine ret _ _ ?_ kn;rw[hd1,h1];revert hc2;by_cases ha:0≤x.n <;> by_cases hb:x.n≤255 <;> by_cases hn:x.name=[] <;> simp[ha,hb,hn]
  ·intro hc2;refine Qe ?_;have hk1:Qdv x.op=0:=by rw[h1];rfl
   have hk2:Qdi x.op=0:=by rw[h1];rfl
   refine hn _ H ?_ kn (by simp[lk]) (by simp[lk]) (by rw[hk1];simp[lk]) (by rw[hk2];simp[lk]);rw[hd1,h1];revert hc2;by_cases ha:0≤x.n <;> by_cases hb:x.n≤255 <;> by_cases hn:x.name=[] <;> simp[ha,hb,hn]
 intro hc;have h1:¬x.op=1:=by simpa using hc
 refine Qa ?_;simp only[go_sem];refine Qb rfl ?_ ?_
 ·intro hc2;have h2:x.op=2:=by simpa using hc2
  refine Qa ?_;simp only[go_sem];refine Qo0 g fun H1 hu=>?_;have kn:=kn.call0 hu;simp only[go_sem,Qr4,Qja];refine Qb rfl ?_ ?_
  ·intro hc3;refine ret _ _ ?_ kn;rw[hd1,h2];revert hc3;cases Qc8 x.name <;> by_cases hb:x.n=0 <;> simp[hb]
  ·intro hc3;refine Qe ?_;have hk1:Qdv x.op=0:=by rw[h2];rfl
   have hk2:Qdi x.op=0:=by rw[h2];rfl
   refine hn _ H1 ?_ kn (by simp[lk]) (by simp[lk]) (by rw[hk1];simp[lk]) (by rw[hk2];simp[lk]);rw[hd1,h2];revert hc3;cases Qc8 x.name <;> by_cases hb:x.n=0 <;> simp[hb]
 intro hc2;have h2:¬x.op=2:=by simpa using hc2
 refine Qa ?_;simp only[go_sem];refine Qb rfl ?_ ?_
 ·intro hc3;have h3:x.op=13:=by simpa using hc3
  refine Qa ?_;simp only[go_sem];refine Qa ?_;simp only[go_sem];refine Qo0 g fun H1 hu=>?_;have kn:=kn.call0 hu;simp only[go_sem,Qr5,Qja];refine Qb rfl ?_ ?_
  ·intro hc4;refine ret _ _ ?_ kn;rw[hd1,h3];revert hc4;cases Qc8 x.name <;> by_cases hb:x.n=0 <;> simp[hb]
  ·intro hc4;refine Qe ?_;have hk1:Qdv x.op=0:=by rw[h3];rfl
   have hk2:Qdi x.op=3:=by rw[h3];rfl
   refine hn _ H1 ?_ kn (by simp[lk]) (by simp[lk]) (by rw[hk1];simp[lk]) (by rw[hk2];simp[lk]);rw[hd1,h3];revert hc4;cases Qc8 x.name <;> by_cases hb:x.n=0 <;> simp[hb]
 intro hc3;have h3:¬x.op=13:=by simpa using hc3
 refine Qa ?_;simp only[go_sem,hs,Qad,Qo4,hfd,eq_true ho,Jaj,Jao];have hh:∀(h:3≤x.op∧x.op≤12),hd1 x.op x.n x.name=true:=fun h=>by
  rw[hd1,decide_eq_true (by omega:1≤x.op∧x.op≤13),decide_eq_false (by omega:¬x.op=1),decide_eq_false (by omega:¬(x.op=2∨x.op=13))];rfl
 refine Qb rfl ?_ ?_
 ·intro hc4;have h4:=lev_pos.1 (of_decide_eq_true hc4);refine Qq ?_;simp only[go_sem];have hk1:Qdv x.op=2:=by rw[Qdv,if_neg (by omega),if_neg (by omega)]
  have hk2:Qdi x.op=2:=by rw[Qdi,if_neg (by omega),if_neg (by omega),if_neg (by omega)]
  exact hn _ H (hh (by omega)) kn (by simp[lk]) (by simp[lk]) (by rw[hk1];simp[lk]) (by rw[hk2];simp[lk])
 intro hc4;have h4:¬(3≤x.op∧x.op≤10):=fun h=>absurd (lev_pos.2 h) (of_decide_eq_false hc4);refine Qa ?_;simp only[go_sem,Qja];refine Qb rfl ?_ ?_
 ·intro hc5;have h5:x.op=11∨x.op=12:=by simpa using hc5
  refine Qq ?_;simp only[go_sem];have hk1:Qdv x.op=1:=by rw[Qdv,if_neg (by omega),if_pos h5]
  have hk2:Qdi x.op=1:=by rw[Qdi,if_neg (by omega),if_pos h5]
  exact hn _ H (hh (by omega)) kn (by simp[lk]) (by simp[lk]) (by rw[hk1];simp[lk]) (by rw[hk2];simp[lk])
 ·intro hc5;have h5:¬(x.op=11∨x.op=12):=by simpa using hc5
  refine ret _ _ ?_ kn;rw[hd1,decide_eq_false (by omega:¬(1≤x.op∧x.op≤13))];rfl
theorem Qbh9 {S:Nat→Bool}(n d:Int)(b:Bool):FrzV H S (.tup [.c (.int .i64 n),.c (.int .i64 d),.c (.bool b)]) (.tup [.c (.int .i64 n),.c (.int .i64 d),.c (.bool b)]):=by
 refine .tup _ _ rfl fun j x x' h1 h2=>?_
 match j with
 |0=>simp at h1 h2;subst h1;subst h2;exact .c _ _ (Qg rfl)
 |1=>simp at h1 h2;subst h1;subst h2;exact .c _ _ (Qg rfl)
 |2=>simp at h1 h2;subst h1;subst h2;exact .c _ _ (Qg rfl)
theorem Qa18:∀n,Qbik n:=by
 intro n
 induction n with
 |zero=>intro x _ _ _ h;have:=x.size_pos;omega
 |succ n ih=>
 intro x H K most hn hs40 hmost g hK;have g0:=g;have hsz:=x.size_kids;refine Q5 ?_;refine Qc Qal Qaoq ?_;have ret:∀(n d:Int) (ok:Bool) (e:Env) (H':Heap) (L:List (Nat×Obj)),SzOk x most n d ok→Kn H H' [] L→lk 4 e=.c (.int .i64 n)→lk 5 e=.c (.int .i64 d)→lk 6 e=.c (.bool ok)→Qp Qga (unK H K) .ret e H':=by
  intro n d ok e H' L hf kn h4 h5 h6;simp only[go_sem,Qp,Q8,Qga,J8,Jah,RS.op,h4,h5,h6];exact⟨fun _=>trivial,_,Qbh9 n d ok,hK n d ok _ kn.fin hf⟩
 have retf:∀(e:Env) (H':Heap) (L:List (Nat×Obj)),(x.form most&&decide (x.size≤30))=false→Kn H H' [] L→lk 4 e=.c (.int .i64 0)→lk 5 e=.c (.int .i64 0)→lk 6 e=.c (.bool false)→Qp Qga (unK H K) .ret e H':=by
  intro e H' L hf kn h4 h5 h6;exact ret 0 0 false e H' L ⟨hf.symm,nofun⟩ kn h4 h5 h6
 have hfe:=x.form_eq most;rw[Qbgu,Qac2]at hfe;refine Qa ?_;simp only[go_sem,x.cells_eq];refine Qa ?_;simp only[go_sem];refine Qf (Qd ?_);refine Qa ?_;simp only[go_sem];refine Qbem (Kn.start0 H) g (fun e' H' hh kn h4 h5 h6=>?_) (fun e' H' hh kn l1 l2 l7 l8=>?_)
 ·simp only[go_sem,AE.X.next];exact retf _ _ _ (by rw[hfe,hh];simp) kn h4 h5 h6
 simp only[go_sem,AE.X.next];rw[hh]at hfe;have g:=g.kn kn;refine Q6 ?_;refine Qa ?_;simp only[go_sem,l1,l2,l7,l8];obtain⟨P,hP⟩:∃P,(decide (1≤most)&&((!decide (levO x.op<6) || (decide (x.n=0)&&decide (x.name=[])))&&(decide (Qdv x.op≤(x.kids.length:Int))&&decide ((x.kids.length:Int)≤Qdi x.op))))=P:=⟨_,rfl⟩;have hfe2:x.form most=(P&&x.kids.all fun y=>y.form (most-1)):=by rw[hfe,←hP];simp only[Ji,J4]
 have rest:∀b:Bool,b = !P→Q3 prog (s_im_exprSize_14.seq Qr2) (Qp Qga (unK H K))
   [(1,.c (.int .i64 most)),(2,.c (.pp [.int .i64 x.op,.int .i64 x.n,.str x.name,.sl false 4 (Qt x.kids)])),(97,.c (.bool b))] H':=by
  intro b hb;refine Qf (Qb rfl ?_ ?_)
  ·intro hc;have hA:P=false:=by rw[hc]at hb;simpa using hb.symm
   refine Qa ?_;simp only[go_sem];refine Qh ?_;simp only[go_sem,AE.X.next];exact retf _ _ _ (by rw[hfe2,hA];rfl) kn (by simp[lk]) (by simp[lk]) (by simp[lk])
  intro hc;have hA:P=true:=by rw[hc]at hb;simpa using hb.symm
  have hm1:1≤most:=by
   rw[hA,Jj,decide_eq_true_eq]at hP;exact hP.1
  rw[hA,Ji]at hfe2;refine Qe ?_;try simp only[go_sem]
  refine Qa ?_;simp only[go_sem];refine Q6 ?_;refine Qa ?_;simp only[go_sem,Qj];intro hl;simp only[LIM]at hl;refine Qf (Qd (Qab (fun m e1 H1=>∃(i:Nat) (d:Int),m=x.kids.length-i∧i≤x.kids.length∧Kn H H1 [] []∧((x.kids.take i).all fun y=>y.form (most-1))=true∧1≤d∧d≤1000+most∧
   e1=[(1,.c (.int .i64 most)),(9,.c (.int .i64 (1+Qu (x.kids.take i):Nat))),(10,.c (.int .i64 d)),(99,.c (.sl false 4 (Qt x.kids))),(100,.c (.int .i64 x.kids.length)),(101,.c (.int .i64 i))]) x.kids.length ?_ ?_))
  ·exact⟨0,1,by omega,by omega,kn,rfl,by omega,by omega,by simp[Qu]⟩
  ·clear kn g;rintro m e1 H2 ⟨i,d,hm,hi,kn,hall,hd0,hd1',rfl⟩;have g:=(‹GK H› : GK H).kn kn;refine Qa ?_;simp only[go_sem];refine Qf (Qb rfl ?_ ?_)
   ·intro hc;have hlt:i<x.kids.length:=(by simpa using hc);have hm:=Qau (Jd hlt);refine Qe ?_;try simp only[go_sem]
    refine Qf (Qd ?_);refine Qa ?_;simp only[go_sem,hlt,Qj,Qr _ _ hlt,x.kids[i].cells_eq];intro x12 hx12 H3 h3;have kn:=kn.al hx12 h3;have g12:=kn.l 0 rfl;simp only[go_sem,Qpj,g12];intro H4 h4;have kn:Kn H H4 [] [(x12,.st [.int .i64 x.kids[i].op,.int .i64 x.kids[i].n,.str x.kids[i].name,.sl false 4 (Qt x.kids[i].kids)])]:=kn.stL 0 rfl h4;have g:=g0.kn kn;clear g12;have g12:=kn.l 0 rfl;refine Qa ?_;simp only[go_sem,g12];refine⟨Q1 (by omega) (by omega),?_⟩;have hih:=@ih x.kids[i];rw[x.kids[i].cells_eq]at hih;refine hih (most-1) (by omega) (by omega) (by omega) g fun n' d' ok H5 hu hso=>?_;have kn:=Kn.drop (A:=[]) (kn.call0 hu);obtain⟨hso1,hso2⟩:=hso;simp only[go_sem,Qpk,Jq,Jt];refine Q6 ?_;refine Qa ?_;simp only[go_sem];have hel:=Q89 hlt;have hle:=Qld x.kids (i+1);refine Qf (Qb rfl ?_ ?_)
    ·intro hc2;have hok:ok=false:=(by simpa using hc2);refine Qa ?_;simp only[go_sem];refine Qh ?_;simp only[go_sem,AE.X.next];refine retf _ _ _ ?_ kn (by simp[lk]) (by simp[lk]) (by simp[lk]);rw[hok]at hso1;rcases Jar.1 hso1.symm with h|h
     ·rw[hfe2,Qoa hlt h];rfl
     ·rw[decide_eq_false_iff_not]at h;rw[decide_eq_false (by omega),Jau]
    ·intro hc2;have hok:ok=true:=(by simpa using hc2);obtain⟨hn',hd2,hd3⟩:=hso2 hok;rw[hok]at hso1;have hso1:=hso1.symm;rw[Jj,decide_eq_true_eq]at hso1;obtain⟨hs1,hs2⟩:=hso1;have hin:Qu (x.kids.take i)≤Qu x.kids:=Qld x.kids i;refine Qe ?_;try simp only[go_sem]
     refine Qa ?_;simp only[go_sem];refine⟨Q1 (by omega) (by omega),?_⟩;refine Qq ?_;simp only[go_sem,AE.X.next];refine⟨Q1 (by omega) (by omega),?_⟩;refine Qq ?_;simp only[go_sem,AE.X.next];refine⟨Q1 (by omega) (by omega),x.kids.length-(i+1),by omega,i+1,(if d'+1 > d then d'+1 else d),rfl,by omega,kn,by rw[Qhu hlt,hall,hs1];rfl,by split <;> omega,by split <;> omega,?_⟩;rw[show (((1+Qu (x.kids.take i):Nat):Int)+n')=((1+Qu (x.kids.take (i+1)):Nat):Int)by omega];rfl
   ·intro hc;have hge:x.kids.length≤i:=(by simpa using hc);rw[Je hge]at hall;rw[Je hge];refine Q9 ?_;simp only[go_sem,AE.X.next];refine Qa ?_;simp only[go_sem];refine Qh ?_;refine ret _ d _ _ _ _ ⟨?_,fun _=>⟨by rw[hsz],by omega,hd1'⟩⟩ kn (by simp[lk]) (by simp[lk]) rfl;rw[hfe2,hall,hsz,Ji,decide_eq_decide];omega
 refine Qa7c g ?_;simp only[go_sem,Qpi,l1,l2,l7,l8,Qja];intro hl;refine⟨fun hb=>?_,fun hb=>?_⟩
 ·have hb:=Qyw hb;refine Qyl ?_;simp only[go_sem,Qhq,hb,l1,l2,l7,l8,Qja,Qj];try intro _
  refine rest _ ?_;rw[←hP,Qa13 (a:=most)];revert hb;simp only[Qd9];cases decide (levO x.op<6) <;> cases decide (x.n=0) <;> cases decide (x.name=[]) <;> cases decide (Qdv x.op≤(x.kids.length:Int)) <;> cases decide ((x.kids.length:Int)≤Qdi x.op) <;> cases decide ((1:Int)≤most) <;> simp
 ·have hb:=Qmu hb;simp only[go_sem,Qhq,hb,l1,l2,l7,l8,Qja];try intro _
  refine rest _ ?_;rw[←hP];revert hb;simp only[Qd9];cases decide (levO x.op<6) <;> cases decide (x.n=0) <;> cases decide (x.name=[]) <;> simp
theorem Q4g {x:Ex}(hx:x.size≤2^40)(g:GK H)(hK:∀H',Upd H H' []→K (.c (.bool x.valid)) H'):Ql prog Qle [.ag x.cells] H K:=by
 refine Qc Qal Qajn ?_;refine Qa ?_;simp only[go_sem,x.cells_eq];refine Qa ?_;simp only[go_sem];have h:=@Qa18 x.size x;rw[x.cells_eq]at h;refine h 6 (Jm _) hx (by omega) g fun n d ok H' hu hso=>?_;simp only[go_sem,Qpb,Jq,Jt];refine Qa ?_;simp only[go_sem];refine Qh ?_;simp only[go_sem,Qp,Q8,Qcu,Ja,forall_eq,RS.op];rw[hso.1];exact hK _ hu
def acN (op:Int):Int:=if 1≤op∧op≤8 then (argN op:Int)else -1
theorem Qa1t {op:Int}(hK:K (.tup [.c (.int .i64 (acN op)),.c (.bool (decide (op=1∨op=2))),.c (.bool (decide (op=5∨op=6))),.c (.bool (decide (op=5)))]) H):Ql prog Qod [.c (.int .i64 op)] H K:=by
 refine Qc Qal Qaoo ?_;have ret:∀(n:Int) (a b c:Bool) (e:Env),n=acN op→a=decide (op=1∨op=2)→b=decide (op=5∨op=6)→c=decide (op=5)→lk 2 e=.c (.int .i64 n)→lk 3 e=.c (.bool a)→lk 4 e=.c (.bool b)→lk 5 e=.c (.bool c)→Qp Qf7 K .ret e H:=by
  intro n a b c e h1 h2 h3 h4 l2 l3 l4 l5;subst h1;subst h2;subst h3;subst h4;simp only[go_sem,Qp,Q8,Qf7,J8,Jah,RS.op,l2,l3,l4,l5];exact⟨fun _=>trivial,hK⟩
 have fin:∀(n:Int) (a b c:Bool) (e:Env) (Q:X→Env→Heap→Prop),(∀e,lk 2 e=.c (.int .i64 n)→lk 3 e=.c (.bool a)→lk 4 e=.c (.bool b)→lk 5 e=.c (.bool c)→Q .ret e H)→Q3 prog (.seq (.reg (
  .f (some 2) none (.mv (.k (.c (.int .i64 n))))::
  .f (some 3) none (.mv (.k (.c (.bool a))))::
  .f (some 4) none (.mv (.k (.c (.bool b))))::
  .f (some 5) none (.mv (.k (.c (.bool c))))::
  []) [2,3,4,5]) .ret) Q e H:=by
  intro n a b c e Q hq;refine Qa ?_;simp only[go_sem];refine Qh ?_;exact hq _ (by simp[lk]) (by simp[lk]) (by simp[lk]) (by simp[lk])
 refine Qa ?_;simp only[go_sem];refine Q6 ?_;refine Qa ?_;simp only[go_sem];refine Qf (Qd ?_);refine Q6 ?_;refine Qa ?_;simp only[go_sem];have one:∀(e:Env),(op=1∨op=2)→Q3 prog Qu7 (X.inBlock 0 (X.sq prog Qlw (Qp Qf7 K))) ((6,.c (.int .i64 op))::(7,.c (.bool true))::e) H:=by
  intro e h;refine Qb rfl (fun _=>?_) (fun h=>by cases h);refine fin 1 true false false _ _ fun e l2 l3 l4 l5=>?_;simp only[go_sem,AE.X.next];exact ret _ _ _ _ e (by rw[acN,if_pos (by omega),argN,if_neg (by omega)];rfl) (by rw[decide_eq_true h]) (by symm;rw[decide_eq_false_iff_not];omega) (by symm;rw[decide_eq_false_iff_not];omega) l2 l3 l4 l5
 refine Qf (Qb rfl ?_ ?_)
 ·intro hc;refine Qe ?_;simp only[go_sem];have h1:op=1:=by simpa using hc
  rw[hc];exact one [] (.inl h1)
 intro hc;have h1:¬op=1:=by simpa using hc
 refine Qq ?_;simp only[go_sem];by_cases h2:op=2
 ·rw[decide_eq_true h2];exact one [] (.inr h2)
 rw[decide_eq_false h2];refine Qb rfl (fun h=>by cases h) (fun _=>?_);refine Q6 ?_;refine Qa ?_;simp only[go_sem];have two:∀(b:Bool),b=decide (op=3∨op=7∨op=8)→Q3 prog Qu6 (X.inBlock 0 (X.sq prog Qlw (Qp Qf7 K))) [(6,.c (.int .i64 op)),(10,.c (.bool b))] H:=by
  intro b hb;refine Qb rfl (fun hc=>?_) (fun hc=>?_)
  ·rw[hb,decide_eq_true_eq]at hc;refine fin 1 false false false _ _ fun e l2 l3 l4 l5=>?_;simp only[go_sem,AE.X.next];exact ret _ _ _ _ e (by rw[acN,if_pos (by omega),argN,if_neg (by omega)];rfl) (by symm;rw[decide_eq_false_iff_not];omega) (by symm;rw[decide_eq_false_iff_not];omega) (by symm;rw[decide_eq_false_iff_not];omega) l2 l3 l4 l5
  rw[hb,decide_eq_false_iff_not]at hc;refine Qa ?_;simp only[go_sem];refine Qb rfl (fun hc4=>?_) (fun hc4=>?_)
  ·have h4:op=4:=by simpa using hc4
   refine fin 2 false false false _ _ fun e l2 l3 l4 l5=>?_;simp only[go_sem,AE.X.next];exact ret _ _ _ _ e (by rw[h4];rfl) (by rw[h4];rfl) (by rw[h4];rfl) (by rw[h4];rfl) l2 l3 l4 l5
  have h4:¬op=4:=by simpa using hc4
  refine Qa ?_;simp only[go_sem];refine Qb rfl (fun hc5=>?_) (fun hc5=>?_)
  ·have h5:op=5:=by simpa using hc5
   refine fin 1 false true true _ _ fun e l2 l3 l4 l5=>?_;simp only[go_sem,AE.X.next];exact ret _ _ _ _ e (by rw[h5];rfl) (by rw[h5];rfl) (by rw[h5];rfl) (by rw[h5];rfl) l2 l3 l4 l5
  have h5:¬op=5:=by simpa using hc5
  refine Qa ?_;simp only[go_sem];refine Qb rfl (fun hc6=>?_) (fun hc6=>?_)
  ·have h6:op=6:=by simpa using hc6
   refine fin 1 false true false _ _ fun e l2 l3 l4 l5=>?_;simp only[go_sem,AE.X.next];exact ret _ _ _ _ e (by rw[h6];rfl) (by rw[h6];rfl) (by rw[h6];rfl) (by rw[h6];rfl) l2 l3 l4 l5
  have h6:¬op=6:=by simpa using hc6
  refine Qe ?_;simp only[go_sem,AE.X.next];refine fin (-1) false false false _ _ fun e l2 l3 l4 l5=>?_;exact ret _ _ _ _ e (by rw[acN,if_neg (by omega)]) (by symm;rw[decide_eq_false_iff_not];omega) (by symm;rw[decide_eq_false_iff_not];omega) (by symm;rw[decide_eq_false_iff_not];omega) l2 l3 l4 l5
 refine Qf (Qb rfl ?_ ?_)
 ·intro hc3;have h3:op=3:=by simpa using hc3
  refine Qe ?_;simp only[go_sem];exact two _ (by rw[decide_eq_decide];omega)
 intro hc3;have h3:¬op=3:=by simpa using hc3
 refine Qa ?_;simp only[go_sem];refine Qb rfl ?_ ?_
 ·intro hc7;have h7:op=7:=by simpa using hc7
  refine Qe ?_;simp only[go_sem];exact two _ (by rw[decide_eq_decide];omega)
 intro hc7;have h7:¬op=7:=by simpa using hc7
 refine Qq ?_;simp only[go_sem];exact two _ (by rw[decide_eq_decide];omega)
def badS (op:Int)(name:List UInt8)(args:List Ex)(nb ne:Nat)(nest:Int):Bool:=
 decide (4<nest) || (!decide ((args.length:Int)=acN op) || ((decide (op=1∨op=2)&&!Qc8 name) || ((!decide (op=1∨op=2)&&!decide (name=[])) || ((!decide (op=5∨op=6)&&decide (0<nb)) || ((!decide (op=5)&&decide (0<ne)) ||
  (decide (op=8)&&!decide ((args.map Ex.op).getD 0 0=13)))))))
theorem acN_eq {op:Int}{k:Nat}:(k:Int)=acN op↔(1≤op∧op≤8)∧k=argN op:=by
 rw[acN];split <;> omega
theorem Qbfx (op:Int)(name:List UInt8)(args:List Ex)(nb ne:Nat)(nest:Int):(decide (1≤5-nest)&&Qaap op name args nb ne)=(!badS op name args nb ne nest&&args.all Ex.valid):=by
 have e1:decide (1≤5-nest) = !decide (4<nest):=by rw[Jp];simp;omega
 have e2:decide ((args.length:Int)=acN op)=(decide (1≤op∧op≤8)&&decide (args.length=argN op)):=by rw[Jp];simp only[Jj,decide_eq_true_eq];exact acN_eq
 have e3:decide (ne=0) = !decide (0<ne):=by rw[Jp];simp
 have e4:decide (nb=0) = !decide (0<nb):=by rw[Jp];simp
 have e5:(decide (op=1∨op=2) == Qc8 name)=true→decide (op=1∨op=2)=false→name=[]→True:=fun _ _ _=>trivial;rw[Qaap,badS,e1,e2,e3,e4];by_cases hn:name=[]
 ·subst hn;rw[Qarv];cases decide (4<nest) <;> cases decide (1≤op∧op≤8) <;> cases decide (args.length=argN op) <;> cases decide (op=1∨op=2) <;> cases decide (0<ne) <;> cases decide (0<nb) <;> cases decide (op=5) <;> cases decide (op=5∨op=6) <;> cases decide (op=8) <;> cases decide ((args.map Ex.op).getD 0 0=13) <;> cases args.all Ex.valid <;> rfl
 ·rw[decide_eq_false hn];cases decide (4<nest) <;> cases decide (1≤op∧op≤8) <;> cases decide (args.length=argN op) <;> cases decide (op=1∨op=2) <;> cases Qc8 name <;> cases decide (0<ne) <;> cases decide (0<nb) <;> cases decide (op=5) <;> cases decide (op=5∨op=6) <;> cases decide (op=8) <;> cases decide ((args.map Ex.op).getD 0 0=13) <;> cases args.all Ex.valid <;> rfl
theorem dpos (n:Nat):decide ((0:Int)<(n:Int))=decide (0<n):=by rw[decide_eq_decide];omega
theorem Qbh5 {x:St}{nest:Int}{Q:X→Env→Heap→Prop}(kn:Kn H0 H [] [])(g:GK H)
  (hn:∀e' H' b,b=badS x.op x.name x.args x.body.length x.els.length nest→Kn H0 H' [] []→lk 1 e'=.c (.int .i64 nest)→lk 2 e'=.c (.pp [.int .i64 x.op,.str x.name,.sl false 4 (Qt x.args),.sl false 5 (Qk x.body),.sl false 5 (Qk x.els)])→lk 19 e'=.c (.bool b)→Q .nrm e' H') :
  Q3 prog Q5f Q [(1,.c (.int .i64 nest)),(2,.c (.pp [.int .i64 x.op,.str x.name,.sl false 4 (Qt x.args),.sl false 5 (Qk x.body),.sl false 5 (Qk x.els)])),(5,.c (.int .i64 (acN x.op))),(6,.c (.bool (decide (x.op=1∨x.op=2)))),(7,.c (.bool (decide (x.op=5∨x.op=6)))),(8,.c (.bool (decide (x.op=5)))),(19,.c (.bool (decide (4<nest))))] H:=by
 refine Qb rfl (fun hc=>?_) (fun hc=>?_)
 ·rw[hc];refine Qe ?_;exact hn _ _ true (by simp only[badS,hc,Jab]) kn (by simp[lk]) (by simp[lk]) (by simp[lk])
 refine Qa ?_;simp only[go_sem,Qj];intro _;refine Qb rfl (fun hc1=>?_) (fun hc1=>?_)
 ·rw[hc1];refine Qe ?_;exact hn _ _ true (by simp only[badS,hc,hc1,Jab,Jac]) kn (by simp[lk]) (by simp[lk]) (by simp[lk])
 have hl:=acN_eq.1 (show (x.args.length:Int)=acN x.op by simpa using hc1);have rest:∀(b:Bool) (H1:Heap),b=(decide (x.op=1∨x.op=2)&&!Qc8 x.name)→Kn H0 H1 [] []→Q3 prog Q5e Q [(1,.c (.int .i64 nest)),(2,.c (.pp [.int .i64 x.op,.str x.name,.sl false 4 (Qt x.args),.sl false 5 (Qk x.body),.sl false 5 (Qk x.els)])),(6,.c (.bool (decide (x.op=1∨x.op=2)))),(7,.c (.bool (decide (x.op=5∨x.op=6)))),(8,.c (.bool (decide (x.op=5)))),(19,.c (.bool b))] H1:=by
  intro b H1 hb kn;refine Qb rfl (fun hc2=>?_) (fun hc2=>?_)
  ·rw[hc2]at hb;rw[hc2];refine Qe ?_;exact hn _ _ true (by simp only[badS,hc,hc1,←hb,Jab,Jac]) kn (by simp[lk]) (by simp[lk]) (by simp[lk])
  rw[hc2]at hb;refine Qa ?_;simp only[go_sem,Qd9];refine Qb rfl (fun hc3=>?_) (fun hc3=>?_)
  ·rw[hc3];refine Qe ?_;exact hn _ _ true (by simp only[badS,hc,hc1,←hb,hc3,Jab,Jac]) kn (by simp[lk]) (by simp[lk]) (by simp[lk])
  refine Qa ?_;simp only[go_sem,Qd9,Qx];try intro _
  refine Qb rfl (fun hc4=>?_) (fun hc4=>?_)
  ·rw[hc4];rw[dpos]at hc4;refine Qe ?_;exact hn _ _ true (by simp only[badS,hc,hc1,←hb,hc3,hc4,Jab,Jac]) kn (by simp[lk]) (by simp[lk]) (by simp[lk])
  rw[dpos]at hc4;refine Qa ?_;simp only[go_sem,Qd9,Qx];try intro _
  refine Qb rfl (fun hc5=>?_) (fun hc5=>?_)
  ·rw[hc5];rw[dpos]at hc5;refine Qe ?_;exact hn _ _ true (by simp only[badS,hc,hc1,←hb,hc3,hc4,hc5,Jab,Jac]) kn (by simp[lk]) (by simp[lk]) (by simp[lk])
  rw[dpos]at hc5;refine Qq ?_;have h1:0<x.args.length:=by rw[hl.2,argN];split <;> omega
  have hg0:=Qr x.args 0 h1;obtain⟨a,ea⟩:∃a,x.args[0]=a:=⟨_,rfl⟩;rw[ea]at hg0;have eo:(x.args.map Ex.op).getD 0 0=a.op:=by rw[←ea];simp[Jc,h1]
  simp only[go_sem,Qd9,Qj,h1,hg0,a.cells_eq]
  first
   |refine⟨fun _=>by omega,?_⟩
   |skip
  refine hn _ _ (decide (x.op=8)&&!decide (a.op=13)) ?_ kn (by simp[lk]) (by simp[lk]) (by simp[lk]);simp only[badS,hc,hc1,←hb,hc3,hc4,hc5,eo,Jab,Jac,Ji]
 by_cases hnm:x.op=1∨x.op=2
 ·have hd:decide (x.op=1∨x.op=2)=true:=decide_eq_true hnm;rw[hd]at rest;refine Qa ?_;simp only[go_sem,hd];refine Qo0 g fun H1 hu=>?_;simp only[go_sem,Qoq];exact rest _ _ rfl (kn.call0 hu)
 ·have hd:decide (x.op=1∨x.op=2)=false:=decide_eq_false hnm;rw[hd]at rest;refine Qa ?_;simp only[go_sem,hd,Qoq];exact rest _ _ rfl kn
theorem Qan2 {fl:Bool}{l:List St}{f:Nat}{caps:List C}{p:St→Bool}
  (hf:∀(x:St) (H1:Heap) (K':V→Heap→Prop),x∈l→Kn H H1 [] []→(∀H2,Upd H1 H2 []→K' (.c (.bool (p x))) H2)→Ql prog f ([.ag x.cells]++caps.map .c) H1 K')
  (hK:∀(r:Int) (H':Heap),Upd H H' []→decide (0≤r)=l.any p→K (.c (.int .i64 r)) H') :
  Ql prog Qea [.c (.sl fl 5 (Qk l)),.c (.fn f caps)] H K:=by
 refine Q5 ?_;refine Qc Qal Q1h ?_;refine Qa ?_;simp only[go_sem];refine Q6 ?_;refine Qa ?_;simp only[go_sem,Qx];intro hl;simp only[LIM]at hl;refine Qf (Qd (Qab (fun m e1 H1=>∃(i:Nat),m=l.length-i∧i≤l.length∧Kn H H1 [] []∧(∀x∈l.take i,p x=false)∧e1=[(0,.c (.sl fl 5 (Qk l))),(1,.c (.fn f caps)),(7,.c (.int .i64 l.length)),(8,.c (.int .i64 i))]) l.length ?_ ?_))
 ·exact⟨0,by omega,by omega,Kn.start0 H,by simp,rfl⟩
 ·rintro m e1 H1 ⟨i,hm,hi,kn,hall,rfl⟩;refine Qa ?_;simp only[go_sem];refine Qf (Qb rfl ?_ ?_)
  ·intro hc;have hlt:i<l.length:=by simpa using hc
   refine Qe ?_;simp only[go_sem];refine Qf (Qd ?_);refine Qa ?_;simp only[go_sem];refine Qa ?_;simp only[go_sem,hlt,Qx,Qbe _ _ hlt,St.take5,St.allOw,St.cells_len];refine hf _ _ _ (Jd hlt) kn fun H2 hu=>?_;have kn:=kn.call0 hu;refine Qb rfl ?_ ?_
   ·intro hc2;refine Qa ?_;simp only[go_sem];refine Qh ?_;simp only[go_sem,X.next,Qp,Q8,Qm4,Ja,forall_eq,RS.op];refine⟨_,.c _ _ (Qg rfl),hK _ _ kn.fin ?_⟩;have:l.any p=true:=Jaa.2 ⟨_,Jd hlt,hc2⟩;rw[this];simp
   ·intro hc2;refine Qe ?_;simp only[go_sem];refine Qq ?_;simp only[go_sem,X.next];refine⟨Q1 (by omega) (by omega),l.length-(i+1),by omega,i+1,rfl,by omega,kn,?_,rfl⟩;rw[Jb hlt];intro x hx;rcases Jf.1 hx with hx|hx
    ·exact hall x hx
    ·simp only[Ja]at hx;subst hx;exact hc2
  ·intro hc;have hge:l.length≤i:=by simpa using hc
   rw[Je hge]at hall;refine Q9 ?_;simp only[go_sem,X.next];refine Qa ?_;simp only[go_sem];refine Qh ?_;simp only[go_sem,Qp,Q8,Qm4,Ja,forall_eq,RS.op];refine⟨_,.c _ _ (Qg rfl),hK _ _ kn.fin ?_⟩;have:l.any p=false:=by
    cases hc:l.any p with
    |false=>rfl
    |true=>obtain⟨x,hx,hp⟩:=Jaa.1 hc;rw[hall x hx]at hp;exact absurd hp (by simp)
   rw[this];rfl
theorem Qaaq {fl:Bool}{l:List St}{f:Nat}{caps:List C}{p:St→Bool}
  (hf:∀(x:St) (H1:Heap) (K':V→Heap→Prop),x∈l→Kn H H1 [] []→(∀H2,Upd H1 H2 []→K' (.c (.bool (p x))) H2)→Ql prog f ([.ag x.cells]++caps.map .c) H1 K')
  (hK:∀(H':Heap),Upd H H' []→K (.c (.bool (l.any p))) H') :
  Ql prog Qc2 [.c (.sl fl 5 (Qk l)),.c (.fn f caps)] H K:=by
 refine Qc Qal Qsv ?_;refine Qa ?_;simp only[go_sem];refine Qa ?_;simp only[go_sem];refine Qan2 hf fun r H' hu hr=>?_;simp only[go_sem,Qeq];refine Qh ?_;simp only[go_sem,Qp,Q8,Qm4,Ja,forall_eq,RS.op];rw[hr];exact hK _ hu
def StOk (n:Nat):Prop:=∀(x:St) (nest:Int) (H:Heap) (K:V→Heap→Prop),x.size≤n→x.size≤2^40→0≤nest→nest≤100→GK H→(∀H',Upd H H' []→K (.c (.bool (x.form (5-nest)))) H')→Ql prog Qud [.ag x.cells,.c (.int .i64 nest)] H K
def BlOk (n:Nat):Prop:=∀(l:List St) (nest:Int) (fl:Bool) (H:Heap) (K:V→Heap→Prop),Qi l≤n→Qi l≤2^40→0≤nest→nest≤100→GK H→(∀H',Upd H H' []→K (.c (.bool (Qax l (5-nest)))) H')→
 Ql prog Qfr [.c (.sl fl 5 (Qk l)),.c (.int .i64 nest)] H K
theorem Qa5u {n:Nat}(hS:StOk n):BlOk n:=by
 intro l nest fl H K hn hb h0 hm g hK;refine Q5 ?_;refine Qc Qal Qaq9 ?_;refine Qa ?_;simp only[go_sem];refine Qa ?_;simp only[go_sem];have kn:=Kn.start0 H;refine Qaaq (p:=fun s=>!s.form (5-nest)) (fun x H1 K' hx kn hK'=>?_) fun H1 hu=>?_
 ·have hm2:=Qa3 hx;refine Qc Qal Qadp ?_;refine Qa ?_;simp only[go_sem,x.cells_eq];refine Qa ?_;simp only[go_sem];have h:=hS x nest;rw[x.cells_eq]at h;refine h _ _ (by omega) (by omega) h0 hm (g.kn kn) fun H2 hu=>?_;simp only[go_sem,Qne];refine Qh ?_;simp only[go_sem,Qp,Q8,Q9g,Ja,forall_eq,RS.op];exact hK' _ hu
 have kn:=kn.call0 hu;simp only[go_sem,Qu8];refine Qh ?_;simp only[go_sem,Qp,Q8,Qm4,Ja,forall_eq,RS.op];refine⟨_,.c _ _ (Qg rfl),?_⟩;have e:(!l.any fun s=>!s.form (5-nest))=Qax l (5-nest):=by rw[Q36,List.all_eq_not_any_not]
 rw[e];exact hK _ kn.fin
theorem Qbkk:∀n,StOk n:=by
 intro n
 induction n with
 |zero=>intro x nest H K hx;have:=x.size_eq;omega
 |succ n ih=>
 have hB:=Qa5u ih;intro x nest H K hn hb h0 hm g hK;have hse:=x.size_eq;have g0:=g;refine Q5 ?_;refine Qc Qal Qawd ?_;have hfe:x.form (5-nest)=(!badS x.op x.name x.args x.body.length x.els.length nest&&x.args.all Ex.valid&&(Qax x.body (5-(nest+1))&&Qax x.els (5-(nest+1)))):=by
  rw[x.form_eq,Qbfx,show 5-nest-1=5-(nest+1)by omega,J4]
 have retf:∀(b:Bool) (e:Env) (H':Heap) (L:List (Nat×Obj)),x.form (5-nest)=b→Kn H H' [] L→lk 4 e=.c (.bool b)→Qp Qm4 (unK H K) .ret e H':=by
  intro b e H' L hf kn h4;simp only[go_sem,Qp,Q8,Qm4,Ja,forall_eq,RS.op,h4];refine⟨_,.c _ _ (Qg rfl),?_⟩;rw[←hf];exact hK _ kn.fin
 have kn:=Kn.start0 H;refine Qa ?_;simp only[go_sem,x.cells_eq];refine Qa ?_;simp only[go_sem];refine Qa1t ?_;simp only[go_sem,Q05,Jq,Jt];refine Qf (Qd ?_);refine Q6 ?_;refine Qa ?_;simp only[go_sem];refine Qf (Qbh5 kn g fun e' H1 b hbad kn l1 l2 l19=>?_);clear g;have g:=g0.kn kn;simp only[go_sem];rw[←hbad]at hfe;refine Qb (by simp only[go_sem,l19];rfl) (fun hc=>?_) (fun hc=>?_)
 ·refine Qa ?_;simp only[go_sem];refine Qh ?_;simp only[go_sem,AE.X.next];exact retf false _ _ _ (by rw[hfe,hc];rfl) kn (by simp[lk])
 have hn4:nest≤4:=by
  rw[hc,badS]at hbad;have:=(Bool.or_eq_false_iff.1 hbad.symm).1;simpa using this
 rw[hc,Jaf,Ji]at hfe;refine Qe ?_;simp only[go_sem,AE.X.next];refine Q6 ?_;refine Qa ?_;simp only[go_sem,l1,l2,Qj];intro hl;simp only[LIM]at hl;refine Qf (Qd (Qab (fun m e1 H1=>∃(i:Nat),m=x.args.length-i∧i≤x.args.length∧Kn H H1 [] []∧((x.args.take i).all Ex.valid)=true∧
  e1=[(1,.c (.int .i64 nest)),(2,.c (.pp [.int .i64 x.op,.str x.name,.sl false 4 (Qt x.args),.sl false 5 (Qk x.body),.sl false 5 (Qk x.els)])),(69,.c (.sl false 4 (Qt x.args))),(70,.c (.int .i64 x.args.length)),(71,.c (.int .i64 i))]) x.args.length ?_ ?_))
 ·exact⟨0,by omega,by omega,kn,rfl,rfl⟩
 ·clear kn g;rintro m e1 H2 ⟨i,hm,hi,kn,hall,rfl⟩;have g:=g0.kn kn;refine Qa ?_;simp only[go_sem];refine Qf (Qb rfl ?_ ?_)
  ·intro hc;have hlt:i<x.args.length:=by simpa using hc
   have hm:=Qau (Jd hlt);refine Qe ?_;try simp only[go_sem]
   refine Qf (Qd ?_);refine Qa ?_;simp only[go_sem,hlt,Qj,Qr _ _ hlt,x.args[i].cells_eq];intro x10 hx10 H3 h3;have kn:=kn.al hx10 h3;have g12:=kn.l 0 rfl;simp only[go_sem,Q06,g12];intro H4 h4;have kn:Kn H H4 [] [(x10,.st [.int .i64 x.args[i].op,.int .i64 x.args[i].n,.str x.args[i].name,.sl false 4 (Qt x.args[i].kids)])]:=kn.stL 0 rfl h4;clear g12;have g:=g0.kn kn;have g12:=kn.l 0 rfl;refine Qa ?_;simp only[go_sem,g12];have hev:=@Q4g H4;have hev2:=fun K=>@Q4g H4 K x.args[i];simp only[x.args[i].cells_eq]at hev2;refine hev2 _ (by omega) g fun H5 hu=>?_;have kn:=Kn.drop (A:=[]) (kn.call0 hu);simp only[go_sem,Qvy];refine Qb rfl ?_ ?_
   ·intro hc2;refine Qa ?_;simp only[go_sem];refine Qh ?_;simp only[go_sem,AE.X.next];exact retf false _ _ _ (by rw[hfe,Qoa hlt (Qyw hc2)];rfl) kn (by simp[lk])
   ·intro hc2;refine Qe ?_;try simp only[go_sem]
    refine Qq ?_;simp only[go_sem,AE.X.next];exact⟨Q1 (by omega) (by omega),x.args.length-(i+1),by omega,i+1,rfl,by omega,kn,by rw[Qhu hlt,hall,Qmu hc2];rfl,rfl⟩
  ·intro hc;have hge:x.args.length≤i:=by simpa using hc
   rw[Je hge]at hall;rw[hall,Ji]at hfe;refine Q9 ?_;simp only[go_sem,AE.X.next];refine Qa ?_;simp only[go_sem];refine⟨Q1 (by omega) (by omega),?_⟩;refine hB x.body (nest+1) _ _ _ (by omega) (by omega) (by omega) (by omega) g fun H3 hu=>?_;have kn:=kn.call0 hu;have g:=g0.kn kn
   cases hb1:Qax x.body (5-(nest+1))with
   |false=>
    simp only[go_sem,Ql0,Qlz];refine Qh ?_;exact retf false _ _ _ (by rw[hfe,hb1];rfl) kn (by simp[lk])
   |true=>
    simp only[go_sem,Ql0];refine⟨Q1 (by omega) (by omega),?_⟩;refine hB x.els (nest+1) _ _ _ (by omega) (by omega) (by omega) (by omega) g fun H4 hu=>?_;have kn:=kn.call0 hu;simp only[go_sem,Qlz];refine Qh ?_;exact retf _ _ _ _ (by rw[hfe,hb1];rfl) kn rfl
theorem Qbip (n:Nat):BlOk n:=Qa5u (Qbkk n)
end Go.AE.Y
