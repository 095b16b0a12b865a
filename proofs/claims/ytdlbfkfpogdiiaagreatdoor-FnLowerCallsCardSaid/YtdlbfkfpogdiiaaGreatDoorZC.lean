/- Part 3 of the proof: the engine, codes, walks and plain laws, each named where it stands. -/
import Derived.Test.YtdlbfkfpogdiiaaGreatDoorZB
open Nat (reduceEqDiff reduceAdd reduceLeDiff reduceLT)
set_option linter.unusedVariables false
set_option linter.unusedSimpArgs false
set_option maxRecDepth 4000
set_option maxHeartbeats 2000000
open Bool renaming and_eq_true->Ji,true_and->Jt,eq_iff_iff->Jaa,not_eq_true'->Jab,and_assoc->Jac,false_and->Jaj,not_false->Jak,or_eq_true->Ja7,and_false->Jbe
open Int renaming eq_ofNat_of_zero_le->J3,tmod_lt_of_pos->Jai,tmod_nonneg->Jao,le_refl->Ja8
open List renaming mem_singleton->Ja,getD_eq_getElem?_getD->Jb,getElem_mem->Jc,take_of_length_le->Jd,mem_append->Je,take_succ_eq_append_getElem->Jf,mem_append_right->Jg,mem_append_left->Jh,cons_append->Jj,perm_append_comm->Jl,nil_append->Jm,getElem?_eq_getElem->Jn,append_assoc->Jo,length_cons->Jp,nodup_append->Jq,mem_of_getElem?->Jr,map_append->Js,mem_cons->Ju,mem_map->Jw,length_map->Jx,length_append->Jy,mem_cons_self->Jz,take_append_drop->J0,append_nil->J1,getElem_take->J2,length_eq_zero_iff->J4,map_cons->J5,length_nil->J6,mem_cons_of_mem->J7,pairwise_iff_getElem->J8,length_take->J9,length_singleton->Jad,mem_iff_getElem->Jae,length_set->Jaf,all_eq_true->Jal,any_eq_true->Jam,mem_flatMap->Jan,contains_iff_mem->Jap,map_nil->Jaq,forall_mem_cons->Jas,drop_zero->Jat,flatMap_append->Jau,getD_cons_succ->Jav,getD_cons_zero->Jaw,getElem_of_mem->Jax,set_cons_zero->Jay,flatMap_cons->Ja0,getElem?_map->Ja1,map_set->Ja2,not_mem_nil->Ja4,foldl_cons->Ja9,headD_cons->Jba,nodup_cons->Jbb,sum_append->Jbc,map_take->Jbf,set_set->Jbg
open List.Pairwise renaming filter->Jbi
open Nat renaming le_refl->Jk,zero_add->Jv,lt_pow_self->Jag,mul_le_mul_left->Jah,le_trans->Jar,one_le_two_pow->Jaz,lt_or_ge->Ja3,le_add_right->Ja5,le_succ->Jbd,mul_succ->Jbh
open Option renaming getD_some->Ja6
open Option.some renaming inj->Jbj
attribute [go_sem_proc] reduceIte reduceEqDiff reduceAdd reduceLeDiff reduceLT reduceCtorEq
namespace Go.AE.Y
open Go.Proofs.Tryz
theorem Qai:prog.follows .mixedOrders=true:=by kernel_rfl
theorem Qbnp (l : Nat) (fl : Bool) (bs : List UInt8) (k : Nat) (n : Int) (H : Heap) (K : V → Heap → Prop)
   (hH : H l = .st [.sl fl 1 (Qci bs), .int .i64 k]) (hp' : k ≤ 2^40)
   (hK : ∀ v : Int, (if n < 1 then v = 0 else 0 ≤ v ∧ v < n) → K (.c (.int .i64 v)) (H.set l (.st [.sl fl 1 (Qci bs), .int .i64 ((k + 1 : Nat) : Int)]))) :
   Ql prog Qx [.c (.ptr l 0), .c (.int .i64 n)] H K := by
  refine Qb Qai Qax1 ?_;refine Qa ?_;simp only [go_sem, Nat.reduceEqDiff, Nat.reduceAdd];refine Qa ?_;simp only [go_sem, Nat.reduceEqDiff, Nat.reduceAdd, Nat.reduceLT, hH];refine ⟨Qo (by omega) (by omega), fun H2 hH2' => ?_⟩;have hH2 : H2 l = .st [C.sl fl 1 (Qci bs), C.int IntKind.i64 (k + 1)] := by rw [hH2']; exact Heap.set_same _ _ _
  have hK2 : ∀ v : Int, (if n < 1 then v = 0 else 0 ≤ v ∧ v < n) → K (.c (.int .i64 v)) H2 := by
    intro v hv; rw [hH2']; exact hK v hv
  clear hK;refine Q4 ?_;refine Qa ?_;simp only [go_sem, Qb5, Nat.reduceEqDiff, Nat.reduceAdd, Nat.reduceLeDiff, hH2];intro _;refine Qf (Qc rfl ?_ ?_)
  · intro hc;refine Qa ?_;simp only [go_sem, Nat.reduceEqDiff];refine Qi ?_;simp only [go_sem, Qs, Q6, Qm6, Ja, forall_eq, RS.op];refine hK2 0 ?_;split <;> omega
  · intro hc;refine Qe ?_;simp only [go_sem];have hn : 1 ≤ n ∧ bs.length ≠ 0 := by
      simp only [cond_eq_ite] at hc;split at hc
      · simp at hc
      · simp at hc; simp_all
    refine Qa ?_;simp only [go_sem, Nat.reduceEqDiff, Nat.reduceAdd, hH2];refine ⟨Qo (by omega) (by omega), ?_⟩;refine Q4 ?_;refine Qa ?_;simp only [go_sem, Qb5, Nat.reduceEqDiff, Nat.reduceAdd, Nat.reduceLeDiff, hH2];intro hl;refine Qf (Qc rfl ?_ ?_)
    · intro hc2;have hk : k < bs.length := (by simpa using hc2);refine Qa ?_;simp only [go_sem, Qb5, Qa6y, Nat.reduceEqDiff, Nat.reduceAdd, Nat.reduceLeDiff, hH2, hk, Qab2];refine ⟨by omega, ?_⟩;refine Qi ?_;simp only [go_sem, Qs, Q6, Qm6, Ja, forall_eq, RS.op];refine hK2 _ ?_;rw [if_neg (by omega)];exact ⟨Jao _ (by omega), Jai _ (by omega)⟩
    · intro hc2;refine Qe ?_;simp only [go_sem];refine Qag ?_;have e1 : ((k : Int).tmod (bs.length : Int)) = ((k % bs.length : Nat) : Int) := rfl;have e2 : (((k : Int) * 7 + 3).tmod (bs.length : Int)) = (((k * 7 + 3) % bs.length : Nat) : Int) := rfl;have h1 : k % bs.length < bs.length := Nat.mod_lt _ (by omega);have h2 : (k * 7 + 3) % bs.length < bs.length := Nat.mod_lt _ (by omega);simp only [go_sem, Qb5, Qa6y, Nat.reduceEqDiff, Nat.reduceAdd, Nat.reduceLeDiff, hH2, e1, e2, h1, h2, Qab2];have e3 : (k : Int).tdiv (bs.length : Int) = ((k / bs.length : Nat) : Int) := rfl;have h3 : k / bs.length ≤ k := Nat.div_le_self _ _;rw [e3];have h4 := (bs.getD (k % bs.length) 0).toNat_lt;have h5 := (bs.getD ((k * 7 + 3) % bs.length) 0).toNat_lt;generalize (bs.getD (k % bs.length) 0).toNat = b1 at *;generalize (bs.getD ((k * 7 + 3) % bs.length) 0).toNat = b2 at *;generalize k / bs.length = d at *;clear e1 e2 h1 h2 e3;refine ⟨by omega, Qo (by omega) (by omega), Qo (by omega) (by omega), Qo (by omega) (by omega), by omega, Qo (by omega) (by omega), Qo (by omega) (by omega),
        Qo (by omega) (by omega), Qo (by omega) (by omega), ⟨by omega, Qo (by omega) (by omega)⟩, Qo (by omega) (by omega), Qo (by omega) (by omega), ?_⟩
      have hx : 0 ≤ (b1 : Int) * 131 + b2 * 1117 + k * 29 + d * 53 := (by omega);have hx' : (b1 : Int) * 131 + b2 * 1117 + k * 29 + d * 53 < 2 ^ 62 := (by omega);generalize (b1 : Int) * 131 + b2 * 1117 + k * 29 + d * 53 = x at *;refine Qa ?_;simp only [go_sem, Nat.reduceEqDiff];have hq : 0 ≤ x.tdiv 64 := Int.tdiv_nonneg hx (by omega);have hq' : x.tdiv 64 ≤ x := (by have := Int.tdiv_le_self (a := x) 64 hx; exact this);refine ⟨⟨by omega, Qo (by omega) (by omega)⟩, ?_⟩;have hy := Qbof hx hq hx' (by omega);generalize Qa8j .xor .i64 x (x.tdiv 64) = y at *;refine Qa ?_;simp only [go_sem, Nat.reduceEqDiff];refine ⟨by omega, ?_⟩;refine Qi ?_;simp only [go_sem, Qs, Q6, Qm6, Ja, forall_eq, RS.op];refine hK2 _ ?_;rw [if_neg (by omega)];exact ⟨Jao _ (by omega), Jai _ (by omega)⟩
theorem Qch {R:Rdr}{k:Nat}{n:Int}{H:Heap}{K:V→Heap→Prop}(hH:H R.l=R.o k)(hk:k≤2^40)
  (hK:∀(v:Int) (H':Heap),(if n<1 then v=0 else 0≤v∧v<n)→Upd H H' [(R.l,R.o (k+1))]→K (.c (.int .i64 v)) H') :
  Ql prog Qx [.c (.ptr R.l 0),.c (.int .i64 n)] H K:=
 Qbnp R.l R.fl R.bs k n H K hH hk fun v hv=>hK v _ hv ⟨by simp[Heap.set_same,Rdr.o],fun m _ hm=>Heap.set_other _ _ (by simpa using hm)⟩
theorem Qvd {R:Rdr}{k:Nat}{fl:Bool}{ns:List Int}{H:Heap}{K:V→Heap→Prop}(hH:H R.l=R.o k)(hk:k≤2^40)(hns:0<ns.length)
  (hK:∀(v:Int) (H':Heap),v∈ns→Upd H H' [(R.l,R.o (k+1))]→K (.c (.int .i64 v)) H') :
  Ql prog Qav [.c (.ptr R.l 0),.c (.sl fl 1 (Qk ns))] H K:=by
 refine Qb Qai Qa2s ?_;refine Qa ?_;simp only[go_sem];refine Qa ?_;simp only[go_sem,Qj];intro hl;refine Qch hH hk fun v H' hv hu=>?_;rw[if_neg (by omega)]at hv;obtain⟨i,rfl⟩:=J3 hv.1;have hi:i<ns.length:=by omega
 simp only[go_sem,Q3w,Qj,Qak,hi];refine Qi ?_;simp only[go_sem,Qs,Q6,Qm6,Ja,forall_eq,RS.op];refine hK _ H' ?_ hu;rw[Jb,Jn hi];exact Jc hi
theorem of_c {R:Rdr}{k:Nat}{fl:Bool}{ss:List (List UInt8)}{H:Heap}{K:V→Heap→Prop}(hH:H R.l=R.o k)(hk:k≤2^40)(hns:0<ss.length)
  (hK:∀(v:List UInt8) (H':Heap),v∈ss→Upd H H' [(R.l,R.o (k+1))]→K (.c (.str v)) H') :
  Ql prog Qbl [.c (.ptr R.l 0),.c (.sl fl 1 (Qab ss))] H K:=by
 refine Qb Qai Qa87 ?_;refine Qa ?_;simp only[go_sem];refine Qa ?_;simp only[go_sem,Qr];intro hl;refine Qch hH hk fun v H' hv hu=>?_;rw[if_neg (by omega)]at hv;obtain⟨i,rfl⟩:=J3 hv.1;have hi:i<ss.length:=by omega
 simp only[go_sem,Q8d,Qr,Qbv,hi];refine Qi ?_;simp only[go_sem,Qs,Q6,Qm6,Ja,forall_eq,RS.op];refine hK _ H' ?_ hu;rw[Jb,Jn hi];exact Jc hi
theorem Qa7d {R:Rdr}{k:Nat}{fl:Bool}{ss:List (List UInt8)}{H:Heap}{K:V→Heap→Prop}(hH:H R.l=R.o k)(hk:k+2≤2^40)
  (hK:∀(x:Ex) (H':Heap) (k':Nat),k<k'→k'≤k+2→Upd H H' [(R.l,R.o k')]→x.ok→x.size=1→K (.ag x.cells) H') :
  Ql prog Qu0 [.c (.ptr R.l 0),.c (.sl fl 1 (Qab ss))] H K:=by
 refine Q0 ?_;refine Qb Qai Qa7o ?_;refine Qa ?_;simp only[go_sem];intro x hx H1 h1;have kn:=(Kn.start1 hH (R.o_ne k)).al hx h1;refine Q4 ?_;refine Qa ?_;simp only[go_sem,Qr];intro hl;have rest:∀(b:Bool) (H2:Heap) (k2:Nat),k≤k2→k2≤k+1→Kn H H2 [(R.l,R.o k2)] [(x,.st [.int .i64 0,.int .i64 0,.str [],.sl true 4 []])]→(b=false→0<ss.length)→
   Q8 prog (s_l2Leaf_2.seq Qaaz) (Qs Qm7 (unK H K)) [(0,V.c (C.ptr R.l 0)),(1,V.c (C.sl fl 1 (Qab ss))),(4,V.c (C.ptr x 0)),(12,V.c (.bool b))] H2:=by
  intro b H2 k2 hk1 hk2 kn hb;refine Qf (Qc rfl ?_ ?_)
  ·intro hb';refine Qa ?_;simp only[go_sem];refine Qvd (ns:=[0,1,2,3,5,7,15,16,100,255]) (kn.e 0 rfl) (by omega) (by simp) fun v H3 hv hu=>?_;have kn:=kn.callE 0 rfl hu (R.o_ne _);have hx3:=kn.l 0 rfl;simp only[go_sem,Q5s,hx3];intro H4 h4;have kn:=kn.stL 0 rfl h4;have hx4:=kn.l 0 rfl;refine Qi ?_;simp only[go_sem,Qs,Q6,Qm7,Ja,forall_eq,RS.op,hx4];refine⟨_,(Ex.mk 1 v [] []).frz,hK _ _ (k2+1) (by omega) (by omega) kn.fin ?_ ?_⟩
   ·simp[Ex.ok,Qcx]
   ·simp[Ex.size,Qp]
  ·intro hb';refine Qe ?_;simp only[go_sem];refine Qa ?_;simp only[go_sem];refine of_c (kn.e 0 rfl) (by omega) (hb hb') fun v H3 hv hu=>?_;have kn:=kn.callE 0 rfl hu (R.o_ne _);have hx3:=kn.l 0 rfl;simp only[go_sem,Q5t,hx3];intro H4 h4;have kn:=kn.stL 0 rfl h4;have hx4:=kn.l 0 rfl;refine Qi ?_;simp only[go_sem,Qs,Q6,Qm7,Ja,forall_eq,RS.op,hx4];refine⟨_,(Ex.mk 2 0 v []).frz,hK _ _ (k2+1) (by omega) (by omega) kn.fin ?_ ?_⟩
   ·simp[Ex.ok,Qcx]
   ·simp[Ex.size,Qp]
 refine⟨fun hb=>?_,fun hb=>?_⟩
 ·refine Qch (kn.e 0 rfl) (by omega) fun v H2 hv hu=>?_;have kn:=kn.callE 0 rfl hu (R.o_ne _);simp only[go_sem,Qmf];refine rest _ H2 (k+1) (by omega) (by omega) kn ?_;intro h;have:¬ss.length=0:=by simpa using hb
  omega
 ·have hb2:decide ((ss.length:Int)=0)=true:=by simpa using hb
  simp only[go_sem,Qmf,hb2];exact rest true H1 k (by omega) (by omega) kn (fun h=>by simp at h)
variable {H:Heap}{K:V→Heap→Prop}
theorem Qbea {fl:Bool}{bs:List UInt8}(hK:∀(R:Rdr) (H':Heap),H R.l=.none→H'=H.set R.l (R.o 0)→K (.c (.ptr R.l 0)) H'):Ql prog Q86 [.c (.sl fl 1 (Qci bs))] H K:=by
 refine Qb Qai Qbes ?_;refine Qa ?_;simp only[go_sem];refine Q4 ?_;refine Qa ?_;simp only[go_sem,Qb5];intro _;have tail:∀(fl:Bool) (bs:List UInt8) (E1:Env),lk 0 E1=.c (.sl fl 1 (Qci bs))→Q8 prog Qaj6 (Qs Qer K) E1 H:=by
  intro fl bs E1 l0;refine Qa ?_;simp only[go_sem,l0];intro l hl H' h';simp only[go_sem,Qacn];refine Qi ?_;simp only[go_sem,Qs,Q6,Qer,Ja,forall_eq,RS.op];exact hK ⟨l,fl,bs⟩ H' hl h'
 refine Qf (Qc rfl ?_ ?_)
 ·intro hc;have h2:(2000:Int)<bs.length:=by simpa using hc
  refine Qq ?_;simp only[go_sem,Qb5];refine⟨⟨by omega,by omega,by omega⟩,?_⟩;have ht:List.take 2000 (Qci bs)=Qci (bs.take 2000):=by simp[Qci,Jbf]
  rw[ht];exact tail _ (bs.take 2000) _ (by simp[lk];rfl)
 ·intro hc;refine Qe ?_;exact tail fl bs _ (by simp[lk])
end Go.AE.Y
namespace Go.AE.Y
open Go.Proofs.Tryz
theorem Q68 {R : Rdr} {fl : Bool} {ss : List (List UInt8)} : ∀ (d : Nat) {k : Nat} {H : Heap} {K : V → Heap → Prop} (deep : Int), deep ≤ d → H R.l = R.o k → k + 6 * 2^d ≤ 2^40 →
    (∀ (x : Ex) (H' : Heap) (k' : Nat), k < k' → k' + 3 ≤ k + 6 * 2^d → Upd H H' [(R.l, R.o k')] → x.ok → k + x.size ≤ k' → K (.ag x.cells) H') →
    Ql prog Qds [.c (.ptr R.l 0), .c (.sl fl 1 (Qab ss)), .c (.int .i64 deep)] H K := by
  intro d
  induction d using Nat.strongRecOn with
  | ind d ih =>
  intro k H K deep hd hH hk hK;have hp1 : 1 ≤ 2^d := Jaz;have hp0 : d < 2^d := Nat.lt_two_pow_self;refine Q0 ?_;refine Qb Qai Qa7l ?_;refine Qa ?_;simp only [go_sem];intro x hx H1 h1;have kn := (Kn.start1 hH (R.o_ne k)).al hx h1;refine Q4 ?_;refine Qa ?_;simp only [go_sem];have rest : ∀ (b : Bool) (H2 : Heap) (k2 : Nat), k ≤ k2 → k2 ≤ k + 1 → Kn H H2 [(R.l, R.o k2)] [(x, .st [.int .i64 0, .int .i64 0, .str [], .sl true 4 []])] → (b = false → 2 ≤ deep) →
      Q8 prog (s_l2Expr_2.seq Q5f) (Qs Qqc (unK H K))
       [(0, V.c (C.ptr R.l 0)), (1, V.c (C.sl fl 1 (Qab ss))), (2, .c (.int .i64 deep)), (6, V.c (C.ptr x 0)), (14, V.c (.bool b))] H2 := by
    intro b H2 k2 hk1 hk2 kn hb;have fin : ∀ (op n : Int) (name : List UInt8) (fl : Bool) (kids : List Ex) (H3 : Heap) (k3 : Nat) (o : Obj), k < k3 → k3 + 3 ≤ k + 6 * 2^d → Kn H H3 [(R.l, R.o k3)] [(x, .st [.int .i64 op, .int .i64 n, .str name, .sl fl 4 (Qy kids)])] →
        (op = 10 → kids.length = 2) → Qcx kids → k + 1 + Qp kids ≤ k3 →
        Q6 Qqc [(6, V.c (C.ptr x 0))] H3 (unK H K) := by
      intro op n name fl kids H3 k3 o g1 g2 kn g3 g4 g5;have hx3 := kn.l 0 rfl;simp only [go_sem, Q6, Qqc, Ja, forall_eq, RS.op, hx3];refine ⟨_, (Ex.mk op n name kids).frz, hK _ _ k3 g1 g2 kn.fin ?_ ?_⟩
      · simp only [Ex.ok]; exact ⟨g3, g4⟩
      · simp only [Ex.size]; omega
    refine Qf (Qc rfl ?_ ?_)
    · intro hb';refine Qa ?_;simp only [go_sem];refine Qa7d (kn.e 0 rfl) (by omega) fun y H3 k3 g1 g2 hu hok hsz => ?_;have kn := kn.callE 0 rfl hu (R.o_ne _);have hx3 := kn.l 0 rfl;simp only [go_sem, Q5g, hx3, y.cells_eq];intro H4 h4;have kn := kn.stL 0 rfl h4;refine Qi ?_;simp only [go_sem, Qs];refine fin _ _ _ _ _ _ k3 .none (by omega) (by omega) kn (Ex.ok_and hok) (Ex.ok_kids hok) ?_;have := y.size_kids; omega
    · intro hb';have hdp := hb hb';have hp : 2^d = 2 * 2^(d-1) := (by rw [← Nat.pow_succ']; congr 1; omega);have hp2 : 1 ≤ 2^(d-1) := Jaz;have ihd := fun {k H K} => @ih (d-1) (by omega) k H K;generalize 2^(d-1) = e at *;refine Qe ?_;simp only [go_sem];refine Q4 ?_;refine Qa ?_;simp only [go_sem];refine Qch (kn.e 0 rfl) (by omega) fun v H3 hv hu => ?_;have kn := kn.callE 0 rfl hu (R.o_ne _);simp only [go_sem, Q5h];refine Qf (Qc rfl ?_ ?_)
      · intro hc;refine Qa ?_;simp only [go_sem];refine Qvd (ns := [11, 12, 11]) (kn.e 0 rfl) (by omega) (by simp) fun op H4 hop hu => ?_;have kn := kn.callE 0 rfl hu (R.o_ne _);simp only [go_sem, Q5j];refine ⟨Qo (by omega) (by omega), ?_⟩;refine ihd (deep - 1) (by omega) (kn.e 0 rfl) (by omega) fun y H5 k5 g1 g2 hu hok hsz => ?_;have kn := kn.callE 0 rfl hu (R.o_ne _);have hx5 := kn.l 0 rfl;simp only [go_sem, Q5i, hx5, y.cells_len];intro H6 h6;have kn := kn.stL 0 rfl h6;refine Qi ?_;simp only [go_sem, Qs];refine fin op 0 [] true [y] _ k5 .none (by omega) (by omega) kn (fun h => ?_) ⟨hok, trivial⟩ ?_
        · subst h; simp at hop
        · simp only [Qp]; omega
      · intro hc;refine Qe ?_;simp only [go_sem];refine Qa ?_;simp only [go_sem];refine Qvd (ns := [3, 3, 4, 5, 6, 7, 8, 9, 10]) (kn.e 0 rfl) (by omega) (by simp) fun op H4 hop hu => ?_;have kn := kn.callE 0 rfl hu (R.o_ne _);simp only [go_sem, Q5k];refine Qa ?_;simp only [go_sem];refine ⟨Qo (by omega) (by omega), ?_⟩;refine ihd (deep - 1) (by omega) (kn.e 0 rfl) (by omega) fun y H5 k5 g1 g2 hu hok hsz => ?_;have kn := kn.callE 0 rfl hu (R.o_ne _);simp only [go_sem, Q5m];refine ⟨Qo (by omega) (by omega), ?_⟩;refine ihd (deep - 1) (by omega) (kn.e 0 rfl) (by omega) fun z H6 k6 g3 g4 hu hok2 hsz2 => ?_;have kn := kn.callE 0 rfl hu (R.o_ne _);have hx5 := kn.l 0 rfl;simp only [go_sem, Q5l, hx5, y.cells_len, z.cells_len];intro H7 h7;have kn := kn.stL 0 rfl h7;refine Qi ?_;simp only [go_sem, Qs];refine fin op 0 [] true [y, z] _ k6 .none (by omega) (by omega) kn (fun h => rfl) ⟨hok, hok2, trivial⟩ ?_;simp only [Qp]; omega
  refine ⟨fun hb => ?_, fun hb => ?_⟩
  · refine Qch (kn.e 0 rfl) (by omega) fun v H2 hv hu => ?_;have kn := kn.callE 0 rfl hu (R.o_ne _);simp only [go_sem, Qmc];refine rest _ H2 (k + 1) (by omega) (by omega) kn ?_;intro h;have : ¬ deep < 2 := (by simpa using hb);omega
  · have hb2 : decide (deep < 2) = true := (by simpa using hb);simp only [go_sem, Qmc, hb2];exact rest true H1 k (by omega) (by omega) kn (fun h => by simp at h)
end Go.AE.Y
namespace Go.AE.Y
variable {H:Heap}{S:Nat→Bool}
inductive FrzR (H:Heap)(S:Nat→Bool):List (List C)→List (List C)→Prop
 |nil:FrzR H S [] []
 |cons {r r':List C} {l l':List (List C)} (h:FrzL H S r r') (t:FrzR H S l l'):FrzR H S (r::l) (r'::l')
theorem FrzR.spec {l l':List (List C)}(h:FrzR H S l l'):l'.length=l.length∧∀(i:Nat) (r r':List C),l[i]? = some r→l'[i]? = some r'→FrzL H S r r':=by
 induction h with
 |nil=>exact⟨rfl,fun j c c' h=>by simp at h⟩
 |cons h t ih=>
  refine⟨by simp[ih.1],fun j c c' h1 h2=>?_⟩
  cases j with
  |zero=>simp at h1 h2;subst h1;subst h2;exact h
  |succ j=>simp at h1 h2;exact ih.2 j c c' h1 h2
theorem FrzR.sl {fl:Bool}{sz:Nat}{l l':List (List C)}(h:FrzR H S l l'):FrzC H S (.sl fl sz l) (.sl false sz l'):=
 .sl fl sz l l' h.spec.1 (fun i r r' h1 h2=>(h.spec.2 i r r' h1 h2).spec.1) fun i r r' j c c' h1 h2 h3 h4=>(h.spec.2 i r r' h1 h2).spec.2 j c c' h3 h4
theorem FrzR.vsl {l sz n:Nat}{rows rows':List (List C)}(hS:S l=true)(hH:H l=.vec sz rows)(hn:n=rows.length)(h:FrzR H S rows rows'):FrzC H S (.vsl l sz 0 n) (.sl false sz rows'):=by
 subst hn;exact .vsl l sz 0 rows.length rows rows rows' hS hH (by omega) (by simp) h.spec.1 (fun i r r' h1 h2=>(h.spec.2 i r r' h1 h2).spec.1) fun i r r' j c c' h1 h2 h3 h4=>(h.spec.2 i r r' h1 h2).spec.2 j c c' h3 h4
end Go.AE.Y
namespace Go.AE
open Go.AE.Y
variable {H:Heap}{S:Nat→Bool}
theorem FrzL.same {l:List C}(h:noOw l=true):FrzL H S l l:=by
 induction l with
 |nil=>exact .nil
 |cons c r ih=>
  simp only[noOw,List.all_cons,Ji,Jab]at h ih;exact .cons (.same _ h.1) (ih (by simpa using h.2))
end Go.AE
namespace Go.AE.Y
variable {H:Heap}{S:Nat→Bool}
theorem FrzR.same {l:List (List C)}(h:∀r∈l,noOw r=true):FrzR H S l l:=by
 induction l with
 |nil=>exact .nil
 |cons c r ih=>exact .cons (.same (h _ Jz)) (ih fun x hx=>h x (J7 _ hx))
theorem FrzR.app {a a' b b':List (List C)}(h:FrzR H S a a')(k:FrzR H S b b'):FrzR H S (a++b) (a'++b'):=by
 induction h with
 |nil=>exact k
 |cons h t ih=>exact .cons h ih
end Go.AE.Y
namespace Go.AE
open Go.AE.Y
variable {H:Heap}{S:Nat→Bool}
theorem Upd.set2 {H H':Heap}{a b:Nat}{oa ob o:Obj}(h:Upd H H' [(a,oa),(b,ob)])(hn:a≠b):Upd H (H'.set b o) [(a,oa),(b,o)]:=by
 refine⟨fun p hp=>?_,fun m hm hx=>?_⟩
 ·simp at hp;rcases hp with rfl|rfl
  ·show (H'.set b o) a=oa;rw[Heap.set_other _ _ hn];exact h.1 (a,oa) (by simp)
  ·exact Heap.set_same _ _ _
 ·have:m≠b:=by simp at hx;exact hx.2
  rw[Heap.set_other _ _ this];exact h.2 m hm (by simpa using hx)
end Go.AE
namespace Go.AE.Y
variable {H:Heap}{S:Nat→Bool}
inductive St where
 |mk (op:Int) (name:List UInt8) (args:List Ex) (body els:List St)
def St.op:St→Int|.mk op _ _ _ _=>op
def St.name:St→List UInt8|.mk _ s _ _ _=>s
def St.args:St→List Ex|.mk _ _ a _ _=>a
def St.body:St→List St|.mk _ _ _ b _=>b
def St.els:St→List St|.mk _ _ _ _ e=>e
mutual
def St.cells:St→List C
 |.mk op name args body els=>[.int .i64 op,.str name,.sl false 4 (Qy args),.sl false 5 (Qm body),.sl false 5 (Qm els)]
def Qm:List St→List (List C)
 |[]=>[]
 |x::r=>x.cells::Qm r
end
theorem St.cells_eq (x:St):x.cells=[.int .i64 x.op,.str x.name,.sl false 4 (Qy x.args),.sl false 5 (Qm x.body),.sl false 5 (Qm x.els)]:=by
 cases x;simp[St.cells,St.op,St.name,St.args,St.body,St.els]
theorem Qpn (l:List St):Qm l=l.map St.cells:=by
 induction l with
 |nil=>simp[Qm]
 |cons x r ih=>simp[Qm,ih]
theorem Qu (l:List St):(Qm l).length=l.length:=by simp[Qpn]
theorem Qbc (l:List St)(i:Nat)(h:i<l.length):(Qm l).getD i []=(l[i]'h).cells:=by
 simp[Qpn,Jb,h]
theorem Qmn (a b:List St):Qm a++Qm b=Qm (a++b):=by simp[Qpn]
theorem Qbch (a:List St)(x:St):Qm a++[x.cells]=Qm (a++[x]):=by simp[Qpn]
theorem St.noOw (x:St):Go.AE.noOw x.cells=true:=by rw[x.cells_eq];rfl
theorem Qbt (l:List St):∀r∈Qm l,Go.AE.noOw r=true:=by
 intro r hr;rw[Qpn]at hr;obtain⟨x,_,rfl⟩:=Jw.1 hr;exact x.noOw
theorem St.cells_len (x:St):x.cells.length=5:=by rw[x.cells_eq];rfl
mutual
def St.size:St→Nat
 |.mk _ _ args body els=>1+Qp args+Qh body+Qh els
def Qh:List St→Nat
 |[]=>0
 |x::r=>x.size+Qh r
end
mutual
def St.ok:St→Prop
 |.mk _ _ args body els=>0<args.length∧Qcx args∧Qcn body∧Qcn els
def Qcn:List St→Prop
 |[]=>True
 |x::r=>x.ok∧Qcn r
end
theorem Qan5 {l:List St}(h:Qcn l):∀x∈l,x.ok:=by
 induction l with
 |nil=>simp
 |cons y r ih=>
  simp only[Qcn]at h;intro x hx;rcases Ju.1 hx with rfl|hx
  ·exact h.1
  ·exact ih h.2 x hx
theorem Qan4 {a b:List St}(ha:Qcn a)(hb:Qcn b):Qcn (a++b):=by
 induction a with
 |nil=>exact hb
 |cons x r ih=>simp only[Qcn]at ha;exact⟨ha.1,ih ha.2⟩
theorem Qbm (a b:List St):Qh (a++b)=Qh a+Qh b:=by
 induction a with
 |nil=>simp[Qh]
 |cons x r ih=>simp[Qh,ih];omega
theorem St.size_eq (x:St):x.size=1+Qp x.args+Qh x.body+Qh x.els:=by cases x;simp[St.size,St.args,St.body,St.els]
theorem St.ok_eq (x:St):x.ok=(0<x.args.length∧Qcx x.args∧Qcn x.body∧Qcn x.els):=by cases x;simp[St.ok,St.args,St.body,St.els]
theorem Qbg {l:List St}{x:St}(h:x∈l):x.size≤Qh l:=by
 induction l with
 |nil=>simp at h
 |cons y r ih=>
  simp only[Qh];rcases Ju.1 h with rfl|h
  ·omega
  ·have:=ih h;omega
structure Fn where
 name:List UInt8
 params:List (List UInt8)
 body:List St
def Fn.cells (f:Fn):List C:=[.str f.name,.sl false 1 (Qab f.params),.sl false 5 (Qm f.body)]
def Q1 (l:List Fn):List (List C):=l.map Fn.cells
theorem Qz (l:List Fn):(Q1 l).length=l.length:=by simp[Q1]
theorem Qat (l:List Fn)(i:Nat)(h:i<l.length):(Q1 l).getD i []=(l[i]'h).cells:=by
 simp[Q1,Jb,h]
theorem Q89 (a:List Fn)(x:Fn):Q1 a++[x.cells]=Q1 (a++[x]):=by simp[Q1]
theorem Fn.noOw (x:Fn):Go.AE.noOw x.cells=true:=rfl
theorem Fn.cells_len (x:Fn):x.cells.length=3:=rfl
theorem Qd5 (l:List Fn):∀r∈Q1 l,Go.AE.noOw r=true:=by
 intro r hr;obtain⟨x,_,rfl⟩:=Jw.1 hr;exact x.noOw
structure GS where
 fns:List Fn
 ffl:C×List (Nat×Obj)
 vars:List (List UInt8)
 vfl:Bool
 next:Int
 left:Int
def GS.o (s:GS)(R:Rdr):Obj:=.st [.ptr R.l 0,s.ffl.1,.sl s.vfl 1 (Qab s.vars),.int .i64 s.next,.int .i64 s.left]
theorem GS.o_ne (s:GS)(R:Rdr):s.o R≠.none:=by simp[GS.o]
structure GS.ok (s:GS)(k:Nat):Prop where
 n0:-1≤s.next
 n1:s.next≤k+10
 l0:-(4 * (k:Int)+10)≤s.left
 l1:s.left≤100
 v:s.vars.length≤k+10
 f:∀f∈s.fns,f.params.length≤3
 fn:s.fns.length≤3
theorem GS.ok.mono {s:GS}{k k':Nat}(h:s.ok k)(hk:k≤k'):s.ok k':=
 ⟨h.n0,by have:=h.n1;omega,by have:=h.l0;omega,h.l1,by have:=h.v;omega,h.f,h.fn⟩
end Go.AE.Y
namespace Go.AE.Y
open Go.Proofs.Tryz
theorem Qauf {R:Rdr}{gl k:Nat}{s:GS}{H:Heap}{K:V→Heap→Prop}(hR:H R.l=R.o k)(hG:H gl=s.o R)(hne:R.l≠gl)(hs:s.ok k)(hk:k+2≤2^30)
  (hK:∀(name:List UInt8) (H':Heap) (k':Nat),k+1≤k'→k'≤k+2→Upd H H' [(R.l,R.o k'),(gl,GS.o { s with next:=s.next+1 } R)]→K (.c (.str name)) H') :
  Ql prog Qno [.c (.ptr gl 0)] H K:=by
 have h0:=hs.n0;have h1':=hs.n1;refine Q0 ?_;refine Qb Qai Qaur ?_;refine Qa ?_;simp only[go_sem];refine Qa ?_;simp only[go_sem,hG,GS.o];refine⟨Qo (by omega) (by omega),fun H1 h1=>?_⟩;have kn:Kn H H1 [(R.l,R.o k),(gl,GS.o { s with next:=s.next+1 } R)] []:=(Kn.start2 hR (R.o_ne k) hG (s.o_ne R) hne).stE 1 rfl h1;have hG1:=kn.e 1 rfl;refine Q4 ?_;refine Qa ?_;simp only[go_sem,hG1,GS.o];refine Qch (kn.e 0 rfl) (by omega) fun v H2 hv hu=>?_;have kn:=kn.callE 0 rfl hu (R.o_ne _);have hG2:=kn.e 1 rfl;simp only[go_sem,Qrw,hG2,GS.o];intro hl;refine Qf (Qc rfl ?_ ?_)
 ·intro hc;have hv0:0<s.vars.length:=by
   rw[Qr]at hc;cases h:decide (v=0) <;> rw[h]at hc <;> simp_all
  refine Qag ?_;simp only[go_sem,hG2,GS.o];refine of_c (kn.e 0 rfl) (by omega) hv0 fun name H3 hn hu=>?_;have kn:=kn.callE 0 rfl hu (R.o_ne _);simp only[go_sem,Qrx];refine Qi ?_;simp only[go_sem,Qs,Q6,Qer,Ja,forall_eq,RS.op];exact⟨_,.c _ _ (Qg rfl),hK _ _ (k+1+1) (by omega) (by omega) kn.fin⟩
 ·intro hc;refine Qe ?_;simp only[go_sem];refine Qag ?_;have e1:0≤(s.next+1).tmod 24:=Jao _ (by omega);have e2:(s.next+1).tmod 24<24:=Jai _ (by omega);simp only[go_sem,hG2,GS.o];refine⟨by omega,by omega,Qo (by omega) (by omega),by omega,?_⟩;refine Qi ?_;simp only[go_sem,Qs,Q6,Qer,Ja,forall_eq,RS.op];exact⟨_,.c _ _ (Qg rfl),hK _ _ (k+1) (by omega) (by omega) kn.fin⟩
theorem Qahk {R:Rdr}{gl k:Nat}{s:GS}{x:Ex}{fl:Bool}{H:Heap}{K:V→Heap→Prop}(hR:H R.l=R.o k)(hG:H gl=s.o R)(hne:R.l≠gl)(hs:s.ok k)(hk:k+2≤2^30)
  (hK:∀(name:List UInt8) (H':Heap) (k':Nat),k+1≤k'→k'≤k+2→Upd H H' [(R.l,R.o k'),(gl,GS.o { s with next:=s.next+1,vars:=s.vars++[name],vfl:=false } R)]→K (.ag (St.mk 1 name [x] [] []).cells) H') :
  Ql prog Qmv [.c (.ptr gl 0),.ag [.int .i64 x.op,.int .i64 x.n,.str x.name,.sl fl 4 (Qy x.kids)]] H K:=by
 have hv:=hs.v;refine Qagt ?_;refine Qb Qai Qa2t ?_;refine Qa ?_;simp only[go_sem];intro y hy H1 h1;have kn:=(Kn.start2 hR (R.o_ne k) hG (s.o_ne R) hne).al hy h1;refine Qa ?_;simp only[go_sem];refine Qauf (kn.e 0 rfl) (kn.e 1 rfl) hne hs hk fun name H2 k' g1 g2 hu=>?_;have kn:=kn.callEE 0 1 rfl rfl (by decide) hu (R.o_ne _) (GS.o_ne _ _);have hG2:=kn.e 1 rfl;simp only[go_sem,Q3x];refine Qa ?_;have hL:s.vars.length≤LIM:=by simp only[LIM];omega
 have hL1:s.vars.length+1≤LIM:=by simp only[LIM];omega
 simp only[go_sem,hG2,GS.o,Qr,Jv,Jm,hL];refine⟨.inl trivial,Qc7 _,?_⟩;intro z hz H3 h3;have kn:=kn.al hz h3;have hz3:=kn.l 1 rfl;have hG3:=kn.e 1 rfl;simp only[go_sem,Q3z,hz3,Qr,Q6t,hL1,Jd];refine⟨by omega,fun z' hz' H4 h4=>?_⟩;have kn:=kn.ap 1 rfl hz' h4;have hG4:=kn.e 1 rfl;simp only[go_sem,Q3y,hG4,GS.o];intro H5 h5;have kn:=kn.stE 1 rfl h5;have hy5:=kn.l 0 rfl;refine Qa ?_;simp only[go_sem,hy5];intro H6 h6;have kn:=kn.stL 0 rfl h6;have hy6:=kn.l 0 rfl;refine Qi ?_;simp only[go_sem,Qs,Q6,Qaid,Ja,forall_eq,RS.op,hy6];refine⟨un H,(.ag (St.mk 1 name [x] [] []).cells),(H6.frz (un H)).set gl (GS.o { s with next:=s.next+1,vars:=s.vars++[name],vfl:=false } R),?_,?_,hK name _ k' g1 g2 (kn.fin.set2 hne)⟩
 ·simp only[St.cells,Qy,Qm,x.cells_eq];exact (FrzL.cons (Qg rfl) (.cons (Qg rfl) (.cons (FrzR.cons (.cons (Qg rfl) (.cons (Qg rfl) (.cons (Qg rfl) (.cons (FrzR.same (Qbs _)).sl .nil)))) .nil).sl (.cons (FrzR.nil).sl (.cons (FrzR.nil).sl .nil))))).ag
 ·refine (Q0e _ _).set (Qa6t (kn.usedE 1 rfl)) ?_;rw[kn.e 1 rfl];refine FrzKL.st (.same (.same (.cons rfl ?_ (.same (.same .nil)))));exact Qaub (kn.un 1 rfl) (kn.l 1 rfl) (by simp[Qab]) (Q7i (Qc7 _))
end Go.AE.Y
namespace Go.AE
variable {H0 H H':Heap}{E L B:List (Nat×Obj)}
theorem Upd.drop2 {H H':Heap}{a b:Nat}{oa ob:Obj}(h:Upd H H' [(a,oa),(b,ob)])(hb:H b=ob):Upd H H' [(a,oa)]:=by
 refine⟨fun p hp=>h.1 p (by simp at hp;subst hp;simp),fun m hm hx=>?_⟩;by_cases hmb:m=b
 ·subst hmb;rw[hb];exact h.1 (m,ob) (by simp)
 ·exact h.2 m hm (by simp at hx⊢;exact⟨hx,hmb⟩)
theorem Kn.perm {L':List (Nat×Obj)}(h:Kn H0 H E L)(hp:L.Perm L'):Kn H0 H E L':=
 ⟨fun p hp'=>h.get p (by
   rcases Je.1 hp' with a|a
   ·exact Jh _ a
   ·exact Jg _ (hp.mem_iff.2 a)),h.ext,fun p hp'=>h.loc p (hp.mem_iff.2 hp'),h.dE,(hp.map Prod.fst).nodup_iff.1 h.dL,h.chg⟩
def Gr (Lg:List (Nat×Obj))(sz:Nat)(rows:List (List C))(c:C):Prop:=
 (c=.sl true sz []∧rows=[]∧Lg=[])∨∃y,c=.vsl y sz 0 rows.length∧Lg=[(y,.vec sz rows)]
theorem Gr.nil (sz:Nat):Gr [] sz [] (.sl true sz []):=.inl ⟨rfl,rfl,rfl⟩
theorem Gr.mk (y sz:Nat)(rows:List (List C)){n:Nat}(hn:n=rows.length):Gr [(y,.vec sz rows)] sz rows (.vsl y sz 0 n):=.inr ⟨y,by rw[hn],rfl⟩
variable {sz:Nat}{rows:List (List C)}{c:C}{Lg:List (Nat×Obj)}
theorem Gr.isOw (h:Gr Lg sz rows c):c.isOw=false:=by rcases h with ⟨rfl,_⟩|⟨y,rfl,_⟩ <;> rfl
theorem Gr.elemSz (h:Gr Lg sz rows c):c.elemSz=sz:=by rcases h with ⟨rfl,_⟩|⟨y,rfl,_⟩ <;> rfl
theorem Gr.lenC (h:Gr Lg sz rows c):lenC c=rows.length:=by
 rcases h with ⟨rfl,rfl,_⟩|⟨y,rfl,_⟩ <;> rfl
theorem Gr.get (h:Gr Lg sz rows c)(kn:Kn H0 H E (B++Lg)):okSl H c∧rowsOf H c=rows:=by
 rcases h with ⟨rfl,rfl,_⟩|⟨y,rfl,rfl⟩
 ·exact⟨trivial,rfl⟩
 ·have hy:H y=.vec sz rows:=(kn.get (y,.vec sz rows) (by simp)).1;refine⟨?_,?_⟩
  ·simp[okSl,hy]
  ·simp[rowsOf,hy]
theorem Gr.okSl (h:Gr Lg sz rows c)(kn:Kn H0 H E (B++Lg)):Go.AE.okSl H c:=(h.get kn).1
theorem Gr.rowsOf (h:Gr Lg sz rows c)(kn:Kn H0 H E (B++Lg)):Go.AE.rowsOf H c=rows:=(h.get kn).2
theorem Gr.frz (h:Gr Lg sz rows c)(kn:Kn H0 H E (B++Lg))(hr:∀r∈rows,noOw r=true):FrzC H (un H0) c (.sl false sz rows):=by
 rcases h with ⟨rfl,rfl,_⟩|⟨y,rfl,rfl⟩
 ·exact Y.FrzR.nil.sl
 ·exact (Y.FrzR.same hr).vsl (Qn7 (kn.loc (y,.vec sz rows) (by simp))) (kn.get (y,.vec sz rows) (by simp)).1 rfl
theorem Gr.frzR {rows':List (List C)}(h:Gr Lg sz rows c)(kn:Kn H0 H E (B++Lg))(hr:Y.FrzR H (un H0) rows rows'):FrzC H (un H0) c (.sl false sz rows'):=by
 rcases h with ⟨rfl,rfl,_⟩|⟨y,rfl,rfl⟩
 ·cases hr;exact Y.FrzR.nil.sl
 ·exact hr.vsl (Qn7 (kn.loc (y,.vec sz rows) (by simp))) (kn.get (y,.vec sz rows) (by simp)).1 rfl
structure Slc (H:Heap)(sz:Nat)(rws:List (List C))(b:C):Prop where
 ok:okSl H b
 sz:b.elemSz=sz
 rows:rowsOf H b=rws
 len:Go.AE.lenC b=rws.length
theorem Slc.mk' (H:Heap)(fl:Bool)(sz:Nat)(rows:List (List C)):Slc H sz rows (.sl fl sz rows):=⟨trivial,rfl,rfl,rfl⟩
theorem Kn.grow {K:V→Heap→Prop}{new:List (List C)}{b:C}(kn:Kn H0 H E (B++Lg))(hc:Gr Lg sz rows c)(hb:Slc H sz new b)
  (h1:∀r∈new,noOw r=true) (h2:rows.length+new.length≤LIM)
  (h:∀y' H',Kn H0 H' E (B++[(y',.vec sz (rows++new))])→K (.c (.vsl y' sz 0 (rows.length+new.length))) H'):appQ H sz c b K:=by
 refine⟨hb.ok,hb.sz,?_⟩;rcases hc with ⟨rfl,rfl,rfl⟩|⟨y,rfl,rfl⟩
 ·simp only[hb.rows,hb.len,Jm,J6,Jv];refine⟨trivial,.inl trivial,h1,by simpa using h2,fun l hl H' hH'=>?_⟩;rw[J1]at kn;have:=h l H' (by simpa using kn.al hl hH');simpa using this
 ·have hy:H y=.vec sz rows:=(kn.get (y,.vec sz rows) (by simp)).1;simp only[hy,hb.rows,hb.len,Jat,List.take_length];refine⟨trivial,trivial,by omega,h1,h2,fun l' hl' H' hH'=>?_⟩;refine h l' H' ?_;have:=kn.ap B.length (y:=y) (o:=.vec sz rows) (by simp) hl' hH';simpa using this
end Go.AE
namespace Go.AE.Y
variable {H H':Heap}{R:Rdr}{gl:Nat}{s s':GS}{L:List (Nat×Obj)}{o q:Obj}
def FnsOk (H:Heap)(R:Rdr)(gl:Nat)(s:GS):Prop:=Gr s.ffl.2 3 (Q1 s.fns) s.ffl.1∧∀p∈s.ffl.2,H p.1=p.2∧p.1≠R.l∧p.1≠gl
theorem FnsOk.keep (h:FnsOk H R gl s)(kn:Kn H H' [(R.l,o),(gl,q)] L)(h1:s'.fns=s.fns)(h2:s'.ffl=s.ffl):FnsOk H' R gl s':=by
 refine⟨by rw[h1,h2];exact h.1,fun p hp=>?_⟩;rw[h2]at hp;obtain⟨a1,a2,a3⟩:=h.2 p hp;refine⟨?_,a2,a3⟩;have hn:p.2≠.none:=by
  rcases h.1 with ⟨_,_,hx⟩|⟨y,_,hx⟩
  ·rw[hx]at hp;simp at hp
  ·rw[hx]at hp;simp at hp;subst hp;simp
 rw[kn.chg p.1 (by rw[a1];exact hn) (by simp[a2,a3]),a1]
theorem FnsOk.rd (h:FnsOk H R gl s):okSl H s.ffl.1=True∧rowsOf H s.ffl.1=Q1 s.fns:=by
 rcases h.1 with ⟨h1,h2,h3⟩|⟨y,h1,h3⟩
 ·rw[h1,h2];exact⟨rfl,rfl⟩
 ·have hy:H y=.vec 3 (Q1 s.fns):=(h.2 (y,.vec 3 (Q1 s.fns)) (by rw[h3];simp)).1;rw[h1];exact⟨by simp[okSl,hy],by simp[rowsOf,hy]⟩
theorem FnsOk.ok (h:FnsOk H R gl s)(kn:Kn H H' [(R.l,o),(gl,q)] L):okSl H' s.ffl.1=True:=(h.keep kn rfl rfl).rd.1
theorem FnsOk.rows (h:FnsOk H R gl s)(kn:Kn H H' [(R.l,o),(gl,q)] L):rowsOf H' s.ffl.1=Q1 s.fns:=(h.keep kn rfl rfl).rd.2
theorem FnsOk.len (h:FnsOk H R gl s):lenC s.ffl.1=s.fns.length:=by rw[h.1.lenC,Qz]
theorem FnsOk.esz (h:FnsOk H R gl s):s.ffl.1.elemSz=3:=h.1.elemSz
theorem FnsOk.ow (h:FnsOk H R gl s):s.ffl.1.isOw=false:=h.1.isOw
end Go.AE.Y
namespace Go.AE.Y
open Go.Proofs.Tryz
theorem Qc0 {R : Rdr} {gl k : Nat} {s : GS} {H : Heap} {K : V → Heap → Prop} (deep : Int) (hd : deep ≤ 3) (hR : H R.l = R.o k) (hG : H gl = s.o R) (hne : R.l ≠ gl) (hs : s.ok k) (hF : FnsOk H R gl s) (hk : k + 200 ≤ 2^30)
    (hK : ∀ (x : Ex) (H' : Heap) (k' : Nat), k < k' → k' ≤ k + 200 → Upd H H' [(R.l, R.o k')] → x.ok → k + x.size ≤ k' → K (.ag x.cells) H') :
    Ql prog Qbo [.c (.ptr gl 0), .c (.int .i64 deep)] H K := by
  have hfl := hs.fn;refine Q0 ?_;refine Qb Qai Qax4 ?_;refine Qa ?_;simp only [go_sem];intro x4 hx4 H1 h1;have kn := (Kn.start2 hR (R.o_ne k) hG (s.o_ne R) hne).al hx4 h1;have hG1 := kn.e 1 rfl;refine Qag ?_;simp only [go_sem, hG1, GS.o];refine Q68 3 deep (by omega) (kn.e 0 rfl) (by omega) fun e H2 k2 g1 g2 hu heok hesz => ?_;have kn := kn.callE 0 rfl hu (R.o_ne _);have hG2 := kn.e 1 rfl;simp only [go_sem, Qxq];intro x5 hx5 H3 h3;have kn := kn.al hx5 h3;have hG3 := kn.e 1 rfl;have hx53 := kn.l 1 rfl;simp only [go_sem, Qxp, hG3, hx53, GS.o, e.cells_eq];intro H4 h4;have kn := kn.stL 1 rfl h4;have hG4 := kn.e 1 rfl;refine Q4 ?_;refine Qa ?_;simp only [go_sem, hG4, GS.o, hF.ow, hF.ok kn, hF.len];intro hl;have fin : ∀ (op n : Int) (name : List UInt8) (c : C) (kids : List Ex) (H3 : Heap) (k3 : Nat) (L : List (Nat × Obj)), k < k3 → k3 ≤ k + 200 → Kn H H3 [(R.l, R.o k3), (gl, s.o R)] L →
      L[0]? = some (x4, .st [.int .i64 op, .int .i64 n, .str name, c]) → c.isOw = false → FrzC H3 (un H) c (.sl false 4 (Qy kids)) → (Ex.mk op n name kids).ok → k + (Ex.mk op n name kids).size ≤ k3 →
      Q6 Qm7 [(4, V.c (C.ptr x4 0))] H3 (unK H K) := by
    intro op n name c kids H3 k3 L g1 g2 kn g3 hno g4 g5 g6;have hx3 := kn.l 0 g3;simp only [go_sem, Q6, Qm7, Ja, forall_eq, RS.op, hx3, hno];refine ⟨(.ag (Ex.mk op n name kids).cells), ?_, hK _ _ k3 g1 g2 (kn.fin.drop2 hG) g5 g6⟩;rw [Ex.cells_eq];exact (FrzL.cons (Qg rfl) (.cons (Qg rfl) (.cons (Qg rfl) (.cons g4 .nil)))).ag
  have rest : ∀ (b : Bool) (H2 : Heap) (k3 : Nat), k2 ≤ k3 → k3 ≤ k2 + 1 → Kn H H2 [(R.l, R.o k3), (gl, s.o R)] [(x4, .st [.int .i64 0, .int .i64 0, .str [], .sl true 4 []]), (x5, .st [.int .i64 e.op, .int .i64 e.n, .str e.name, .sl false 4 (Qy e.kids)])] →
      (b = false → 0 < s.fns.length) →
      Q8 prog (s_l3Gen_expr_3.seq Qxo) (Qs Qm7 (unK H K))
       [(0, V.c (C.ptr gl 0)), (4, V.c (C.ptr x4 0)), (5, V.c (C.ptr x5 0)), (32, .c (.bool b))] H2 := by
    intro b H2 k3 g3 g4 kn hb;have hx52 := kn.l 1 rfl;have hx42 := kn.l 0 rfl;refine Qf (Qc rfl ?_ ?_)
    · intro hb';refine Qa ?_;simp only [go_sem, hx52, hx42];intro H3 h3;have kn := kn.stL 0 rfl h3;refine Qi ?_;simp only [go_sem, Qs]
      cases e with
      | mk op n name kids => exact fin op n name _ kids H3 k3 _ (by omega) (by omega) kn rfl rfl (Qbdo (Q7i (Qbs _))) heok (by omega)
    · intro hb';have hfn := hb hb';refine Qe ?_;simp only [go_sem];have hG3 := kn.e 1 rfl;refine Qag ?_;simp only [go_sem, hG3, GS.o, hF.ow, hF.ok kn, hF.len];refine Qch (kn.e 0 rfl) (by omega) fun v H3 hv hu => ?_;have kn := kn.callE 0 rfl hu (R.o_ne _);rw [if_neg (by omega)] at hv;obtain ⟨i, rfl⟩ := J3 hv.1;have hi : i < s.fns.length := (by omega);have hG4 := kn.e 1 rfl;simp only [go_sem, Qxs, hG4, GS.o, hF.ow, hF.ok kn, hF.len, hF.rows kn, hF.esz, hi, Qat _ _ hi, Fn.cells];intro x6 hx6 H4 h4;have kn := kn.al hx6 h4;have hG5 := kn.e 1 rfl;have hx64 := kn.l 2 rfl;simp only [go_sem, Qxr, hG5, hx64, GS.o, hF.ow, hF.ok kn, hF.len, hF.rows kn, hF.esz, hi, Qat _ _ hi, Fn.cells];have hpar := hs.f _ (Jc hi);generalize s.fns[i] = f at *;intro H5 h5;have kn := kn.stL 2 rfl h5;have hx65 := kn.l 2 rfl;refine Qa ?_;simp only [go_sem, hx65];intro x7 hx7 H6 h6;have kn := kn.al hx7 h6;have hx67 := kn.l 2 rfl;have hx77 := kn.l 3 rfl;simp only [go_sem, Qxt, hx77];intro H7 h7;have kn := kn.stL 3 rfl h7;refine Q4 ?_;refine Qa ?_;simp only [go_sem];refine Qf (Qd (Qw (fun n e1 H1 => ∃ (i k4 : Nat) (kids : List Ex) (c : C) (Lg : List (Nat × Obj)), n = f.params.length - i ∧ i ≤ f.params.length ∧ k4 ≤ k3 + 1 + 21 * i ∧ k3 + 1 + Qp kids ≤ k4 ∧ Qcx kids ∧ kids.length = i ∧
        Gr Lg 4 (Qy kids) c ∧ Kn H H1 [(R.l, R.o k4), (gl, s.o R)] ([(x4, .st [.int .i64 0, .int .i64 0, .str [], .sl true 4 []]), (x5, .st [.int .i64 e.op, .int .i64 e.n, .str e.name, .sl false 4 (Qy e.kids)]),
          (x6, .st [.str f.name, .sl false 1 (Qab f.params), .sl false 5 (Qm f.body)]), (x7, .st [.int .i64 13, .int .i64 0, .str f.name, c])] ++ Lg) ∧
        e1 = [(0, V.c (C.ptr gl 0)), (4, V.c (C.ptr x4 0)), (6, V.c (C.ptr x6 0)), (7, V.c (C.ptr x7 0)), (8, V.c (C.int IntKind.i64 i))]) f.params.length ?_ ?_))
      · exact ⟨0, k3 + 1, [], _, [], by omega, by omega, by omega, by simp [Qp], trivial, rfl, .nil 4, kn, rfl⟩
      · rintro n e1 H1 ⟨i, k4, kids, c, Lg, hn, hi1, hk4, hksz, hkok, hkl, hgr, kn, rfl⟩;have hx61 := kn.l 2 rfl;have hx71 := kn.l 3 rfl;have hG1 := kn.e 1 rfl;refine Q4 ?_;refine Qa ?_;simp only [go_sem, hx61, Qr];intro hpl;refine Qf (Qc rfl ?_ ?_)
        · intro hc;have hlt : i < f.params.length := (by simpa using hc);refine Qe ?_;simp only [go_sem];refine Qf (Qd (Qeb ?_));have hcow := hgr.isOw;simp only [go_sem, hx71, hG1, GS.o, hcow];refine Q68 2 2 (by omega) (kn.e 0 rfl) (by omega) fun z H2 k5 g5 g6 hu hok hsz => ?_;have kn := kn.callE 0 rfl hu (R.o_ne _);have hx72 := kn.l 3 rfl;simp only [go_sem, Qxv, hx72, hcow, z.cells_len];refine kn.grow (new := [z.cells]) hgr (.mk' _ _ _ _) (by simp [z.noOw]) (by simp only [Qn, Jp, J6, LIM]; omega) fun y' H3 kn => ?_;have hx73 := kn.l 3 rfl;simp only [go_sem, Qxu, hx73];intro H4 h4;have kn := kn.stL 3 rfl h4;refine Qq ?_;simp only [go_sem];refine ⟨Qo (by omega) (by omega), ?_⟩;refine ⟨f.params.length - (i + 1), by omega, i + 1, k5, kids ++ [z], _, _, rfl, by omega, by omega, ?_, Qbdg hkok ⟨hok, trivial⟩, by simp [hkl], ?_, kn, ?_⟩
          · simp only [Qey, Qp]; omega
          · rw [← Qg7]; exact .mk _ _ _ (by simp)
          · simp
        · intro hc;have hge : f.params.length ≤ i := (by simpa using hc);refine Qv ?_;simp only [go_sem, X.next];refine Q4 ?_;refine Qa ?_;simp only [go_sem, hG1, GS.o];refine Qch (kn.e 0 rfl) (by omega) fun v H2 hv hu => ?_;have kn := kn.callE 0 rfl hu (R.o_ne _);have hx72 := kn.l 3 rfl;have hx42 := kn.l 0 rfl;have hcow := hgr.isOw;have hG2 := kn.e 1 rfl;simp only [go_sem, Qrt];refine Qf (Qc rfl ?_ ?_)
          · intro hc;refine Qa ?_;simp only [go_sem, hx72, hx42, hcow];intro H3 h3;have kn := kn.stL 0 rfl h3;refine Qi ?_;simp only [go_sem, Qs];refine fin 13 0 f.name c kids H3 (k4 + 1) _ (by omega) (by omega) kn rfl hcow (hgr.frz (B := [_, _, _, _]) kn (Qbs _)) ?_ ?_
            · simp only [Ex.ok]; exact ⟨fun h => by simp at h, hkok⟩
            · simp only [Ex.size]; omega
          · intro hc;refine Qe ?_;simp only [go_sem];refine Qag ?_;simp only [go_sem, hx72, hG2, hcow, GS.o];refine Qvd (ns := [3, 4, 8, 10]) (kn.e 0 rfl) (by omega) (by simp) fun op H3 hop hu => ?_;have kn := kn.callE 0 rfl hu (R.o_ne _);have hx73 := kn.l 3 rfl;have hG3 := kn.e 1 rfl;simp only [go_sem, Qrv, hx73, hG3, hcow, GS.o];refine Q68 2 2 (by omega) (kn.e 0 rfl) (by omega) fun z H4 k5 g5 g6 hu hok hsz => ?_;have kn := kn.callE 0 rfl hu (R.o_ne _);have hx74 := kn.l 3 rfl;have hx44 := kn.l 0 rfl;simp only [go_sem, Qru, hx74, hx44, hcow, z.cells_len];intro H5 h5;have kn := kn.stL 0 rfl h5;refine Qi ?_;simp only [go_sem, Qs];refine fin op 0 [] _ [Ex.mk 13 0 f.name kids, z] H5 k5 _ (by omega) (by omega) kn rfl rfl ?_ ?_ ?_
            · refine FrzR.sl (.cons ?_ (.cons (.same z.noOw) .nil));rw [Ex.cells_eq];exact .cons (Qg rfl) (.cons (Qg rfl) (.cons (Qg rfl) (.cons (hgr.frz (B := [_, _, _, _]) kn (Qbs _)) .nil)))
            · simp only [Ex.ok, Qcx]; exact ⟨fun h => rfl, ⟨fun h => by simp at h, hkok⟩, hok, trivial⟩
            · simp only [Ex.size, Qp]; omega
  refine ⟨fun hb => ?_, fun hb => ?_⟩
  · refine Qch (kn.e 0 rfl) (by omega) fun v H5 hv hu => ?_;have kn := kn.callE 0 rfl hu (R.o_ne _);simp only [go_sem, Qmg];refine rest _ H5 (k2 + 1) (by omega) (by omega) kn ?_;intro h;have : ¬ s.fns.length = 0 := (by simpa using hb);omega
  · have hb2 : decide ((s.fns.length : Int) = 0) = true := (by simpa using hb);simp only [go_sem, Qmg, hb2];exact rest true H4 k2 (by omega) (by omega) kn (fun h => by simp at h)
end Go.AE.Y
namespace Go.AE
variable {H0 H H':Heap}{E L B E0 L0 Lg:List (Nat×Obj)}
def New (H H':Heap)(N:List (Nat×Obj)):Prop:=∀p∈N,H p.1=.none∧H' p.1=p.2
theorem Kn.add1 (kn0:Kn H0 H E0 L0)(kn:Kn H0 H' E L)(hE:E.map Prod.fst=E0.map Prod.fst)(hL:L.map Prod.fst=L0.map Prod.fst){x:Nat}{o:Obj}(hx:H x=.none)(hx':H' x=o)(ho:o≠.none):Kn H0 H' E (L++[(x,o)]):=by
 obtain⟨h1,h2,h3⟩:=kn0.newFree hx;refine⟨fun p hp=>?_,kn.ext,fun p hp=>?_,kn.dE,?_,kn.chg⟩
 ·rw[←Jo]at hp;rcases Je.1 hp with hp|hp
  ·exact kn.get p hp
  ·simp at hp;subst hp;exact⟨hx',ho⟩
 ·rcases Je.1 hp with hp|hp
  ·exact kn.loc p hp
  ·simp at hp;subst hp;exact h1
 ·rw[Js];refine Jq.2 ⟨kn.dL,by simp,fun a ha b hb=>?_⟩;simp at hb;subst hb;rw[hL]at ha;exact fun hh=>h3 (hh▸ha)
theorem Kn.addGr {sz:Nat}{rows:List (List C)}{c:C}(kn0:Kn H0 H E0 L0)(kn:Kn H0 H' E L)(hE:E.map Prod.fst=E0.map Prod.fst)(hL:L.map Prod.fst=L0.map Prod.fst)(hg:Gr Lg sz rows c)(hn:New H H' Lg):Kn H0 H' E (L++Lg):=by
 rcases hg with ⟨_,_,rfl⟩|⟨y,_,rfl⟩
 ·simpa using kn
 ·obtain⟨h1,h2⟩:=hn (y,.vec sz rows) (by simp);exact kn0.add1 kn hE hL h1 h2 (by simp)
def unx (H:Heap)(Lg:List (Nat×Obj))(m:Nat):Bool:=un H m&&!(Lg.map Prod.fst).contains m
theorem Qa77 {m:Nat}(h:H m≠.none):unx H Lg m=false:=by simp[unx,Qa6t h]
theorem Qbob {p:Nat×Obj}(h:p∈Lg):unx H Lg p.1=false:=by
 have:p.1∈Lg.map Prod.fst:=Qb1 h;simp only[unx,Bool.and_eq_false_iff,Bool.not_eq_false'];exact .inr (Jap.2 this)
theorem Kn.finx (hk:Kn H0 H E (B++Lg)):Upd H0 (H.frz (Go.AE.unx H0 Lg)) E∧New H0 (H.frz (Go.AE.unx H0 Lg)) Lg:=by
 refine⟨⟨fun p hp=>?_,fun m hm hn=>?_⟩,fun p hp=>⟨hk.loc p (Jg _ hp),?_⟩⟩
 ·have:H.frz (Go.AE.unx H0 Lg) p.1=H p.1:=by simp[Heap.frz,Qa77 (hk.ext p hp)]
  rw[this];exact (hk.get p (Jh _ hp)).1
 ·have:H.frz (Go.AE.unx H0 Lg) m=H m:=by simp[Heap.frz,Qa77 hm]
  rw[this];exact hk.chg m hm hn
 ·have:H.frz (Go.AE.unx H0 Lg) p.1=H p.1:=by simp only[Heap.frz];rw[Qbob hp];rfl
  rw[this];exact (hk.get p (Jg _ (Jg _ hp))).1
end Go.AE
namespace Go.AE.Y
theorem Qdx {b:Bool}(h:(!b)=false):b=true:=by simpa using h
theorem Qi8 {b:Bool}(h:(!b)=true):b=false:=by simpa using h
theorem Ex.ne_nil (x:Ex):(x.cells=[])=False:=by rw[x.cells_eq];simp
theorem Ex.take4 (x:Ex):x.cells.take 4=x.cells:=Jd (by rw[x.cells_len];omega)
theorem Ex.allOw (x:Ex):(x.cells.all fun c=>!c.isOw)=true:=x.noOw
theorem St.take5 (x:St):x.cells.take 5=x.cells:=Jd (by rw[x.cells_len];omega)
theorem St.allOw (x:St):(x.cells.all fun c=>!c.isOw)=true:=x.noOw
theorem Fn.take3 (x:Fn):x.cells.take 3=x.cells:=Jd (by rw[x.cells_len];omega)
theorem Fn.allOw (x:Fn):(x.cells.all fun c=>!c.isOw)=true:=x.noOw
open Go.Proofs.Tryz
theorem Qab6 {R:Rdr}{gl k:Nat}{s:GS}{H:Heap}{K:V→Heap→Prop}(hR:H R.l=R.o k)(hG:H gl=s.o R)(hne:R.l≠gl)(hs:s.ok k)(hF:FnsOk H R gl s)(hk:k+201≤2^30)
  (hK:∀(x:Ex) (H':Heap) (k':Nat),k<k'→k'≤k+201→Upd H H' [(R.l,R.o k')]→x.ok→2 * k+x.size≤2 * k'→K (.ag x.cells) H') :
  Ql prog Qkv [.c (.ptr gl 0)] H K:=by
 refine Q0 ?_;refine Qb Qai Qax3 ?_;refine Qa ?_;simp only[go_sem];intro x2 hx2 H1 h1;have kn:=(Kn.start2 hR (R.o_ne k) hG (s.o_ne R) hne).al hx2 h1;have hG1:=kn.e 1 rfl;refine Qag ?_;simp only[go_sem,hG1,GS.o];refine Qc0 2 (by omega) (kn.e 0 rfl) (kn.e 1 rfl) hne hs (hF.keep kn rfl rfl) (by omega) fun e H2 k2 g1 g2 hu heok hesz=>?_;have kn:=kn.callE 0 rfl hu (R.o_ne _);have hG2:=kn.e 1 rfl;simp only[go_sem,Qxn,hG2,GS.o];refine Qvd (ns:=[16,16,16,8,17,0]) (kn.e 0 rfl) (by omega) (by simp) fun v H3 hv hu=>?_;have kn:=kn.callE 0 rfl hu (R.o_ne _);have hx23:=kn.l 0 rfl;simp only[go_sem,Qxm,hx23,e.cells_len];intro H4 h4;have kn:=kn.stL 0 rfl h4;have hx24:=kn.l 0 rfl;refine Qi ?_;simp only[go_sem,Qs,Q6,Qacd,Ja,forall_eq,RS.op,hx24];refine⟨(.ag (Ex.mk 7 0 [] [e,Ex.mk 1 v [] []]).cells),?_,hK _ _ (k2+1) (by omega) (by omega) (kn.fin.drop2 hG) ?_ ?_⟩
 ·rw[Ex.cells_eq (Ex.mk 7 0 [] _)];refine FrzL.ag ?_;refine .cons (Qg rfl) (.cons (Qg rfl) (.cons (Qg rfl) (.cons (FrzR.sl (.cons (.same e.noOw) (.cons ?_ .nil))) .nil)));simp only[Ex.cells,Qy];exact .cons (Qg rfl) (.cons (Qg rfl) (.cons (Qg rfl) (.cons (FrzR.nil).sl .nil)))
 ·simp only[Ex.ok,Qcx];exact⟨fun h=>rfl,heok,⟨fun h=>by simp at h,trivial⟩,trivial⟩
 ·simp only[Ex.size,Qp];omega
def Qblr (d:Nat):Prop:=∀(R:Rdr) (gl k:Nat) (s:GS) (H:Heap) (K:V→Heap→Prop) (deep:Int),deep≤d→H R.l=R.o k→H gl=s.o R→R.l≠gl→s.ok k→FnsOk H R gl s→k+500 * 10^d≤2^30→
  (∀(l:List St) (s':GS) (H':Heap) (k':Nat),k<k'→k'≤k+500 * 10^d→Upd H H' [(R.l,R.o k'),(gl,s'.o R)]→s'.ok k'→s.left+4 * (k:Int)≤s'.left+4 * (k':Int)→s'.fns=s.fns→s'.ffl=s.ffl→l.length≤2→Qcn l→4 * k+Qh l≤4 * k'→K (.c (.sl false 5 (Qm l))) H')→
  Ql prog Qp2 [.c (.ptr gl 0),.c (.int .i64 deep)] H K
def Qagq (d:Nat):Prop:=∀(R:Rdr) (gl k:Nat) (s:GS) (H:Heap) (K:V→Heap→Prop) (deep:Int),deep≤d→H R.l=R.o k→H gl=s.o R→R.l≠gl→s.ok k→FnsOk H R gl s→k+2001 * 10^d≤2^30→
  (∀(l:List St) (c:C) (Lg:List (Nat×Obj)) (s':GS) (H':Heap) (k':Nat),k<k'→k'≤k+2001 * 10^d→Upd H H' [(R.l,R.o k'),(gl,s'.o R)]→Gr Lg 5 (Qm l) c→New H H' Lg→s'.ok k'→s.left+4 * (k:Int)≤s'.left+4 * (k':Int)→s'.fns=s.fns→s'.ffl=s.ffl→
   l.length≤8→Qcn l→4 * k+Qh l≤4 * k'→K (.c c) H')→
  Ql prog Qdc [.c (.ptr gl 0),.c (.int .i64 deep)] H K
theorem Qa6x {d:Nat}(hS:Qblr d):Qagq d:=by
 intro R gl k s H K deep hd hR hG hne hs hF hk hK;have hp0:d<10^d:=Jag (by omega);generalize hpe:10^d=e at *;have hS':=hS;simp only[Qblr]at hS';rw[hpe]at hS';generalize hM:500 * e=M at *;refine Qagt ?_;refine Qb Qai Qauq ?_;refine Qa ?_;simp only[go_sem];refine Qa ?_;simp only[go_sem,hG,GS.o];refine Qa ?_;simp only[go_sem];refine Q4 ?_;refine Qa ?_;simp only[go_sem,hG,GS.o];have kn:=Kn.start2 hR (R.o_ne k) hG (s.o_ne R) hne;refine Qvd (ns:=[2,3,1,4]) hR (by omega) (by simp) fun v H1 hv hu=>?_;have kn:=kn.callE 0 rfl hu (R.o_ne _);simp only[go_sem,Qrq];have hv4:1≤v∧v≤4:=by simp at hv;omega
 refine Qf (Qd (Qw (fun n e1 H1=>∃(j k4:Nat) (l:List St) (c:C) (Lg:List (Nat×Obj)) (s':GS),n=v.toNat-j∧(j:Int)≤v∧k+1≤k4∧k4≤k+1+M * j∧4 * k+Qh l≤4 * k4∧Qcn l∧l.length≤2 * j∧
    Gr Lg 5 (Qm l) c∧s'.ok k4∧s.left+4 * (k:Int)≤s'.left+4 * (k4:Int)∧s'.fns=s.fns∧s'.ffl=s.ffl∧Kn H H1 [(R.l,R.o k4),(gl,s'.o R)] ([]++Lg)∧
    e1=[(0,V.c (C.ptr gl 0)),(1,.c (.int .i64 deep)),(5,.c (.sl s.vfl 1 (Qab s.vars))),(6,.c c),(7,V.c (C.int IntKind.i64 (v-j)))]) v.toNat ?_ ?_))
 ·exact⟨0,k+1,[],_,[],s,by omega,by omega,by omega,by omega,by simp only[Qh];omega,trivial,by simp,.nil 5,hs.mono (by omega),by omega,rfl,rfl,kn,by simp⟩
 ·rintro n e1 H1 ⟨j,k4,l,c,Lg,s',hn,hj,hk4,hk4',hsz,hok,hll,hgr,hs',hlf,hf1,hf2,kn,rfl⟩;have hG1:=kn.e 1 rfl;have hMj:M * j≤M * 4:=Jah _ (by omega);refine Q4 ?_;refine Qa ?_;simp only[go_sem,hG1,GS.o];refine Qf (Qc rfl ?_ ?_)
  ·intro hc;have hi:(j:Int)<v:=by
    cases h:decide (0<v-(j:Int))with
    |true=>have:0<v-(j:Int):=by simpa using h
           omega
    |false=>rw[h]at hc;simp at hc
   have hM1:M * (j+1)=M * j+M:=Jbh _ _;have hM2:M * (j+1)≤M * 4:=Jah _ (by omega);refine Qe ?_;simp only[go_sem];refine Qf (Qd (Qq ?_));simp only[go_sem];refine hS' _ _ _ _ _ _ deep hd (kn.e 0 rfl) (kn.e 1 rfl) hne hs' (hF.keep kn hf1 hf2) (by omega) fun l2 s2 H2 k5 g1 g2 hu g3 glf g4 g5 g6 g7 g8=>?_;have kn:=kn.callEE 0 1 rfl rfl (by decide) hu (R.o_ne _) (GS.o_ne _ _);simp only[go_sem,Qrs];refine kn.grow hgr (.mk' _ _ _ (Qm l2)) (Qbt _) (by simp only[Qu,LIM];omega) fun y' H3 kn=>?_;simp only[go_sem,Qrr];refine Qq ?_;simp only[go_sem];refine⟨Qo (by omega) (by omega),?_⟩;simp only[X.next];refine⟨v.toNat-(j+1),by omega,j+1,k5,l++l2,.vsl y' 5 0 ((Qm l).length+(Qm l2).length),_,s2,rfl,by omega,by omega,by omega,?_,Qan4 hok g7,by simp;omega,?_,g3,by omega,g4.trans hf1,g5.trans hf2,kn,?_⟩
   ·rw[Qbm];omega
   ·rw[Qmn];exact .mk _ _ _ (by simp[Qu])
   ·have:v-((j+1:Nat):Int)=v-j-1:=(by omega);rw[this]
  ·intro hc;refine Qv ?_;simp only[go_sem,X.next];refine Qa ?_;simp only[go_sem,hG1,GS.o];intro H2 h2;have kn:Kn H H2 [(R.l,R.o k4),(gl,GS.o { s' with vars:=s.vars,vfl:=s.vfl } R)] ([]++Lg):=kn.stE 1 rfl h2;refine Qa ?_;simp only[go_sem];refine Qi ?_;simp only[go_sem,Qs,Q6,Qm6,Ja,forall_eq,RS.op];refine⟨unx H Lg,_,H2.frz (unx H Lg),.c _ _ (.same _ hgr.isOw),Q0e _ _,?_⟩;refine hK l c Lg _ _ k4 (by omega) (by omega) kn.finx.1 hgr kn.finx.2 ⟨hs'.n0,hs'.n1,hs'.l0,hs'.l1,?_,hs'.f,hs'.fn⟩ (by show _≤s'.left+_;omega) hf1 hf2 (by omega) hok hsz;have:=hs.v;show s.vars.length≤_;omega
def Qblq (d:Nat):Prop:=∀(R:Rdr) (gl k:Nat) (s:GS) (H:Heap) (K:V→Heap→Prop) (deep:Int),deep≤d+1→2≤deep→H R.l=R.o k→H gl=s.o R→R.l≠gl→s.ok k→FnsOk H R gl s→k+2001 * 10^d+10≤2^30→
  (∀(l:List St) (s':GS) (H':Heap) (k':Nat),k+2<k'→k'≤k+2001 * 10^d+3→Upd H H' [(R.l,R.o k'),(gl,s'.o R)]→s'.ok k'→s.left+4 * (k:Int)≤s'.left+4 * (k':Int)→s'.fns=s.fns→s'.ffl=s.ffl→l.length≤2→Qcn l→4 * k+Qh l≤4 * k'→K (.c (.sl false 5 (Qm l))) H')→
  Ql prog Qp1 [.c (.ptr gl 0),.c (.int .i64 deep)] H K
theorem Qbnc {d:Nat}(hB:Qagq d):Qblq d:=by
 intro R gl k s H K deep hd hd2 hR hG hne hs hF hk hK;have hp0:d<10^d:=Jag (by omega);have hB':=hB;simp only[Qagq]at hB';generalize hpe:10^d=e at *;refine Q0 ?_;refine Qb Qai Qax5 ?_;refine Qa ?_;simp only[go_sem];refine Qa ?_;simp only[go_sem,hG,GS.o];have kn:=Kn.start2 hR (R.o_ne k) hG (s.o_ne R) hne;refine Qvd (ns:=[2,3,1,0,5]) hR (by omega) (by simp) fun v H1 hv hu=>?_;have kn:=kn.callE 0 rfl hu (R.o_ne _);simp only[go_sem,Qxz];refine Qahk (x:=Ex.mk 1 v [] []) (fl:=true) (kn.e 0 rfl) (kn.e 1 rfl) hne (hs.mono (Jbd k)) (by omega) fun name H2 k2 g1 g2 hu=>?_;have kn:=kn.callEE 0 1 rfl rfl (by decide) hu (R.o_ne _) (GS.o_ne _ _);simp only[go_sem,Qxy];intro x5 hx5 H3 h3;have kn:=kn.al hx5 h3;have hx53:=kn.l 0 rfl;simp only[go_sem,Qxx,hx53,St.cells];intro H4 h4;have kn:=kn.stL 0 rfl h4;have hx54:=kn.l 0 rfl;refine Qa ?_;simp only[go_sem,hx54];intro x6 hx6 H5 h5;have kn:=kn.al hx6 h5;have hx65:=kn.l 1 rfl;simp only[go_sem,Qx0,hx65];intro H6 h6;have kn:=kn.stL 1 rfl h6;refine Qa ?_;simp only[go_sem];refine⟨Qo (by omega) (by omega),?_⟩;have hs2:GS.ok { s with next:=s.next+1,vars:=s.vars++[name],vfl:=false } k2:=by
  refine⟨?_,?_,?_,hs.l1,?_,hs.f,hs.fn⟩
  ·have:=hs.n0;show -1≤s.next+1;omega
  ·have:=hs.n1;show s.next+1≤_;omega
  ·have:=hs.l0;show _≤s.left;omega
  ·have:=hs.v;show (s.vars++[name]).length≤_;simp;omega
 refine hB' _ _ _ _ _ _ (deep-1) (by omega) (kn.e 0 rfl) (kn.e 1 rfl) hne hs2 (hF.keep kn rfl rfl) (by omega) fun l c Lg s3 H7 k3 g3 g4 hu hgr hnew hs3 glf g5 g6 g7 g8 g9=>?_;have kn0:=kn;have kn:=kn.callEE 0 1 rfl rfl (by decide) hu (R.o_ne _) (GS.o_ne _ _);have kn:=kn0.addGr kn rfl rfl hgr hnew;have hx57:=kn.l 0 rfl;have hx67:=kn.l 1 rfl;simp only[go_sem,Qx1];refine Qa ?_;simp only[go_sem,hx57,hx67];intro x8 hx8 H8 h8;have kn:=kn.al hx8 h8;have kn:=kn.perm (L':=[(x5,_),(x6,_),(x8,_)]++Lg) (by
  simp only[List.set,Jm,Jj];refine .cons _ (.cons _ ?_);exact Jl)
 have hx88:=kn.l 2 rfl;simp only[go_sem,Qx2,hx88];intro H9 h9;have kn:=kn.stL 2 rfl h9;have hG9:=kn.e 1 rfl;refine Qa ?_;simp only[go_sem,hG9,GS.o];have hl0:=hs3.l0;have hl1:=hs3.l1;refine⟨Qo (by omega) (by omega),fun H10 h10=>?_⟩;have kn:Kn H H10 [(R.l,R.o k3),(gl,GS.o { s3 with left:=s3.left-2 } R)] ([(x5,_),(x6,_),(x8,_)]++Lg):=kn.stE 1 rfl h10;have hx5a:=kn.l 0 rfl;have hx6a:=kn.l 1 rfl;have hx8a:=kn.l 2 rfl;refine Qag ?_;simp only[go_sem,hx5a,hx6a,hx8a];refine kn.grow hgr (.mk' _ _ _ _) (by intro r hr;simp only[Ja]at hr;subst hr;rfl) (by simp only[Qu,LIM,Jp,J6];omega) fun y' H11 kn=>?_;have hx5b:=kn.l 0 rfl;have hx6b:=kn.l 1 rfl;have hyb:=kn.l 3 rfl;simp only[go_sem,Qx3,hx5b,hx6b];refine Qi ?_;simp only[go_sem,Qs,Q6,Qm6,Ja,forall_eq,RS.op];have hok1:GS.ok { s3 with left:=s3.left-2 } k3:=⟨hs3.n0,hs3.n1,by show _≤s3.left-2;have:=hs.l0;simp only at glf;omega,by show s3.left-2≤100;omega,hs3.v,hs3.f,hs3.fn⟩;refine⟨.c (.sl false 5 (Qm [St.mk 1 name [Ex.mk 1 v [] []] [] [],St.mk 6 [] [Ex.mk 2 0 name []] (l++[St.mk 2 name [Ex.mk 4 0 [] [Ex.mk 2 0 name [],Ex.mk 1 1 [] []]] [] []]) []])),.c _ _ ?_,hK _ _ _ k3 (by omega) (by omega) kn.fin hok1 (by show _≤s3.left-2+_;simp only at glf;omega) g5 g6 (by simp) ?_ ?_⟩
 ·simp only[Qm,St.cells,Qy,Ex.cells,←Qmn]
  repeat' first|exact FrzL.nil|exact FrzR.nil|exact Qg rfl|exact FrzL.same (Ex.noOw _)|exact FrzL.same (St.noOw _)|refine FrzL.cons ?_ ?_|refine FrzR.cons ?_ ?_|refine FrzR.sl ?_
  refine FrzR.vsl (kn.un 3 rfl) hyb (by simp) (.app (.same (Qbt _)) ?_)
  repeat' first|exact FrzL.nil|exact FrzR.nil|exact Qg rfl|exact FrzL.same (Ex.noOw _)|exact FrzL.same (St.noOw _)|refine FrzL.cons ?_ ?_|refine FrzR.cons ?_ ?_|refine FrzR.sl ?_
 ·simp only[Qcn,St.ok,Qcx,Ex.ok];refine⟨⟨by simp,⟨⟨fun h=>by simp at h,trivial⟩,trivial⟩,trivial,trivial⟩,⟨by simp,⟨⟨fun h=>by simp at h,trivial⟩,trivial⟩,Qan4 g8 ?_,trivial⟩,trivial⟩;simp[Qcn,St.ok,Qcx,Ex.ok]
 ·simp only[Qh,St.size,Qbm,Qp,Ex.size];omega
theorem Qbpm {A L1 L2:List (Nat×Obj)}:(A++L1++L2).Perm (A++L2++L1):=by
 rw[Jo,Jo];exact .append_left _ Jl
theorem Qbg3 {d : Nat} (hB : ∀ d', d = d' + 1 → Qagq d') : Qblr d := by
  intro R gl k s H K deep hd hR hG hne hs hF hk hK;have hp0 : d < 10^d := Jag (by omega);have hex : ∃ e, 10^d = e ∧ ∀ d', d = d' + 1 → 10 * 10^d' = e := ⟨10^d, rfl, fun d' h => by rw [h, Nat.pow_succ]; omega⟩;obtain ⟨e, hpe, he'⟩ := hex;rw [hpe] at hp0 hk hK;have hl0 := hs.l0;have hl1 := hs.l1;refine Q0 ?_;refine Qb Qai Qax6 ?_;refine Qa ?_;simp only [go_sem];refine Qa ?_;simp only [go_sem, hG, GS.o];refine ⟨Qo (by omega) (by omega), fun H1 h1 => ?_⟩;have kn : Kn H H1 [(R.l, R.o k), (gl, GS.o { s with left := s.left - 1 } R)] [] := (Kn.start2 hR (R.o_ne k) hG (s.o_ne R) hne).stE 1 rfl h1;have hs1 : GS.ok { s with left := s.left - 1 } (k + 1) := ⟨hs.n0, by have := hs.n1; show s.next ≤ _; omega, by show _ ≤ s.left - 1; omega, by show s.left - 1 ≤ 100; omega, by have := hs.v; show s.vars.length ≤ _; omega, hs.f, hs.fn⟩;have hlr : s.left ≤ ({ s with left := s.left - 1 } : GS).left + 1 := by show s.left ≤ s.left - 1 + 1; omega
  have hfn : ({ s with left := s.left - 1 } : GS).fns = s.fns := rfl;have hff : ({ s with left := s.left - 1 } : GS).ffl = s.ffl := rfl;have hF1 : FnsOk H R gl { s with left := s.left - 1 } := ⟨hF.1, hF.2⟩;generalize ({ s with left := s.left - 1 } : GS) = s1 at *;have hG1 := kn.e 1 rfl;refine Qa ?_;simp only [go_sem, hG1, GS.o];refine Qch (kn.e 0 rfl) (by omega) fun v H2 hv hu => ?_;have kn : Kn H H2 [(R.l, R.o (k + 1)), (gl, s1.o R)] [] := kn.callE 0 rfl hu (R.o_ne _);have hG2 := kn.e 1 rfl;simp only [go_sem, Qx6];have fin : ∀ (l : List St) (c : C) (s' : GS) (H3 : Heap) (k3 : Nat) (L : List (Nat × Obj)), k < k3 → k3 ≤ k + 500 * e → Kn H H3 [(R.l, R.o k3), (gl, s'.o R)] L → FrzC H3 (un H) c (.sl false 5 (Qm l)) →
      s'.ok k3 → s1.left + 4 * ((k + 1 : Nat) : Int) ≤ s'.left + 4 * (k3 : Int) → s'.fns = s1.fns → s'.ffl = s1.ffl → l.length ≤ 2 → Qcn l → 4 * k + Qh l ≤ 4 * k3 → ∃ x', FrzV H3 (un H) (.c c) x' ∧ K x' (H3.frz (un H)) := by
    intro l c s' H3 k3 L g1 g2 kn g3 g4 g5 g6 g7 g8 g9 g10;exact ⟨_, .c _ _ g3, hK l s' _ k3 g1 g2 kn.fin g4 (by omega) (g6.trans hfn) (g7.trans hff) g8 g9 g10⟩
  refine Qf (Qd ?_);refine Qa ?_;simp only [go_sem, hG2, GS.o, Qr];intro hvl;refine Qc rfl ?_ ?_
  ·
    intro hc;have hv0 : 0 < s1.vars.length := by
      cases h : decide (v < 3) with
      | true => rw [h] at hc; simp at hc; omega
      | false => rw [h] at hc; simp at hc
    refine Qag ?_;simp only [go_sem, hG2, GS.o];refine of_c (kn.e 0 rfl) (by omega) hv0 fun name H3 hn hu => ?_;have kn := kn.callE 0 rfl hu (R.o_ne _);simp only [go_sem, Qx8];refine Qc0 3 (by omega) (kn.e 0 rfl) (kn.e 1 rfl) hne (hs1.mono (by omega)) (hF1.keep kn rfl rfl) (by omega) fun x H4 k4 g1 g2 hu g3 g4 => ?_;have kn := kn.callE 0 rfl hu (R.o_ne _);simp only [go_sem, Qx7, x.cells_len];refine Qi ?_;simp only [go_sem, Qs, Q6, Qm6, Ja, forall_eq, RS.op];refine fin [St.mk 2 name [x] [] []] _ s1 H4 k4 _ (by omega) (by omega) kn ?_ (hs1.mono (by omega)) (by omega) rfl rfl (by simp) ?_ ?_
    · simp only [Qm, St.cells, Qy]
      repeat' first | exact FrzL.nil | exact FrzR.nil | exact Qg rfl | exact FrzL.same (Ex.noOw _) | exact FrzL.same (St.noOw _) | refine FrzL.cons ?_ ?_ | refine FrzR.cons ?_ ?_ | refine FrzR.sl ?_
    · simp only [Qcn, St.ok, Qcx]; exact ⟨⟨by simp, ⟨g3, trivial⟩, trivial, trivial⟩, trivial⟩
    · simp only [Qh, St.size, Qp]; omega
  intro hc0;refine Qa ?_;simp only [go_sem];refine Qc rfl ?_ ?_
  ·
    intro hc;refine Qa ?_;simp only [go_sem];refine Qc0 3 (by omega) (kn.e 0 rfl) (kn.e 1 rfl) hne (hs1.mono (by omega)) (hF1.keep kn rfl rfl) (by omega) fun x H4 k4 g1 g2 hu g3 g4 => ?_;have kn := kn.callE 0 rfl hu (R.o_ne _);simp only [go_sem, Qya, x.cells_eq];refine Qahk (x := x) (kn.e 0 rfl) (kn.e 1 rfl) hne (hs1.mono (by omega)) (by omega) fun name H5 k5 g5 g6 hu => ?_;have kn := kn.callEE 0 1 rfl rfl (by decide) hu (R.o_ne _) (GS.o_ne _ _);simp only [go_sem, Qx9, St.cells_len];refine Qi ?_;simp only [go_sem, Qs, Q6, Qm6, Ja, forall_eq, RS.op];have h0 := hs1.n0;have h1 := hs1.n1;have h2 := hs1.l0;have h3 := hs1.v;refine fin [St.mk 1 name [x] [] []] _ _ H5 k5 _ (by omega) (by omega) kn ?_ ⟨?_, ?_, ?_, hs1.l1, ?_, hs1.f, hs1.fn⟩ (by show _ ≤ s1.left + _; omega) rfl rfl (by simp) ?_ ?_
    · simp only [Qm]
      repeat' first | exact FrzL.nil | exact FrzR.nil | exact Qg rfl | exact FrzL.same (Ex.noOw _) | exact FrzL.same (St.noOw _) | refine FrzL.cons ?_ ?_ | refine FrzR.cons ?_ ?_ | refine FrzR.sl ?_
    · show -1 ≤ s1.next + 1; omega
    · show s1.next + 1 ≤ _; omega
    · show _ ≤ s1.left; omega
    · show (s1.vars ++ [name]).length ≤ _; simp; omega
    · simp only [Qcn, St.ok, Qcx]; exact ⟨⟨by simp, ⟨g3, trivial⟩, trivial, trivial⟩, trivial⟩
    · simp only [Qh, St.size, Qp]; omega
  intro hc1;refine Qa ?_;simp only [go_sem];refine Qc rfl ?_ ?_
  ·
    intro hc;refine Qa ?_;simp only [go_sem];refine Qc0 3 (by omega) (kn.e 0 rfl) (kn.e 1 rfl) hne (hs1.mono (by omega)) (hF1.keep kn rfl rfl) (by omega) fun x H4 k4 g1 g2 hu g3 g4 => ?_;have kn := kn.callE 0 rfl hu (R.o_ne _);simp only [go_sem, Qyb, x.cells_len];refine Qi ?_;simp only [go_sem, Qs, Q6, Qm6, Ja, forall_eq, RS.op];refine fin [St.mk 3 [] [x] [] []] _ s1 H4 k4 _ (by omega) (by omega) kn ?_ (hs1.mono (by omega)) (by omega) rfl rfl (by simp) ?_ ?_
    · simp only [Qm, St.cells, Qy]
      repeat' first | exact FrzL.nil | exact FrzR.nil | exact Qg rfl | exact FrzL.same (Ex.noOw _) | exact FrzL.same (St.noOw _) | refine FrzL.cons ?_ ?_ | refine FrzR.cons ?_ ?_ | refine FrzR.sl ?_
    · simp only [Qcn, St.ok, Qcx]; exact ⟨⟨by simp, ⟨g3, trivial⟩, trivial, trivial⟩, trivial⟩
    · simp only [Qh, St.size, Qp]; omega
  intro hc2;have hdp : 2 ≤ deep := by
    cases h : decide (v < 7) with
    | true => rw [h] at hc2; simp at hc2
    | false => rw [h] at hc2; simp at hc2; omega
  obtain ⟨d', hdd⟩ : ∃ d', d = d' + 1 := ⟨d - 1, by omega⟩;have hB0 : Qagq d' := hB d' hdd;have hL0 : Qblq d' := Qbnc hB0;have hB' := hB0;have hL' := hL0;simp only [Qagq, Qblq] at hB' hL';have he1 := he' d' hdd;have hp1 : d' < 10^d' := Jag (by omega);generalize 10^d' = e1 at *;refine Qa ?_;simp only [go_sem];refine Qc rfl ?_ ?_
  ·
    intro hc;refine Qa ?_;simp only [go_sem];refine Qab6 (kn.e 0 rfl) (kn.e 1 rfl) hne (hs1.mono (by omega)) (hF1.keep kn rfl rfl) (by omega) fun x H4 k4 g1 g2 hu g3 g4 => ?_;have kn := kn.callE 0 rfl hu (R.o_ne _);simp only [go_sem, Qyd];refine Qc0 2 (by omega) (kn.e 0 rfl) (kn.e 1 rfl) hne (hs1.mono (by omega)) (hF1.keep kn rfl rfl) (by omega) fun y H5 k5 g5 g6 hu g7 g8 => ?_;have kn := kn.callE 0 rfl hu (R.o_ne _);simp only [go_sem, Qyc, x.cells_len, y.cells_len];refine Qi ?_;simp only [go_sem, Qs, Q6, Qm6, Ja, forall_eq, RS.op];refine fin [St.mk 4 [] [x, y] [] []] _ s1 H5 k5 _ (by omega) (by omega) kn ?_ (hs1.mono (by omega)) (by omega) rfl rfl (by simp) ?_ ?_
    · simp only [Qm, St.cells, Qy]
      repeat' first | exact FrzL.nil | exact FrzR.nil | exact Qg rfl | exact FrzL.same (Ex.noOw _) | exact FrzL.same (St.noOw _) | refine FrzL.cons ?_ ?_ | refine FrzR.cons ?_ ?_ | refine FrzR.sl ?_
    · simp only [Qcn, St.ok, Qcx]; exact ⟨⟨by simp, ⟨g3, g7, trivial⟩, trivial, trivial⟩, trivial⟩
    · simp only [Qh, St.size, Qp]; omega
  intro hc3;refine Qa ?_;simp only [go_sem];refine Qc rfl ?_ ?_
  ·
    intro hc;refine Qa ?_;simp only [go_sem];refine Qab6 (kn.e 0 rfl) (kn.e 1 rfl) hne (hs1.mono (by omega)) (hF1.keep kn rfl rfl) (by omega) fun x H4 k4 g1 g2 hu g3 g4 => ?_;have kn := kn.callE 0 rfl hu (R.o_ne _);simp only [go_sem, Qye, x.cells_len];refine Qi ?_;simp only [go_sem, Qs, Q6, Qm6, Ja, forall_eq, RS.op];refine fin [St.mk 3 [] [Ex.mk 12 0 [] [x]] [] []] _ s1 H4 k4 _ (by omega) (by omega) kn ?_ (hs1.mono (by omega)) (by omega) rfl rfl (by simp) ?_ ?_
    · rw [Qm, Qm, St.cells, Qy, Qy, Ex.cells_eq (Ex.mk 12 0 [] _)];simp only [Qm, Qy, Ex.kids, Ex.op, Ex.n, Ex.name]
      repeat' first | exact FrzL.nil | exact FrzR.nil | exact Qg rfl | exact FrzL.same (Ex.noOw _) | exact FrzL.same (St.noOw _) | refine FrzL.cons ?_ ?_ | refine FrzR.cons ?_ ?_ | refine FrzR.sl ?_
    · simp only [Qcn, St.ok, Qcx, Ex.ok]; exact ⟨⟨by simp, ⟨⟨fun h => by simp at h, g3, trivial⟩, trivial⟩, trivial, trivial⟩, trivial⟩
    · simp only [Qh, St.size, Qp, Ex.size]; omega
  intro hc4;refine Qa ?_;simp only [go_sem];refine Qc rfl ?_ ?_
  ·
    intro hc;refine Qa ?_;simp only [go_sem];refine Qc0 3 (by omega) (kn.e 0 rfl) (kn.e 1 rfl) hne (hs1.mono (by omega)) (hF1.keep kn rfl rfl) (by omega) fun x H4 k4 g1 g2 hu g3 g4 => ?_;have kn := kn.callE 0 rfl hu (R.o_ne _);simp only [go_sem, Qrz, x.cells_len];refine ⟨Qo (by omega) (by omega), ?_⟩;refine hB' _ _ _ _ _ _ (deep - 1) (by omega) (kn.e 0 rfl) (kn.e 1 rfl) hne (hs1.mono (by omega)) (hF1.keep kn rfl rfl) (by omega) fun b1 c1 L1 s2 H5 k5 g5 g6 hu hg1 hnew hs2 glf g7 g8 g9 g10 g11 => ?_;have kn0 := kn;have kn := kn.callEE 0 1 rfl rfl (by decide) hu (R.o_ne _) (GS.o_ne _ _);have kn := kn0.addGr kn rfl rfl hg1 hnew;have hc1ow := hg1.isOw;simp only [go_sem, Qry];intro x6 hx6 H6 h6;have kn := kn.al hx6 h6;have kn := kn.perm (L' := [(x6, _)] ++ L1) Jl;have hx66 := kn.l 0 rfl;simp only [go_sem, Qyf, hx66];intro H7 h7;have kn : Kn H H7 [(R.l, R.o k5), (gl, s2.o R)] ([(x6, _)] ++ L1) := kn.stL 0 rfl h7;have hG7 := kn.e 1 rfl;refine Q4 ?_;refine Qa ?_;simp only [go_sem, hG7, GS.o];refine Qch (kn.e 0 rfl) (by omega) fun v2 H8 hv2 hu => ?_;have kn : Kn H H8 [(R.l, R.o (k5 + 1)), (gl, s2.o R)] ([(x6, _)] ++ L1) := kn.callE 0 rfl hu (R.o_ne _);simp only [go_sem, Qr0];have rest : ∀ (E1 : Env) (hE : lk 6 E1 = V.c (C.ptr x6 0)) (c2 : C) (b2 : List St) (L2 : List (Nat × Obj)) (s3 : GS) (H9 : Heap) (k6 : Nat), k5 + 1 ≤ k6 → k6 ≤ k5 + 1 + 2001 * e1 → Gr L2 5 (Qm b2) c2 →
        Kn H H9 [(R.l, R.o k6), (gl, s3.o R)] ([(x6, .st [.int .i64 5, .str [], .sl true 4 [x.cells], c1, c2])] ++ L1 ++ L2) → s3.ok k6 → s2.left + 4 * ((k5 + 1 : Nat) : Int) ≤ s3.left + 4 * (k6 : Int) → s3.fns = s2.fns → s3.ffl = s2.ffl → Qcn b2 → 4 * (k5 + 1) + Qh b2 ≤ 4 * k6 →
        Q8 prog Qx4 (X.inBlock 0 (X.sq prog Qmh (Qs Qm6 (unK H K)))) E1 H9 := by
      intro E1 hE c2 b2 L2 s3 H9 k6 e1 e2 hg2 kn e3 e4 e5 e6 e7 e8;have hx69 := kn.l 0 rfl;have hc2ow := hg2.isOw;refine Qa ?_;simp only [go_sem, hE, hx69, hc1ow, hc2ow];refine Qi ?_;simp only [go_sem, Qs, Q6, Qm6, Ja, forall_eq, RS.op];refine fin [St.mk 5 [] [x] b1 b2] _ s3 H9 k6 _ (by omega) (by omega) kn ?_ e3 (by omega) (e5.trans g7) (e6.trans g8) (by simp) ?_ ?_
      · simp only [Qm, St.cells, Qy]
        repeat' first | exact FrzL.nil | exact FrzR.nil | exact Qg rfl | exact FrzL.same (Ex.noOw _) | exact FrzL.same (St.noOw _) | refine FrzL.cons ?_ ?_ | refine FrzR.cons ?_ ?_ | refine FrzR.sl ?_
        · exact hg1.frz (kn.perm Qbpm) (Qbt _)
        · exact hg2.frz kn (Qbt _)
      · simp only [Qcn, St.ok, Qcx]; exact ⟨⟨by simp, ⟨g3, trivial⟩, g10, e7⟩, trivial⟩
      · simp only [Qh, St.size, Qp]; omega
    refine Qf (Qc rfl ?_ ?_)
    · intro hc';refine Qq ?_;simp only [go_sem];refine ⟨Qo (by omega) (by omega), ?_⟩;refine hB' _ _ _ _ _ _ (deep - 1) (by omega) (kn.e 0 rfl) (kn.e 1 rfl) hne (hs2.mono (by omega)) (hF1.keep kn g7 g8) (by omega) fun b2 c2 L2 s3 H9 k6 q1 q2 hu hg2 hnew hs3 q3 q4 q5 q6 q7 q8 => ?_;have kn0 := kn;have kn := kn.callEE 0 1 rfl rfl (by decide) hu (R.o_ne _) (GS.o_ne _ _);have kn := kn0.addGr kn rfl rfl hg2 hnew;have hx69 := kn.l 0 rfl;simp only [go_sem, Qr1, hx69];intro H10 h10;have kn : Kn H H10 [(R.l, R.o k6), (gl, s3.o R)] ([(x6, _)] ++ L1 ++ L2) := kn.stL 0 rfl h10;exact rest _ (by simp [lk]) c2 b2 L2 s3 H10 k6 (by omega) (by omega) hg2 kn hs3 (by omega) q4 q5 q7 (by omega)
    · intro hc';refine Qe ?_;simp only [go_sem];exact rest _ (by simp [lk]) _ [] [] s2 H8 (k5 + 1) (by omega) (by omega) (.nil 5) (by rw [J1]; exact kn) (hs2.mono (by omega)) (by omega) rfl rfl trivial (by simp only [Qh]; omega)
  · intro hc5;refine Qa ?_;simp only [go_sem, hG2, GS.o];have rest : ∀ (b : Bool) (H3 : Heap) (k3 : Nat), k + 1 ≤ k3 → k3 ≤ k + 2 → Kn H H3 [(R.l, R.o k3), (gl, s1.o R)] [] →
        Q8 prog Qx5 (X.inBlock 0 (X.sq prog Qmh (Qs Qm6 (unK H K))))
         [(0, V.c (C.ptr gl 0)), (1, .c (.int .i64 deep)), (109, .c (.bool b))] H3 := by
      intro b H3 k3 e3 e4 kn;refine Qc rfl ?_ ?_
      · intro hb;refine Qa ?_;simp only [go_sem];refine Qc0 2 (by omega) (kn.e 0 rfl) (kn.e 1 rfl) hne (hs1.mono (by omega)) (hF1.keep kn rfl rfl) (by omega) fun x H4 k4 g1 g2 hu g3 g4 => ?_;have kn := kn.callE 0 rfl hu (R.o_ne _);simp only [go_sem, Qr2, x.cells_len];refine Qi ?_;simp only [go_sem, Qs, Q6, Qm6, Ja, forall_eq, RS.op];refine fin [St.mk 7 [] [x] [] []] _ s1 H4 k4 _ (by omega) (by omega) kn ?_ (hs1.mono (by omega)) (by omega) rfl rfl (by simp) ?_ ?_
        · simp only [Qm, St.cells, Qy]
          repeat' first | exact FrzL.nil | exact FrzR.nil | exact Qg rfl | exact FrzL.same (Ex.noOw _) | exact FrzL.same (St.noOw _) | refine FrzL.cons ?_ ?_ | refine FrzR.cons ?_ ?_ | refine FrzR.sl ?_
        · simp only [Qcn, St.ok, Qcx]; exact ⟨⟨by simp, ⟨g3, trivial⟩, trivial, trivial⟩, trivial⟩
        · simp only [Qh, St.size, Qp]; omega
      · intro hb;refine Qe ?_;simp only [go_sem];refine Qa ?_;simp only [go_sem];refine hL' _ _ _ _ _ _ deep (by omega) hdp (kn.e 0 rfl) (kn.e 1 rfl) hne (hs1.mono (by omega)) (hF1.keep kn rfl rfl) (by omega) fun l s2 H4 k4 g1 g2 hu g3 g4 g5 g6 g7 g8 g9 => ?_;have kn := kn.callEE 0 1 rfl rfl (by decide) hu (R.o_ne _) (GS.o_ne _ _);simp only [go_sem, Qr3];refine Qi ?_;simp only [go_sem, Qs, Q6, Qm6, Ja, forall_eq, RS.op];exact fin l _ s2 H4 k4 _ (by omega) (by omega) kn (Qg rfl) g3 (by omega) g5 g6 g7 g8 (by omega)
    refine ⟨fun hb => ?_, fun hb => ?_⟩
    · refine Qch (kn.e 0 rfl) (by omega) fun v2 H3 hv2 hu => ?_;have kn := kn.callE 0 rfl hu (R.o_ne _);simp only [go_sem, Qjb];exact rest _ H3 (k + 1 + 1) (by omega) (by omega) kn
    · simp only [go_sem, Qjb, hb];exact rest _ H2 (k + 1) (by omega) (by omega) kn
theorem Qbl0 (d:Nat):Qagq d:=by
 induction d with
 |zero=>exact Qa6x (Qbg3 (fun d' h=>absurd h (by omega)))
 |succ d ih=>exact Qa6x (Qbg3 (fun d' h=>by
   have:d'=d:=by omega
   rw[this];exact ih))
end Go.AE.Y
namespace Go.AE
variable {H0 H H':Heap}{E L B A:List (Nat×Obj)}{P:Program}
theorem c_gh {b:SC}{Q:X→Env→Heap→Prop}{e e':Env}(h:Qblo e H e' H')(hb:Q8 P b Q e' H'):Q8 P (.seq .gh b) Q e H:=⟨e',H',h,hb⟩
theorem Kn.drop (kn:Kn H0 H E (A++B)):Kn H0 H E A:=
 ⟨fun p hp=>kn.get p (by
   rcases Je.1 hp with h|h
   ·exact Jh _ h
   ·exact Jg _ (Jh _ h)),kn.ext,fun p hp=>kn.loc p (Jh _ hp),kn.dE,by
   have:=kn.dL;rw[Js]at this;exact (Jq.1 this).1,kn.chg⟩
theorem Kn.freeze {z gl:Nat}{o og og':Obj}(kn:Kn H0 H E (B++[(z,o)]))(i:Nat)(hB:B[i]? = some (gl,og))(hO:FrzO H (fun m=>m == z) og og')(hn:og'≠.none) :
  FrzH H (fun m=>m == z) ((H.frz fun m=>m == z).set gl og')∧Kn H0 ((H.frz fun m=>m == z).set gl og') E (B.set i (gl,og')):=by
 have hzf:H0 z=.none:=kn.loc (z,o) (by simp);have hnd:=kn.dL;rw[Js]at hnd;have hne:∀p∈B,p.1≠z:=fun p hp hh=>(Jq.1 hnd).2.2 _ (Qb1 hp) z (by simp) hh;have hneE:∀p∈E,p.1≠z:=fun p hp hh=>kn.ext p hp (hh▸hzf);have hgl:=hne _ (Jr hB);have hH:H gl=og:=(kn.get (gl,og) (Jg _ (Jh _ (Jr hB)))).1;refine⟨(Q0e _ _).set (by simpa using hgl) (by rw[hH];exact hO),?_⟩;have kn1:Kn H0 (H.frz fun m=>m == z) E B:=by
  refine⟨fun p hp=>?_,kn.ext,fun p hp=>kn.loc p (Jh _ hp),kn.dE,(Jq.1 hnd).1,fun m hm hx=>?_⟩
  ·have:p.1≠z:=by
    rcases Je.1 hp with h|h
    ·exact hneE p h
    ·exact hne p h
   have h2:(H.frz fun m=>m == z) p.1=H p.1:=by simp[Heap.frz,this]
   rw[h2];refine kn.get p ?_;rcases Je.1 hp with h|h
   ·exact Jh _ h
   ·exact Jg _ (Jh _ h)
  ·have:m≠z:=fun h=>hm (h▸hzf);have h2:(H.frz fun m=>m == z) m=H m:=by simp[Heap.frz,this]
   rw[h2];exact kn.chg m hm hx
 exact kn1.setL i hB hn
theorem Kn.callEL (hk:Kn H0 H E L)(i j:Nat){l m:Nat}{o o' q q':Obj}(h:E[i]? = some (l,o))(h2:L[j]? = some (m,q))(hu:Upd H H' [(l,o'),(m,q')])(ho:o'≠.none)(hq:q'≠.none) :
  Kn H0 H' (E.set i (l,o')) (L.set j (m,q')):=by
 refine hk.callg hu (Qc6 h) (Qc6 h2) (fun p hp=>?_) (fun u hu=>?_)
 ·rcases Je.1 hp with hp|hp
  ·rcases Qb3 hp with rfl|⟨b,hb,hp⟩
   ·exact⟨ho,.inl (by simp)⟩
   ·have hm:=Jh L (Jr hp);refine⟨(hk.get p hm).2,.inr ⟨hm,?_⟩⟩;simp only[J5,Jaq,Ju,Ja4,or_false,not_or];exact⟨fun hh=>hb (Qfv hk.dE hp h hh),fun hh=>hk.ext p (Jr hp) (hh▸hk.free j h2)⟩
  ·rcases Qb3 hp with rfl|⟨b,hb,hp⟩
   ·exact⟨hq,.inl (by simp)⟩
   ·have hm:=Jg E (Jr hp);refine⟨(hk.get p hm).2,.inr ⟨hm,?_⟩⟩;simp only[J5,Jaq,Ju,Ja4,or_false,not_or];exact⟨fun hh=>hk.usedE i h (hh▸hk.loc p (Jr hp)),fun hh=>hb (Qfv hk.dL hp h2 hh)⟩
 ·simp at hu;rcases hu with rfl|rfl
  ·exact .inl (Qb1 (p:=(l,o)) (Jr h))
  ·exact .inr (Qb1 (p:=(m,q)) (Jr h2))
end Go.AE
namespace Go.AE.Y
open Go.Proofs.Tryz
theorem Qasu {R:Rdr}{gl k:Nat}{s:GS}{name:List UInt8}{params:Int}{H:Heap}{K:V→Heap→Prop}(hp0:0≤params)(hp3:params≤3)(hR:H R.l=R.o k)(hG:H gl=s.o R)(hne:R.l≠gl)(hs:s.ok k)(hF:FnsOk H R gl s)(hk:k+2001300≤2^30)
  (hK:∀(f:Fn) (s':GS) (H':Heap) (k':Nat),k<k'→k'≤k+2001300→Upd H H' [(R.l,R.o k'),(gl,s'.o R)]→s'.ok k'→s'.fns=s.fns→s'.ffl=s.ffl→f.params.length≤3→Qcn f.body→4 * k+Qh f.body≤4 * k'→K (.ag f.cells) H') :
  Ql prog Qp0 [.c (.ptr gl 0),.c (.str name),.c (.int .i64 params)] H K:=by
 obtain⟨np,rfl⟩:=J3 hp0;refine Q0 ?_;refine Qb Qai Qa88 ?_;refine Qa ?_;simp only[go_sem];intro x6 hx6 H1 h1;have kn:=(Kn.start2 hR (R.o_ne k) hG (s.o_ne R) hne).al hx6 h1;have hG1:=kn.e 1 rfl;refine Qa ?_;have etk:List.take np [[C.str [97]],[C.str [98]],[C.str [99]]]=Qab (List.take np [[97],[98],[99]]):=by simp[Qab,Jbf]
 simp only[go_sem,hG1,GS.o,etk];refine⟨⟨by omega,by omega⟩,fun H2 h2=>?_⟩;have kn:Kn H H2 [(R.l,R.o k),(gl,GS.o { s with vars:=List.take np [[97],[98],[99]],vfl:=false } R)] [(x6,_)]:=kn.stE 1 rfl h2;have hG2:=kn.e 1 rfl;refine Qa ?_;simp only[go_sem,hG2,GS.o];refine⟨Qo (by omega) (by omega),fun H3 h3=>?_⟩;have kn:Kn H H3 [(R.l,R.o k),(gl,GS.o { s with vars:=List.take np [[97],[98],[99]],vfl:=false,next:=(np:Int)-1 } R)] [(x6,_)]:=kn.stE 1 rfl h3;have hs1:GS.ok { s with vars:=List.take np [[97],[98],[99]],vfl:=false,next:=(np:Int)-1 } k:=
  ⟨by show -1≤(np:Int)-1;omega,by show (np:Int)-1≤_;omega,hs.l0,hs.l1,by show (List.take np _).length≤_;simp;omega,hs.f,hs.fn⟩
 have hvl:(List.take np [[97],[98],[99]]:List (List UInt8)).length≤3:=by simp;omega
 have hfn:GS.fns { s with vars:=List.take np [[97],[98],[99]],vfl:=false,next:=(np:Int)-1 }=s.fns:=rfl;have hff:GS.ffl { s with vars:=List.take np [[97],[98],[99]],vfl:=false,next:=(np:Int)-1 }=s.ffl:=rfl;have hvv:GS.vars { s with vars:=List.take np [[97],[98],[99]],vfl:=false,next:=(np:Int)-1 }=List.take np [[97],[98],[99]]:=rfl;rw[←hvv]at hvl;have hF1:FnsOk H R gl { s with vars:=List.take np [[97],[98],[99]],vfl:=false,next:=(np:Int)-1 }:=⟨hF.1,hF.2⟩;generalize ({ s with vars:=List.take np [[97],[98],[99]],vfl:=false,next:=(np:Int)-1 }:GS)=s1 at *;have hG3:=kn.e 1 rfl;refine Qa ?_;have hL:s1.vars.length≤LIM:=by simp only[LIM];omega
 simp only[go_sem,hG3,GS.o,Qr,Jv,Jm,hL];refine⟨.inl trivial,Qc7 _,fun y hy H4 h4=>?_⟩;have kn:=kn.al hy h4;simp only[go_sem,Q8f];intro x7 hx7 H5 h5;have kn:=kn.al hx7 h5;have hx75:=kn.l 2 rfl;simp only[go_sem,Q8e,hx75];intro H6 h6;have kn:Kn H H6 [(R.l,R.o k),(gl,s1.o R)] [(x6,_),(y,_),(x7,_)]:=kn.stL 2 rfl h6;refine Qa ?_;simp only[go_sem];refine Qbl0 3 _ _ _ _ _ _ 3 (by omega) (kn.e 0 rfl) (kn.e 1 rfl) hne hs1 (hF1.keep kn rfl rfl) (by omega) fun l c Lg s2 H7 k2 g1 g2 hu hgr hnew hs2 glf g3 g4 g5 g6 g7=>?_;have kn0:=kn;have kn:=kn.callEE 0 1 rfl rfl (by decide) hu (R.o_ne _) (GS.o_ne _ _);have kn:=kn0.addGr kn rfl rfl hgr hnew;have hx77:=kn.l 2 rfl;simp only[go_sem,Q8g,hx77];intro H8 h8;have kn:Kn H H8 [(R.l,R.o k2),(gl,s2.o R)] ([(x6,.st [.str [],.sl true 1 [],.sl true 5 []]),(y,.vec 1 (Qab s1.vars)),(x7,.st [.str name,.vsl y 1 0 s1.vars.length,c])]++Lg):=kn.stL 2 rfl h8;have hG8:=kn.e 1 rfl;refine Q4 ?_;refine Qa ?_;simp only[go_sem,hG8,GS.o];have hcow:=hgr.isOw;have rest:∀(E1:Env) (hE6:lk 6 E1=V.c (C.ptr x6 0)) (hE7:lk 7 E1=V.c (C.ptr x7 0)) (l2:List St) (c2:C) (rws:List (List C)) (L2:List (Nat×Obj)) (s3:GS) (H9:Heap) (k3:Nat),k<k3→k3≤k+2001300→
   Kn H H9 [(R.l,R.o k3),(gl,s3.o R)] ([(x6,.st [.str [],.sl true 1 [],.sl true 5 []]),(y,.vec 1 (Qab s1.vars)),(x7,.st [.str name,.vsl y 1 0 s1.vars.length,c2])]++L2)→Gr L2 5 rws c2→(∀H',FrzR H' (un H) rws (Qm l2))→
   s3.ok k3→s3.fns=s1.fns→s3.ffl=s1.ffl→Qcn l2→4 * k+Qh l2≤4 * k3→Q8 prog Qxw (Qs Q0h (unK H K)) E1 H9:=by
  intro E1 hE6 hE7 l2 c2 rws L2 s3 H9 k3 e1 e2 kn hg2 hfr e3 e4 e5 e6 e7;have hx69:=kn.l 0 rfl;have hx79:=kn.l 2 rfl;have hcow:=hg2.isOw;refine Qa ?_;simp only[go_sem,hE6,hE7,hx69,hx79,hcow];intro H10 h10;have kn:=kn.stL 0 rfl h10;have hx6a:=kn.l 0 rfl;have hya:=kn.l 1 rfl;refine Qi ?_;simp only[go_sem,Qs,Q6,Q0h,Ja,forall_eq,RS.op,hx6a,hcow];refine⟨(.ag (Fn.mk name s1.vars l2).cells),?_,hK _ s3 _ k3 e1 e2 kn.fin e3 (e4.trans hfn) (e5.trans hff) hvl e6 e7⟩;refine FrzL.ag (.cons (Qg rfl) (.cons ?_ (.cons ?_ .nil)))
  ·exact Qaub (kn.un 1 rfl) hya (by simp[Qab]) (Q7i (Qc7 _))
  ·exact hg2.frzR (B:=[_,_,_]) kn (hfr _)
 have tl:∀(b:Bool) (H9:Heap) (k3:Nat),k2≤k3→k3≤k2+1→(b=true→0<s2.left)→Kn H H9 [(R.l,R.o k3),(gl,s2.o R)] ([(x6,.st [.str [],.sl true 1 [],.sl true 5 []]),(y,.vec 1 (Qab s1.vars)),(x7,.st [.str name,.vsl y 1 0 s1.vars.length,c])]++Lg)→
   Q8 prog (s_l3Gen_fn_7.seq Qxw) (Qs Q0h (unK H K)) [(0,V.c (C.ptr gl 0)),(6,V.c (C.ptr x6 0)),(7,V.c (C.ptr x7 0)),(42,.c (.bool b))] H9:=by
  intro b H9 k3 e1 e2 hb kn;have hG9:=kn.e 1 rfl;refine Qf (Qc rfl ?_ ?_)
  ·intro hc;have hlp:=hb hc;have hl1:=hs2.l1;refine Qa ?_;simp only[go_sem,hG9,GS.o];refine⟨Qo (by omega) (by omega),fun H10 h10=>?_⟩;have kn:Kn H H10 [(R.l,R.o k3),(gl,GS.o { s2 with left:=s2.left-1 } R)] ([(x6,_),(y,_),(x7,_)]++Lg):=kn.stE 1 rfl h10;have hs3:GS.ok { s2 with left:=s2.left-1 } k3:=⟨hs2.n0,by have:=hs2.n1;show s2.next≤_;omega,by show _≤s2.left-1;omega,by show s2.left-1≤100;omega,by have:=hs2.v;show s2.vars.length≤_;omega,hs2.f,hs2.fn⟩;have hx7a:=kn.l 2 rfl;refine Qeb ?_;simp only[go_sem,hx7a,hcow];refine Qc0 2 (by omega) (kn.e 0 rfl) (kn.e 1 rfl) hne hs3 (hF1.keep kn g3 g4) (by omega) fun x H11 k4 q1 q2 hu q3 q4=>?_;have kn:=kn.callE 0 rfl hu (R.o_ne _);have hx7b:=kn.l 2 rfl;simp only[go_sem,Q8i,hx7b,hcow,x.cells_len];refine kn.grow (B:=[_,_,_]) hgr (.mk' _ _ _ _) (by intro r hr;simp only[Ja]at hr;subst hr;rfl) (by simp only[Qu,LIM,Jp,J6];omega) fun y' H12 kn=>?_;have hx7c:=kn.l 2 rfl;simp only[go_sem,Q8h,hx7c];intro H13 h13;have kn:=kn.stL 2 rfl h13;refine rest _ (by simp[lk]) (by simp[lk]) (l++[St.mk 7 [] [x] [] []]) _ _ _ _ H13 k4 (by omega) (by omega) kn (.mk _ _ _ (by simp[Qu])) (fun H'=>?_) (hs3.mono (by omega)) g3 g4 (Qan4 g6 ?_) ?_
   ·rw[←Qmn];refine .app (.same (Qbt _)) ?_;simp only[Qm,St.cells,Qy]
    repeat' first|exact FrzL.nil|exact FrzR.nil|exact Qg rfl|exact FrzL.same (Ex.noOw _)|exact FrzL.same (St.noOw _)|refine FrzL.cons ?_ ?_|refine FrzR.cons ?_ ?_|refine FrzR.sl ?_
   ·simp only[Qcn,St.ok,Qcx];exact⟨⟨by simp,⟨q3,trivial⟩,trivial,trivial⟩,trivial⟩
   ·simp only[Qbm,Qh,St.size,Qp];omega
  ·intro hc;refine Qe ?_;simp only[go_sem];exact rest _ (by simp[lk]) (by simp[lk]) l c _ Lg s2 H9 k3 (by omega) (by omega) kn hgr (fun H'=>.same (Qbt _)) (hs2.mono (by omega)) g3 g4 g6 (by omega)
 refine⟨fun hb=>?_,fun hb=>?_⟩
 ·refine Qch (kn.e 0 rfl) (by omega) fun v H9 hv hu=>?_;have kn:=kn.callE 0 rfl hu (R.o_ne _);simp only[go_sem,Qqw,hb];exact tl _ H9 (k2+1) (by omega) (by omega) (fun _=>by simpa using hb) kn
 ·simp only[go_sem,Qqw,hb];exact tl false H8 k2 (by omega) (by omega) (fun h=>by simp at h) kn
variable {H:Heap}{K:V→Heap→Prop}
theorem Qdk {n lo hi:Int}(hK:K (.c (.bool (decide (lo≤n∧n≤hi)))) H):Ql prog Qcj [.c (.int .i64 n),.c (.int .i64 lo),.c (.int .i64 hi)] H K:=by
 refine Qb Qai Qbpg ?_;refine Qa ?_;simp only[go_sem];refine Qa ?_;simp only[go_sem];refine Qi ?_;simp only[go_sem,Qs,Q6,Qblj,Ja,forall_eq,RS.op];have:(bif decide (lo≤n)then decide (n≤hi)else false)=decide (lo≤n∧n≤hi):=by
  by_cases h:lo≤n <;> simp[h]
 rw[this];exact hK
theorem Qbed {b:Bool}(hK:K (.c (.int .i64 (if b then 1 else 0))) H):Ql prog Q87 [.c (.bool b)] H K:=by
 refine Qb Qai Qbev ?_;refine Qa ?_;simp only[go_sem];refine Q4 ?_;refine Qa ?_;simp only[go_sem];refine Qf (Qc rfl ?_ ?_)
 ·intro hc;subst hc;refine Qa ?_;simp only[go_sem];refine Qi ?_;simp only[go_sem,Qs,Q6,Qer,Ja,forall_eq,RS.op];exact hK
 ·intro hc;subst hc;refine Qe ?_;simp only[go_sem];refine Qa ?_;simp only[go_sem];refine Qi ?_;simp only[go_sem,Qs,Q6,Qer,Ja,forall_eq,RS.op];exact hK
theorem Qaxn {s:List UInt8}{b:UInt8}(hK:∀n:Int,K (.c (.int .i64 n)) H):Ql prog Q85 [.c (.str s),.c (.int .u8 b.toNat)] H K:=by
 refine Qb Qai Qber ?_;refine Qa ?_;simp only[go_sem];refine Q4 ?_;refine Qa ?_;simp only[go_sem];refine Qf (Qd (Qw (fun n e1 H1=>∃i:Nat,n=s.length-i∧i≤s.length∧H1=H∧e1=[(0,.c (.str s)),(1,.c (.int .u8 b.toNat)),(5,.c (.int .i64 i))]) s.length ?_ ?_))
 ·exact⟨0,by omega,by omega,rfl,rfl⟩
 ·rintro n e1 H1 ⟨i,hn,hi,rfl,rfl⟩;refine Q4 ?_;refine Qa ?_;simp only[go_sem];intro hl;simp only[LIM]at hl;refine Qf (Qc rfl ?_ ?_)
  ·intro hc;have hlt:i<s.length:=by simpa using hc
   refine Qe ?_;simp only[go_sem];refine Qf (Qd ?_);refine Qa ?_;simp only[go_sem,hlt];refine Qc rfl ?_ ?_
   ·intro hc2;refine Qa ?_;simp only[go_sem];refine Qi ?_;simp only[go_sem,X.next,Qs,Q6,Qm6,Ja,forall_eq,RS.op];exact hK _
   ·intro hc2;refine Qe ?_;simp only[go_sem];refine Qq ?_;simp only[go_sem,X.next];exact⟨Qo (by omega) (by omega),s.length-(i+1),by omega,i+1,rfl,by omega,rfl⟩
  ·intro hc;refine Qv ?_;simp only[go_sem,X.next];refine Qa ?_;simp only[go_sem];refine Qi ?_;simp only[go_sem,Qs,Q6,Qm6,Ja,forall_eq,RS.op];exact hK _
theorem Qbd5 {b:UInt8}(hK:∀n:Int,K (.c (.int .i64 n)) H):Ql prog Qz8 [.c (.int .u8 b.toNat)] H K:=by
 refine Qb Qai Qax0 ?_;refine Qa ?_;simp only[go_sem];refine Qf (Qd ?_);refine Qa ?_;simp only[go_sem];refine Qc rfl ?_ ?_
 ·intro hc;refine Qa ?_;simp only[go_sem];refine Qi ?_;simp only[go_sem,Qs,Q6,Qer,Ja,forall_eq,RS.op];exact hK _
 intro hc;refine Qa ?_;simp only[go_sem];refine Qc rfl ?_ ?_
 ·intro hc;refine Qa ?_;simp only[go_sem];refine Qi ?_;simp only[go_sem,Qs,Q6,Qer,Ja,forall_eq,RS.op];exact hK _
 intro hc;refine Qa ?_;simp only[go_sem];refine Qaxn fun n=>?_;simp only[go_sem,Qxi];refine Qc rfl ?_ ?_
 ·intro hc;refine Qa ?_;simp only[go_sem];refine Qi ?_;simp only[go_sem,Qs,Q6,Qer,Ja,forall_eq,RS.op];exact hK _
 intro hc;refine Qa ?_;simp only[go_sem];refine Qc rfl ?_ ?_
 ·intro hc;refine Qa ?_;simp only[go_sem];refine Qi ?_;simp only[go_sem,Qs,Q6,Qer,Ja,forall_eq,RS.op];exact hK _
 intro hc;refine Qe ?_;simp only[go_sem];refine Qa ?_;simp only[go_sem];refine Qi ?_;simp only[go_sem,Qs,Q6,Qer,Ja,forall_eq,RS.op];exact hK _
theorem Qbm5 {s:List UInt8}{k:Int}(hK:∀b:Bool,K (.c (.bool b)) H):Ql prog Qage [.c (.str s),.c (.int .i64 k)] H K:=by
 refine Qb Qai Qbeo ?_;refine Qa ?_;simp only[go_sem];refine Q4 ?_;refine Qa ?_;simp only[go_sem];refine Qf (Qd (Qw (fun n e1 H1=>∃i:Nat,n=s.length-i∧i≤s.length∧H1=H∧e1=[(0,.c (.str s)),(1,.c (.int .i64 k)),(5,.c (.int .i64 i))]) s.length ?_ ?_))
 ·exact⟨0,by omega,by omega,rfl,rfl⟩
 ·rintro n e1 H1 ⟨i,hn,hi,rfl,rfl⟩;refine Q4 ?_;refine Qa ?_;simp only[go_sem];intro hl;simp only[LIM]at hl;refine Qf (Qc rfl ?_ ?_)
  ·intro hc;have hlt:i<s.length:=by simpa using hc
   refine Qe ?_;simp only[go_sem];refine Qf (Qd ?_);refine Qa ?_;simp only[go_sem,hlt];refine Qbd5 fun cl=>?_;simp only[go_sem,Qaav];refine Qc rfl ?_ ?_
   ·intro hc2;refine Qa ?_;simp only[go_sem];refine Qi ?_;simp only[go_sem,X.next,Qs,Q6,Qm6,Ja,forall_eq,RS.op];exact hK _
   ·intro hc2;refine Qe ?_;simp only[go_sem];refine Qq ?_;simp only[go_sem,X.next];exact⟨Qo (by omega) (by omega),s.length-(i+1),by omega,i+1,rfl,by omega,rfl⟩
  ·intro hc;refine Qv ?_;simp only[go_sem,X.next];refine Qa ?_;simp only[go_sem];intro _;refine Qi ?_;simp only[go_sem,Qs,Q6,Qm6,Ja,forall_eq,RS.op];exact hK _
theorem Qa8e (hK:∀ss:List (List UInt8),K (.c (.sl true 1 (Qab ss))) H):Ql prog Qhz [] H K:=by
 refine Qb Qai Q7g ?_;refine Qa ?_;simp only[go_sem];refine Qa ?_;simp only[go_sem];refine Qi ?_;simp only[go_sem,Qs,Q6,Qql,Ja,forall_eq,RS.op];exact hK [[102,110],[108,101,116],[115,97,121],[112,117,116],[105,102],[101,108,115,101],[108,111,111,112],[98,97,99,107],[100,111]]
theorem Qbm6 {s:List UInt8}(hK:∀b:Bool,K (.c (.bool b)) H):Ql prog Qagf [.c (.str s)] H K:=by
 refine Qb Qai Qbep ?_;refine Qa ?_;simp only[go_sem];refine Qa ?_;simp only[go_sem];refine Qa8e fun ss=>?_;simp only[go_sem,Qaaw];refine Q4 ?_;refine Qa ?_;simp only[go_sem];refine Qf (Qd (Qw (fun n e1 H1=>∃i:Nat,n=ss.length-i∧i≤ss.length∧H1=H∧e1=[(0,.c (.str s)),(3,.c (.sl true 1 (Qab ss))),(4,.c (.int .i64 i))]) ss.length ?_ ?_))
 ·exact⟨0,by omega,by omega,rfl,rfl⟩
 ·rintro n e1 H1 ⟨i,hn,hi,rfl,rfl⟩;refine Q4 ?_;refine Qa ?_;simp only[go_sem,Qr];intro hl;simp only[LIM]at hl;refine Qf (Qc rfl ?_ ?_)
  ·intro hc;have hlt:i<ss.length:=by simpa using hc
   refine Qe ?_;simp only[go_sem];refine Qf (Qd ?_);refine Qa ?_;simp only[go_sem,hlt,Qr,Qbv _ _ hlt];refine Qc rfl ?_ ?_
   ·intro hc2;refine Qa ?_;simp only[go_sem];refine Qi ?_;simp only[go_sem,X.next,Qs,Q6,Qer,Ja,forall_eq,RS.op];exact hK _
   ·intro hc2;refine Qe ?_;simp only[go_sem];refine Qq ?_;simp only[go_sem,X.next];exact⟨Qo (by omega) (by omega),ss.length-(i+1),by omega,i+1,rfl,by omega,rfl⟩
  ·intro hc;refine Qv ?_;simp only[go_sem,X.next];refine Qa ?_;simp only[go_sem];refine Qi ?_;simp only[go_sem,Qs,Q6,Qer,Ja,forall_eq,RS.op];exact hK _
theorem Qagc {s:List UInt8}(hK:∀b:Bool,K (.c (.bool b)) H):Ql prog Qdv [.c (.str s)] H K:=by
 refine Qb Qai Qahv ?_;refine Qa ?_;simp only[go_sem];refine Qa ?_;simp only[go_sem];refine Qbm5 fun b=>?_;simp only[go_sem,Qn6];intro hl;refine⟨fun hb=>?_,fun hb=>?_⟩
 ·refine Qbm6 fun b2=>?_;simp only[go_sem,Qew];refine Qi ?_;simp only[go_sem,Qs,Q6,Qer,Ja,forall_eq,RS.op];exact hK _
 ·simp only[go_sem,Qew,hb];refine Qi ?_;simp only[go_sem,Qs,Q6,Qer,Ja,forall_eq,RS.op];exact hK _
theorem Qbi2 {op:Int}(hK:∀a b:Int,K (.tup [.c (.int .i64 a),.c (.int .i64 b)]) H):Ql prog Q60 [.c (.int .i64 op)] H K:=by
 refine Qb Qai Qa7n ?_;refine Qa ?_;simp only[go_sem];refine Q4 ?_;refine Qa ?_;simp only[go_sem];have ret:∀(a b:Int) (e:Env),lk 2 e=.c (.int .i64 a)→lk 3 e=.c (.int .i64 b)→Qs Qk0 K .ret e H:=by
  intro a b e h1 h2;simp only[go_sem,Qs,Q6,Qk0,Jas,RS.op,h1,h2];exact hK _ _
 refine Qf (Qd ?_);refine Q4 ?_;refine Qa ?_;simp only[go_sem];have r5:∀(b:Bool),Q8 prog Qaay (X.inBlock 0 (X.sq prog Qo5 (Qs Qk0 K))) [(4,.c (.int .i64 op)),(5,.c (.bool b))] H:=by
  intro b;refine Qc rfl ?_ ?_
  ·intro hc;refine Qa ?_;simp only[go_sem];refine Qi ?_;simp only[go_sem];exact ret 0 0 _ (by simp[lk]) (by simp[lk])
  intro hc;refine Q4 ?_;refine Qa ?_;simp only[go_sem];have r8:∀(b:Bool),Q8 prog Qaax (X.inBlock 0 (X.sq prog Qo5 (Qs Qk0 K))) [(4,.c (.int .i64 op)),(8,.c (.bool b))] H:=by
   intro b;refine Qc rfl ?_ ?_
   ·intro hc;refine Qa ?_;simp only[go_sem];refine Qi ?_;simp only[go_sem];exact ret 1 1 _ (by simp[lk]) (by simp[lk])
   intro hc;refine Qa ?_;simp only[go_sem];refine Qc rfl ?_ ?_
   ·intro hc;refine Qa ?_;simp only[go_sem];refine Qi ?_;simp only[go_sem];exact ret 0 3 _ (by simp[lk]) (by simp[lk])
   ·intro hc;refine Qe ?_;simp only[go_sem];refine Qa ?_;simp only[go_sem];refine Qi ?_;exact ret 2 2 _ (by simp[lk]) (by simp[lk])
  refine Qf (Qc rfl ?_ ?_)
  ·intro hc;refine Qe ?_;simp only[go_sem];exact r8 _
  ·intro hc;refine Qq ?_;simp only[go_sem];exact r8 _
 refine Qf (Qc rfl ?_ ?_)
 ·intro hc;refine Qe ?_;simp only[go_sem];exact r5 _
 ·intro hc;refine Qq ?_;simp only[go_sem];exact r5 _
theorem Qa7e {op:Int}(hK:K (.c (.int .i64 (if op=4 then 2 else 1))) H):Ql prog Qaha [.c (.int .i64 op)] H K:=by
 refine Qb Qai Qbjc ?_;refine Qa ?_;simp only[go_sem];refine Q4 ?_;refine Qa ?_;simp only[go_sem];refine Qf (Qc rfl ?_ ?_)
 ·intro hc;refine Qa ?_;simp only[go_sem];refine Qi ?_;simp only[go_sem,Qs,Q6,Qer,Ja,forall_eq,RS.op];rw[if_pos (by simpa using hc)]at hK;exact hK
 ·intro hc;refine Qe ?_;simp only[go_sem];refine Qa ?_;simp only[go_sem];refine Qi ?_;simp only[go_sem,Qs,Q6,Qer,Ja,forall_eq,RS.op];rw[if_neg (by simpa using hc)]at hK;exact hK
theorem Qh7 {l:List Ex}{i:Nat}(h:i<l.length):Qp (l.take (i+1))=Qp (l.take i)+(l[i]'h).size:=by
 rw[Jf h,Qey];simp[Qp]
theorem Qd4 {l:List St}{i:Nat}(h:i<l.length):Qh (l.take (i+1))=Qh (l.take i)+(l[i]'h).size:=by
 rw[Jf h,Qbm];simp[Qh]
theorem Qcr (l:List Ex)(i:Nat):Qp (l.take i)≤Qp l:=by
 conv=>rhs;rw[←J0 i l,Qey]
 omega
theorem Qa6 (l:List St)(i:Nat):Qh (l.take i)≤Qh l:=by
 conv=>rhs;rw[←J0 i l,Qbm]
 omega
theorem Qa19 (l:List Ex):l.length≤Qp l:=by
 induction l with
 |nil=>simp
 |cons x r ih=>simp only[Jp,Qp];have:=x.size_pos;omega
theorem St.size_pos (x:St):1≤x.size:=by rw[x.size_eq];omega
theorem Qb8 (l:List St):l.length≤Qh l:=by
 induction l with
 |nil=>simp
 |cons x r ih=>simp only[Jp,Qh];have:=x.size_pos;omega
theorem Qaxm:∀(n:Nat) (x:Ex) {H:Heap} {K:V→Heap→Prop},x.size≤n→x.size≤2^40→K (.c (.int .i64 x.size)) H→Ql prog Q0a [.ag x.cells] H K:=by
 intro n
 induction n with
 |zero=>intro x _ _ h;have:=x.size_pos;omega
 |succ n ih=>
 intro x H K hn hb hK;have hsz:=x.size_kids;refine Qb Qai Qbeq ?_;refine Qa ?_;simp only[go_sem,x.cells_eq];refine Qa ?_;simp only[go_sem];refine Q4 ?_;refine Qa ?_;simp only[go_sem];refine Qf (Qd (Qw (fun n e1 H1=>∃i:Nat,n=x.kids.length-i∧i≤x.kids.length∧H1=H∧e1=[(1,.c (.pp [.int .i64 x.op,.int .i64 x.n,.str x.name,.sl false 4 (Qy x.kids)])),(3,.c (.int .i64 ((1+Qp (x.kids.take i):Nat):Int))),(4,.c (.int .i64 i))]) x.kids.length ?_ ?_))
 ·exact⟨0,by omega,by omega,rfl,by simp[Qp]⟩
 ·rintro n e1 H1 ⟨i,hn,hi,rfl,rfl⟩;refine Q4 ?_;refine Qa ?_;simp only[go_sem,Qn];intro hl;simp only[LIM]at hl;refine Qf (Qc rfl ?_ ?_)
  ·intro hc;have hlt:i<x.kids.length:=by simpa using hc
   have hm:=Qan (Jc hlt);have htk:=Qh7 hlt;have htl:=Qcr x.kids (i+1);refine Qe ?_;simp only[go_sem];refine Qf (Qd (Qq ?_));simp only[go_sem,hlt,Qn,Qap _ _ hlt,Ex.take4,Ex.allOw,Ex.cells_len];refine ih _ (by omega) (by omega) ?_;simp only[go_sem,Qacm];refine⟨Qo (by omega) (by omega),?_⟩;refine Qq ?_;simp only[go_sem,X.next];refine⟨Qo (by omega) (by omega),x.kids.length-(i+1),by omega,i+1,rfl,by omega,?_⟩;rw[htk];simp;omega
  ·intro hc;have hge:x.kids.length≤i:=by simpa using hc
   refine Qv ?_;simp only[go_sem,X.next];refine Qa ?_;simp only[go_sem];refine Qi ?_;simp only[go_sem,Qs,Q6,Qer,Ja,forall_eq,RS.op];rw[Jd hge,←hsz];exact hK
theorem Qbi1:∀(n:Nat) (x:Ex) {H:Heap} {K:V→Heap→Prop} (deep:Int),x.size≤n→deep≤100→(∀b:Bool,K (.c (.bool b)) H)→Ql prog Quz [.ag x.cells,.c (.int .i64 deep)] H K:=by
 intro n
 induction n with
 |zero=>intro x _ _ _ h;have:=x.size_pos;omega
 |succ n ih=>
 intro x H K deep hn hd hK;have hsz:=x.size_kids;refine Qb Qai Qa7m ?_;refine Qa ?_;simp only[go_sem,x.cells_eq];refine Qa ?_;simp only[go_sem];refine Qbi2 fun lo hi=>?_;simp only[go_sem,Q5p,Jaw,Jav];refine Q4 ?_;refine Qa ?_;simp only[go_sem];have retf:∀(b:Bool) (e:Env),lk 4 e=.c (.bool b)→Qs Qm6 K .ret e H:=by
  intro b e h1;simp only[go_sem,Qs,Q6,Qm6,Ja,forall_eq,RS.op,h1];exact hK _
 have rest:∀b:Bool,(b=false→1≤deep)→Q8 prog (s_l2Form_3.seq Q5o) (Qs Qm6 K)
   [(1,.c (.int .i64 deep)),(2,.c (.pp [.int .i64 x.op,.int .i64 x.n,.str x.name,.sl false 4 (Qy x.kids)])),(31,.c (.bool b))] H:=by
  intro b hb;refine Qf (Qc rfl ?_ ?_)
  ·intro hc;refine Qa ?_;simp only[go_sem];refine Qi ?_;simp only[go_sem];exact retf false _ (by simp[lk])
  intro hc;have hdp:=hb hc;refine Qe ?_;simp only[go_sem];refine Qa ?_;simp only[go_sem];refine Q4 ?_;refine Qa ?_;simp only[go_sem];refine Qagc fun b1=>?_;simp only[go_sem,Q5q];have rest2:∀b:Bool,Q8 prog (s_l2Form_6.seq Q5n) (Qs Qm6 K)
    [(1,.c (.int .i64 deep)),(2,.c (.pp [.int .i64 x.op,.int .i64 x.n,.str x.name,.sl false 4 (Qy x.kids)])),(69,.c (.bool b))] H:=by
   intro b;refine Qf (Qc rfl ?_ ?_)
   ·intro hc;refine Qa ?_;simp only[go_sem];refine Qi ?_;simp only[go_sem];exact retf false _ (by simp[lk])
   intro hc;refine Qe ?_;simp only[go_sem];refine Q4 ?_;refine Qa ?_;simp only[go_sem];refine Qf (Qd (Qw (fun n e1 H1=>∃i:Nat,n=x.kids.length-i∧i≤x.kids.length∧H1=H∧e1=[(1,.c (.int .i64 deep)),(2,.c (.pp [.int .i64 x.op,.int .i64 x.n,.str x.name,.sl false 4 (Qy x.kids)])),(8,.c (.int .i64 i))]) x.kids.length ?_ ?_))
   ·exact⟨0,by omega,by omega,rfl,rfl⟩
   ·rintro n e1 H1 ⟨i,hn,hi,rfl,rfl⟩;refine Q4 ?_;refine Qa ?_;simp only[go_sem,Qn];intro hl;simp only[LIM]at hl;refine Qf (Qc rfl ?_ ?_)
    ·intro hc;have hlt:i<x.kids.length:=(by simpa using hc);have hm:=Qan (Jc hlt);refine Qe ?_;simp only[go_sem];refine Qf (Qd ?_);refine Qa ?_;simp only[go_sem,hlt,Qn,Qap _ _ hlt,Ex.take4,Ex.allOw,Ex.cells_len];refine⟨Qo (by omega) (by omega),?_⟩;refine ih _ (deep-1) (by omega) (by omega) fun b2=>?_;simp only[go_sem,Q5r];refine Qc rfl ?_ ?_
     ·intro hc2;refine Qa ?_;simp only[go_sem];refine Qi ?_;simp only[go_sem,X.next];exact retf false _ (by simp[lk])
     ·intro hc2;refine Qe ?_;simp only[go_sem];refine Qq ?_;simp only[go_sem,X.next];exact⟨Qo (by omega) (by omega),x.kids.length-(i+1),by omega,i+1,rfl,by omega,rfl⟩
    ·intro hc;refine Qv ?_;simp only[go_sem,X.next];refine Qa ?_;simp only[go_sem];refine Qi ?_;exact retf true _ (by simp[lk])
  refine⟨fun hb1=>?_,fun hb1=>?_⟩
  ·refine Qdk ?_;simp only[go_sem,Qme];exact rest2 _
  ·replace hb1:=Qdx hb1;simp only[go_sem,Qme,hb1];exact rest2 _
 refine⟨fun hb1=>?_,fun hb1=>?_⟩
 ·replace hb1:=Qi8 hb1;have hdp:1≤deep:=by simp at hb1;omega
  refine Qdk ?_;simp only[go_sem,Qmd,hb1,Qn,cond_false];intro hl;refine⟨fun hb2=>?_,fun hb2=>?_⟩
  ·refine Qdk ?_;simp only[go_sem,Qe2];exact rest _ (fun _=>hdp)
  ·replace hb2:=Qdx hb2;simp only[go_sem,Qe2,hb2];exact rest _ (fun _=>hdp)
 ·replace hb1:=Qdx hb1;simp only[go_sem,Qmd,Qe2,hb1,Qn,cond_true];exact rest _ (fun h=>by simp at h)
theorem Qa1w {x:Ex}(hx:x.size≤2^40)(hK:∀b:Bool,K (.c (.bool b)) H):Ql prog Qfq [.ag x.cells] H K:=by
 refine Qb Qai Q3c ?_;refine Qa ?_;simp only[go_sem,Ex.ne_nil];refine Qa ?_;simp only[go_sem,Ex.take4,Ex.allOw,Ex.cells_len];refine Qbi1 x.size x 6 (Jk _) (by omega) fun b=>?_;simp only[go_sem,Qho,Ex.take4,Ex.allOw,Ex.cells_len];refine⟨fun hb=>?_,fun hb=>?_⟩
 ·refine Qaxm x.size x (Jk _) hx ?_;simp only[go_sem,Qcv];refine Qi ?_;simp only[go_sem,Qs,Q6,Qer,Ja,forall_eq,RS.op];exact hK _
 ·simp only[go_sem,Qcv,hb];refine Qi ?_;simp only[go_sem,Qs,Q6,Qer,Ja,forall_eq,RS.op];exact hK _
def St.raw (x:St):List C:=[.int .i64 x.op,.str x.name,.sl false 4 (Qy x.args),.sl false 5 (Qm x.body),.sl false 5 (Qm x.els)]
theorem Qbeb:∀(n:Nat) (l:List St) {fl:Bool} {H:Heap} {K:V→Heap→Prop},Qh l≤n→Qh l≤2^40→(∀v:Nat,v≤Qh l→K (.c (.int .i64 v)) H)→Ql prog Qlb [.c (.sl fl 5 (Qm l))] H K:=by
 intro n
 induction n using Nat.strongRecOn with
 |ind n ih=>
 intro l fl H K hn hb hK;have hlen:=Qb8 l;refine Qb Qai Qax2 ?_;refine Qa ?_;simp only[go_sem];refine Qa ?_;simp only[go_sem,Qu];intro hl;refine Q4 ?_;refine Qa ?_;simp only[go_sem];refine Qf (Qd (Qw (fun n e1 H1=>∃(i v:Nat),n=l.length-i∧i≤l.length∧v≤(l.length-i)+Qh (l.take i)∧H1=H∧e1=[(0,.c (.sl fl 5 (Qm l))),(3,.c (.int .i64 v)),(4,.c (.int .i64 i))]) l.length ?_ ?_))
 ·exact⟨0,l.length,by omega,by omega,by omega,rfl,rfl⟩
 ·rintro n e1 H1 ⟨i,v,hn1,hi,hv,rfl,rfl⟩;refine Q4 ?_;refine Qa ?_;simp only[go_sem,Qu];simp only[LIM]at hl;refine fun _=>?_;refine Qf (Qc rfl ?_ ?_)
  ·intro hc;have hlt:i<l.length:=by simpa using hc
   have hm:=Qbg (Jc hlt);have htk:=Qd4 hlt;have htl:=Qa6 l (i+1);have hse:=(l[i]'hlt).size_eq;refine Qe ?_;simp only[go_sem];refine Qf (Qd (Qeb ?_));simp only[go_sem,hlt,Qu,Qbc _ _ hlt,St.cells_eq];refine ih (Qh l[i].body) (by omega) l[i].body (Jk _) (by omega) fun a ha=>?_;simp only[go_sem,Qxk,hlt,Qu,Qbc _ _ hlt,St.cells_eq];refine⟨Qo (by omega) (by omega),?_⟩;refine ih (Qh l[i].els) (by omega) l[i].els (Jk _) (by omega) fun c hc=>?_;simp only[go_sem,Qxj];refine⟨Qo (by omega) (by omega),?_⟩;refine Qq ?_;simp only[go_sem,X.next];refine⟨Qo (by omega) (by omega),l.length-(i+1),by omega,i+1,v+a+c,rfl,by omega,by omega,rfl⟩
  ·intro hc;have hge:l.length≤i:=by simpa using hc
   refine Qv ?_;simp only[go_sem,X.next];refine Qa ?_;simp only[go_sem];refine Qi ?_;simp only[go_sem,Qs,Q6,Qer,Ja,forall_eq,RS.op];rw[Jd hge]at hv;exact hK v (by omega)
def Qbol (n:Nat):Prop:=∀(x:St) (deep:Int) (H:Heap) (K:V→Heap→Prop),x.size≤n→x.size≤2^40→deep≤100→(∀b:Bool,K (.c (.bool b)) H)→Ql prog Q62 [.ag x.cells,.c (.int .i64 deep)] H K
def Qbct (n:Nat):Prop:=∀(l:List St) (deep:Int) (fl:Bool) (H:Heap) (K:V→Heap→Prop),Qh l≤n→Qh l≤2^40→deep≤100→(∀b:Bool,K (.c (.bool b)) H)→Ql prog Qlc [.c (.sl fl 5 (Qm l)),.c (.int .i64 deep)] H K
theorem Qbkw {n:Nat}(hS:Qbol n):Qbct n:=by
 intro l deep fl H K hn hb hd hK;refine Qb Qai Qax7 ?_;have retf:∀(b:Bool) (e:Env),lk 4 e=.c (.bool b)→Qs Qm6 K .ret e H:=by
  intro b e h1;simp only[go_sem,Qs,Q6,Qm6,Ja,forall_eq,RS.op,h1];exact hK _
 refine Qa ?_;simp only[go_sem];refine Q4 ?_;refine Qa ?_;simp only[go_sem];refine Qf (Qd (Qw (fun n e1 H1=>∃(i:Nat),n=l.length-i∧i≤l.length∧H1=H∧e1=[(0,.c (.sl fl 5 (Qm l))),(1,.c (.int .i64 deep)),(5,.c (.int .i64 i))]) l.length ?_ ?_))
 ·exact⟨0,by omega,by omega,rfl,rfl⟩
 ·rintro n e1 H1 ⟨i,hn1,hi,rfl,rfl⟩;refine Q4 ?_;refine Qa ?_;simp only[go_sem,Qu];intro hl;simp only[LIM]at hl;refine Qf (Qc rfl ?_ ?_)
  ·intro hc;have hlt:i<l.length:=by simpa using hc
   have hm:=Qbg (Jc hlt);refine Qe ?_;simp only[go_sem];refine Qf (Qd ?_);refine Qa ?_;simp only[go_sem,hlt,Qu,Qbc _ _ hlt,St.take5,St.allOw,St.cells_len];refine hS _ deep _ _ (by omega) (by omega) hd fun b=>?_;simp only[go_sem,Qyh];refine Qc rfl ?_ ?_
   ·intro hc2;refine Qa ?_;simp only[go_sem];refine Qi ?_;simp only[go_sem,X.next];exact retf false _ (by simp[lk])
   ·intro hc2;refine Qe ?_;simp only[go_sem];refine Qq ?_;simp only[go_sem,X.next];exact⟨Qo (by omega) (by omega),l.length-(i+1),by omega,i+1,rfl,by omega,rfl⟩
  ·intro hc;refine Qv ?_;simp only[go_sem,X.next];refine Qa ?_;simp only[go_sem];refine Qi ?_;exact retf true _ (by simp[lk])
theorem Qbn1 {n:Nat}(hS:∀m,m<n→Qbct m):Qbol n:=by
 intro x deep H K hn hb hd hK;have hsz:=x.size_eq;refine Qb Qai Qa7p ?_;have retf:∀(b:Bool) (e:Env),lk 4 e=.c (.bool b)→Qs Qm6 K .ret e H:=by
  intro b e h1;simp only[go_sem,Qs,Q6,Qm6,Ja,forall_eq,RS.op,h1];exact hK _
 refine Qa ?_;simp only[go_sem,x.cells_eq];refine Q4 ?_;refine Qag ?_;simp only[go_sem];have rest:∀b:Bool,(b=false→1≤deep∧x.args.length=if x.op=4 then 2 else 1)→Q8 prog (s_l3Stmt_2.seq Q5u) (Qs Qm6 K)
   [(1,.c (.int .i64 deep)),(2,.c (.pp [.int .i64 x.op,.str x.name,.sl false 4 (Qy x.args),.sl false 5 (Qm x.body),.sl false 5 (Qm x.els)])),(23,.c (.bool b))] H:=by
  intro b hb;refine Qf (Qc rfl ?_ ?_)
  ·intro hc;refine Qa ?_;simp only[go_sem];refine Qi ?_;simp only[go_sem];exact retf false _ (by simp[lk])
  intro hc;obtain⟨hdp,hal⟩:=hb hc;have hap:0<x.args.length:=by rw[hal];split <;> omega
  refine Qe ?_;simp only[go_sem];refine Qa ?_;simp only[go_sem];refine Q4 ?_;refine Qa ?_;simp only[go_sem];refine Qagc fun b1=>?_;simp only[go_sem,Q5v];refine Qf (Qc rfl ?_ ?_)
  ·intro hc;refine Qa ?_;simp only[go_sem];refine Qi ?_;simp only[go_sem];exact retf false _ (by simp[lk])
  intro hc;refine Qe ?_;simp only[go_sem];refine Q4 ?_;refine Qa ?_;simp only[go_sem];refine Qf (Qd (Qw (fun n e1 H1=>∃(i:Nat),n=x.args.length-i∧i≤x.args.length∧H1=H∧e1=[(1,.c (.int .i64 deep)),(2,.c (.pp [.int .i64 x.op,.str x.name,.sl false 4 (Qy x.args),.sl false 5 (Qm x.body),.sl false 5 (Qm x.els)])),(6,.c (.int .i64 i))]) x.args.length ?_ ?_))
  ·exact⟨0,by omega,by omega,rfl,rfl⟩
  ·rintro n e1 H1 ⟨i,hn1,hi,rfl,rfl⟩;refine Q4 ?_;refine Qa ?_;simp only[go_sem,Qn];intro hl;simp only[LIM]at hl;refine Qf (Qc rfl ?_ ?_)
   ·intro hc;have hlt:i<x.args.length:=(by simpa using hc);have hm:=Qan (Jc hlt);refine Qe ?_;simp only[go_sem];refine Qf (Qd ?_);refine Qa ?_;simp only[go_sem,hlt,Qn,Qap _ _ hlt,Ex.take4,Ex.allOw,Ex.cells_len];refine Qa1w (by omega) fun b=>?_;simp only[go_sem,Q5w];refine Qc rfl ?_ ?_
    ·intro hc2;refine Qa ?_;simp only[go_sem];refine Qi ?_;simp only[go_sem,X.next];exact retf false _ (by simp[lk])
    ·intro hc2;refine Qe ?_;simp only[go_sem];refine Qq ?_;simp only[go_sem,X.next];exact⟨Qo (by omega) (by omega),x.args.length-(i+1),by omega,i+1,rfl,by omega,rfl⟩
   ·intro hc;refine Qv ?_;simp only[go_sem,X.next];refine Q4 ?_;refine Qa ?_;simp only[go_sem,hap,Qn,Qap _ _ hap,Ex.cells_eq];refine⟨fun _=>Ja8 _,?_⟩;refine Qf (Qc rfl ?_ ?_)
    ·intro hc;refine Qa ?_;simp only[go_sem];refine Qi ?_;simp only[go_sem];exact retf false _ (by simp[lk])
    intro hc;refine Qe ?_;simp only[go_sem];refine Q4 ?_;refine Qa ?_;simp only[go_sem,Qu]
    intros
    refine Qf (Qc rfl ?_ ?_)
    ·intro hc;refine Qa ?_;simp only[go_sem];refine Qi ?_;simp only[go_sem];exact retf false _ (by simp[lk])
    intro hc;refine Qe ?_;simp only[go_sem];refine Qa ?_;simp only[go_sem];refine⟨Qo (by omega) (by omega),?_⟩;refine hS (Qh x.body) (by omega) _ _ _ _ _ (Jk _) (by omega) (by omega) fun b1=>?_;simp only[go_sem,Qyg];refine⟨fun _=>Qo (by omega) (by omega),?_⟩;refine⟨fun hb1=>?_,fun hb1=>?_⟩
    ·refine hS (Qh x.els) (by omega) _ _ _ _ _ (Jk _) (by omega) (by omega) fun b2=>?_;simp only[go_sem,Qiw];refine Qi ?_;exact retf _ _ (by simp[lk];rfl)
    ·simp only[go_sem,Qiw,hb1];refine Qi ?_;exact retf false _ (by simp[lk])
 refine⟨fun hb1=>?_,fun hb1=>?_⟩
 ·replace hb1:=Qi8 hb1;have hdp:1≤deep:=by simp at hb1;omega
  refine Qdk ?_;simp only[go_sem,Qmi,hb1,Qn,cond_false];refine⟨fun hb2=>?_,fun hb2=>?_⟩
  ·refine Qa7e ?_;simp only[go_sem,Qe3,Qn];refine rest _ (fun h=>⟨hdp,?_⟩);have h1:(x.args.length:Int)=if x.op=4 then 2 else 1:=by
    cases h2:decide (1≤x.op∧x.op≤8) <;> rw[h2]at h <;> simp_all
   by_cases h4:x.op=4
   ·rw[if_pos h4]at h1⊢;omega
   ·rw[if_neg h4]at h1⊢;omega
  ·replace hb2:=Qdx hb2;simp only[go_sem,Qe3,hb2,Qn];exact rest _ (fun h=>by simp at h)
 ·replace hb1:=Qdx hb1;simp only[go_sem,Qmi,Qe3,hb1,Qn,cond_true];exact rest _ (fun h=>by simp at h)
theorem Qbn2 (n:Nat):Qbct n:=by
 induction n using Nat.strongRecOn with
 |ind n ih=>exact Qbkw (Qbn1 ih)
theorem Qbpa {f:Fn}(hf:Qh f.body≤2^40)(hK:∀b:Bool,K (.c (.bool b)) H):Ql prog Qat7 [.ag f.cells] H K:=by
 refine Qb Qai Qblh ?_;have retf:∀(b:Bool) (e:Env),lk 2 e=.c (.bool b)→Qs Qer K .ret e H:=by
  intro b e h1;simp only[go_sem,Qs,Q6,Qer,Ja,forall_eq,RS.op,h1];exact hK _
 refine Qa ?_;simp only[go_sem,Fn.cells];refine Q4 ?_;refine Qa ?_;simp only[go_sem];refine Qf (Qd (Qw (fun n e1 H1=>∃(i:Nat),n=f.params.length-i∧i≤f.params.length∧H1=H∧e1=[(1,.c (.pp [.str f.name,.sl false 1 (Qab f.params),.sl false 5 (Qm f.body)])),(3,.c (.int .i64 i))]) f.params.length ?_ ?_))
 ·exact⟨0,by omega,by omega,rfl,rfl⟩
 ·rintro n e1 H1 ⟨i,hn1,hi,rfl,rfl⟩;refine Q4 ?_;refine Qa ?_;simp only[go_sem,Qr];intro hl;simp only[LIM]at hl;refine Qf (Qc rfl ?_ ?_)
  ·intro hc;have hlt:i<f.params.length:=by simpa using hc
   refine Qe ?_;simp only[go_sem];refine Qf (Qd ?_);refine Qa ?_;simp only[go_sem,hlt,Qr,Qbv _ _ hlt];refine Qagc fun b=>?_;simp only[go_sem,Qaki];refine Qc rfl ?_ ?_
   ·intro hc2;refine Qa ?_;simp only[go_sem];refine Qi ?_;simp only[go_sem,X.next];exact retf false _ (by simp[lk])
   ·intro hc2;refine Qe ?_;simp only[go_sem];refine Qq ?_;simp only[go_sem,X.next];exact⟨Qo (by omega) (by omega),f.params.length-(i+1),by omega,i+1,rfl,by omega,rfl⟩
  ·intro hc;refine Qv ?_;simp only[go_sem,X.next];refine Qa ?_;simp only[go_sem];refine Qagc fun b=>?_;simp only[go_sem,Qakj,Qr]
   intros
   refine⟨fun hb1=>?_,fun hb1=>?_⟩
   ·refine Qbn2 _ _ _ _ _ _ (Jk _) hf (by omega) fun b2=>?_;simp only[go_sem,Qxl];refine Qi ?_;exact retf _ _ (by simp[lk];rfl)
   ·simp only[go_sem,Qxl,hb1];refine Qi ?_;exact retf false _ (by simp[lk])
def Qt:List Fn→Nat
 |[]=>0
 |f::r=>Qh f.body+Qt r
theorem Qbb {l:List Fn}{f:Fn}(h:f∈l):Qh f.body≤Qt l:=by
 induction l with
 |nil=>simp at h
 |cons g r ih=>
  simp only[Qt];rcases Ju.1 h with rfl|h
  ·omega
  ·have:=ih h;omega
theorem Qm1 (a b:List Fn):Qt (a++b)=Qt a+Qt b:=by
 induction a with
 |nil=>simp[Qt]
 |cons x r ih=>simp only[Jj,Qt,ih];omega
theorem Q7j {l:List Fn}{i:Nat}(h:i<l.length):Qt (l.take (i+1))=Qt (l.take i)+Qh (l[i]'h).body:=by
 rw[Jf h,Qm1];simp[Qt]
theorem Qi9 (l:List Fn)(i:Nat):Qt (l.take i)≤Qt l:=by
 conv=>rhs;rw[←J0 i l,Qm1]
 omega
theorem Qbm8 {l:List Fn}{fl:Bool}(hf:Qt l≤2^40)(hK:∀n:Int,K (.c (.int .i64 n)) H):Ql prog Qagg [.ag [.sl fl 3 (Q1 l)]] H K:=by
 refine Qb Qai Qbet ?_;refine Qa ?_;simp only[go_sem];refine Qa ?_;simp only[go_sem];refine Q4 ?_;refine Qa ?_;simp only[go_sem];refine Qf (Qd (Qw (fun n e1 H1=>∃(i v:Nat),n=l.length-i∧i≤l.length∧v≤Qt (l.take i)∧H1=H∧e1=[(1,.c (.pp [.sl fl 3 (Q1 l)])),(3,.c (.int .i64 v)),(4,.c (.int .i64 i))]) l.length ?_ ?_))
 ·exact⟨0,0,by omega,by omega,by omega,rfl,rfl⟩
 ·rintro n e1 H1 ⟨i,v,hn1,hi,hv,rfl,rfl⟩;refine Q4 ?_;refine Qa ?_;simp only[go_sem,Qz];intro hl;simp only[LIM]at hl;refine Qf (Qc rfl ?_ ?_)
  ·intro hc;have hlt:i<l.length:=by simpa using hc
   have hm:=Qbb (Jc hlt);have htk:=Q7j hlt;have htl:=Qi9 l (i+1);refine Qe ?_;simp only[go_sem];refine Qf (Qd (Qq ?_));simp only[go_sem,hlt,Qz,Qat _ _ hlt,Fn.cells];refine Qbeb _ _ (Jk _) (by omega) fun c hc=>?_;simp only[go_sem,Qaa0];refine⟨Qo (by omega) (by omega),?_⟩;refine Qq ?_;simp only[go_sem,X.next];exact⟨Qo (by omega) (by omega),l.length-(i+1),by omega,i+1,v+c,rfl,by omega,by omega,rfl⟩
  ·intro hc;refine Qv ?_;simp only[go_sem,X.next];refine Qa ?_;simp only[go_sem];refine Qi ?_;simp only[go_sem,Qs,Q6,Qer,Ja,forall_eq,RS.op];exact hK _
theorem Qaoa {l:List Fn}{fl:Bool}(hf:Qt l≤2^40)(hK:∀b:Bool,K (.c (.bool b)) H):Ql prog Qcg [.ag [.sl fl 3 (Q1 l)]] H K:=by
 refine Qb Qai Qog ?_;have retf:∀(b:Bool) (e:Env),lk 2 e=.c (.bool b)→Qs Qer K .ret e H:=by
  intro b e h1;simp only[go_sem,Qs,Q6,Qer,Ja,forall_eq,RS.op,h1];exact hK _
 refine Qa ?_;simp only[go_sem];refine Q4 ?_;refine Qa ?_;simp only[go_sem,Qz];intro hl;simp only[LIM]at hl;refine Qdk ?_;simp only[go_sem,Qek];refine Qf (Qc rfl ?_ ?_)
 ·intro hc;refine Qa ?_;simp only[go_sem];refine Qi ?_;simp only[go_sem];exact retf false _ (by simp[lk])
 intro hc;refine Qe ?_;simp only[go_sem];refine Q4 ?_;refine Qa ?_;simp only[go_sem];refine Qf (Qd (Qw (fun n e1 H1=>∃(i:Nat),n=l.length-i∧i≤l.length∧H1=H∧e1=[(1,.c (.pp [.sl fl 3 (Q1 l)])),(3,.c (.int .i64 i))]) l.length ?_ ?_))
 ·exact⟨0,by omega,by omega,rfl,rfl⟩
 ·rintro n e1 H1 ⟨i,hn1,hi,rfl,rfl⟩;refine Q4 ?_;refine Qa ?_;simp only[go_sem,Qz];refine fun _=>?_;refine Qf (Qc rfl ?_ ?_)
  ·intro hc;have hlt:i<l.length:=by simpa using hc
   have hm:=Qbb (Jc hlt);refine Qe ?_;simp only[go_sem];refine Qf (Qd ?_);refine Qa ?_;simp only[go_sem,hlt,Qz,Qat _ _ hlt,Fn.take3,Fn.allOw,Fn.cells_len];refine Qbpa (by omega) fun b=>?_;simp only[go_sem,Qel];refine Qc rfl ?_ ?_
   ·intro hc2;refine Qa ?_;simp only[go_sem];refine Qi ?_;simp only[go_sem,X.next];exact retf false _ (by simp[lk])
   ·intro hc2;refine Qe ?_;simp only[go_sem];refine Qq ?_;simp only[go_sem,X.next];exact⟨Qo (by omega) (by omega),l.length-(i+1),by omega,i+1,rfl,by omega,rfl⟩
  ·intro hc;refine Qv ?_;simp only[go_sem,X.next];refine Qa ?_;simp only[go_sem];refine Qbm8 hf fun n=>?_;simp only[go_sem,Qem];refine Qi ?_;exact retf _ _ (by simp[lk];rfl)
end Go.AE.Y
namespace Go.AE.Y
open Go.Proofs.Tryz
structure PrOk (l:List Fn):Prop where
 pos:0<l.length
 par:∀f∈l,f.params.length≤3
 ok:∀f∈l,Qcn f.body
 size:Qt l≤2^34
 len:l.length≤4
end Go.AE.Y
namespace Go.AE
open Go.AE.Y
open Go.Proofs.Tryz
theorem Kn.perm4 {H0 H:Heap}{E:List (Nat×Obj)}{a b c d:Nat×Obj}(kn:Kn H0 H E [a,b,c,d]):Kn H0 H E [a,b,d]:=
 Kn.drop (A:=[a,b,d]) (B:=[c]) (kn.perm (.cons _ (.cons _ (.swap _ _ _))))
end Go.AE
namespace Go.AE.Y
open Go.Proofs.Tryz
theorem Qa7f {R:Rdr}{k:Nat}{H:Heap}{K:V→Heap→Prop}(hR:H R.l=R.o k)(hk:k+7000000≤2^30)
  (hK:∀(l:List Fn) (H':Heap) (k':Nat),k<k'→k'≤k+7000000→Upd H H' [(R.l,R.o k')]→PrOk l→K (.ag [.sl false 3 (Q1 l)]) H') :
  Ql prog Q61 [.c (.ptr R.l 0)] H K:=by
 refine Q0 ?_;refine Qb Qai Qbje ?_;refine Qa ?_;simp only[go_sem];intro x2 hx2 H1 h1;have kn:=(Kn.start1 hR (R.o_ne k)).al hx2 h1;refine Qa ?_;simp only[go_sem];refine Qvd (ns:=[14,20,8,26]) (kn.e 0 rfl) (by omega) (by simp) fun v H2 hv hu=>?_;have kn:=kn.callE 0 rfl hu (R.o_ne _);simp only[go_sem,Qalh];intro gl hgl H3 h3;have kn:Kn H H3 [(R.l,R.o (k+1))] [(x2,.st [.sl true 3 []]),(gl,GS.o ⟨[],(.sl true 3 [],[]),[],true,0,v⟩ R)]:=kn.al hgl h3;have hv26:0≤v∧v≤26:=by simp at hv;omega
 simp only[go_sem,Qalg];have hne:R.l≠gl:=kn.ne 0 1 rfl rfl;refine Q4 ?_;refine Qa ?_;simp only[go_sem];refine Qvd (ns:=[0,1,1,2]) (kn.e 0 rfl) (by omega) (by simp) fun cnt H4 hcnt hu=>?_;have kn:=kn.callE 0 rfl hu (R.o_ne _);have hc2:0≤cnt∧cnt≤2:=by simp at hcnt;omega
 simp only[go_sem,Qali];obtain⟨M,hM⟩:∃M:Nat,M=2001301:=⟨_,rfl⟩;refine Qf (Qd (Qw (fun n e1 H1=>∃(j k4:Nat) (s:GS),n=cnt.toNat-j∧(j:Int)≤cnt∧s.fns.length=j∧k+2≤k4∧k4≤k+2+M * j∧s.ok k4∧(∀f∈s.fns,Qcn f.body)∧4 * k+Qt s.fns≤4 * k4∧
   Gr s.ffl.2 3 (Q1 s.fns) s.ffl.1∧Kn H H1 [(R.l,R.o k4)] ([(x2,.st [.sl true 3 []]),(gl,s.o R)]++s.ffl.2)∧
   e1=[(0,.c (.ptr R.l 0)),(2,.c (.ptr x2 0)),(3,.c (.ptr gl 0)),(4,.c (.int .i64 (cnt-j)))]) cnt.toNat ?_ ?_))
 ·refine⟨0,k+2,⟨[],(.sl true 3 [],[]),[],true,0,v⟩,by omega,by omega,rfl,by omega,by omega,⟨?_,?_,?_,?_,by simp,by simp,by simp⟩,by simp,by simp only[Qt];omega,.nil 3,kn,by simp⟩
  ·show -1≤(0:Int);omega
  ·show (0:Int)≤_;omega
  ·show _≤v;omega
  ·show v≤100;omega
 ·rintro n e1 H1 ⟨j,k4,s,hn,hj,hfl,hk4,hk4',hs,hfok,hsz,hgr,kn,rfl⟩;have hMj:M * j≤M * 2:=Jah _ (by omega);have hM1:M * (j+1)=M * j+M:=Jbh _ _;have hG1:=kn.l 1 rfl;have hfow:=hgr.isOw;have hflen:=hgr.lenC;rw[Qz]at hflen;refine Q4 ?_;refine Qa ?_;simp only[go_sem];refine Qf (Qc rfl ?_ ?_)
  ·intro hc;have hi:(j:Int)<cnt:=by simp at hc;omega
   refine Qe ?_;simp only[go_sem];refine Qf (Qd ?_);have hfok':=(hgr.okSl (B:=[_,_]) kn);have eg:List.getD [[C.str [102]],[C.str [103]],[C.str [104]]] s.fns.length []=[.str (List.getD [[102],[103],[104]] s.fns.length [])]:=Qbv [[102],[103],[104]] _ (by simp;omega);have hl3:s.fns.length<3:=by omega
   refine Qag ?_;simp only[go_sem,hG1,GS.o,hfow,hflen,eq_true hfok',eg,hl3];refine Qch (kn.e 0 rfl) (by omega) fun p H2 hp hu=>?_;have kn:Kn H H2 [(R.l,R.o (k4+1))] ([(x2,.st [.sl true 3 []]),(gl,s.o R)]++s.ffl.2):=kn.callE 0 rfl hu (R.o_ne _);rw[if_neg (by omega)]at hp;have hG2:=kn.l 1 rfl;have hfok2:=(hgr.okSl (B:=[_,_]) kn);simp only[go_sem,Qall,hG2,GS.o,hfow,hflen,eq_true hfok2,eg,hl3];have hF:FnsOk H2 R gl s:=⟨hgr,fun q hq=>by
    have h1:=kn.get q (Jg _ (Jg _ hq));refine⟨h1.1,fun hh=>?_,fun hh=>?_⟩
    ·exact kn.usedE 0 rfl (hh▸kn.loc q (Jg _ hq))
    ·have:=kn.dL;rw[Js]at this;exact (Jq.1 this).2.2 gl (by simp) q.1 (Qb1 hq) hh.symm⟩
   refine Qasu hp.1 (by omega) (kn.e 0 rfl) (kn.l 1 rfl) hne (hs.mono (Jbd k4)) hF (by omega) fun f s2 H5 k5 g1 g2 hu hs2 g3 g4 g5 g6 g7=>?_;have kn:=kn.callEL 0 1 rfl rfl hu (R.o_ne _) (GS.o_ne _ _);have kn:Kn H H5 [(R.l,R.o k5)] ([(x2,.st [.sl true 3 []]),(gl,s2.o R)]++s.ffl.2):=kn;simp only[go_sem,Qalk];intro x5 hx5 H6 h6;have kn:=kn.al hx5 h6;have kn:=kn.perm (L':=[(x2,_),(gl,_),(x5,_)]++s.ffl.2) (by
    simp only[Jj,Jm];exact .cons _ (.cons _ Jl))
   have hG6:=kn.l 1 rfl;have hx56:=kn.l 2 rfl;have hfok6:=(hgr.okSl (B:=[_,_,_]) kn);simp only[go_sem,Qalj,hG6,hx56,GS.o,g4,hfow,hflen,eq_true hfok6,eg,hl3,Fn.cells];intro H7 h7;have kn:Kn H H7 [(R.l,R.o k5)] ([(x2,_),(gl,_),(x5,_)]++s.ffl.2):=kn.stL 2 rfl h7;have hG7:=kn.l 1 rfl;have hx57:=kn.l 2 rfl;refine Qeb ?_;simp only[go_sem,hG7,hx57,GS.o,g4,hfow];refine kn.grow (B:=[_,_,_]) (new:=[f.cells]) hgr (.mk' _ _ _ _) (by simp[f.noOw]) (by simp only[Qz,LIM,Jp,J6];omega) fun z H8 kn=>?_;have hG8:=kn.l 1 rfl;simp only[go_sem,Qalm,hG8,GS.o];intro H9 h9;have kn:=kn.stL 1 rfl h9;obtain⟨s9,hs9⟩:∃s9:GS,s9=GS.mk (s.fns++[f]) (C.vsl z 3 0 ((Q1 s.fns).length+1),[(z,Obj.vec 3 (Q1 s.fns++[f.cells]))]) s2.vars s2.vfl s2.next s2.left:=⟨_,rfl⟩;have ho9:s9.o R=.st [C.ptr R.l 0,C.vsl z 3 0 ((Q1 s.fns).length+1),C.sl s2.vfl 1 (Qab s2.vars),C.int IntKind.i64 s2.next,C.int IntKind.i64 s2.left]:=by rw[hs9];rfl
   rw[←ho9]at kn;have kn:Kn H H9 [(R.l,R.o k5)] [(x2,_),(gl,s9.o R),(x5,_),(z,_)]:=kn;have kn:=kn.perm4;refine Qq ?_;simp only[go_sem,X.next];have hkb:k5≤k+2+M * (j+1):=by rw[hM1];omega
   refine⟨Qo (by omega) (by omega),cnt.toNat-(j+1),by omega,j+1,k5,s9,rfl,by omega,by simp[hs9,hfl],by omega,hkb,?_,?_,?_,?_,by rw[hs9]at kn⊢;exact kn,?_⟩
   ·subst hs9;refine⟨hs2.n0,hs2.n1,hs2.l0,hs2.l1,hs2.v,fun f' hf'=>?_,by simp;omega⟩;rcases Je.1 hf' with h|h
    ·exact hs.f f' h
    ·simp at h;subst h;exact g5
   ·subst hs9;intro f' hf';rcases Je.1 hf' with h|h
    ·exact hfok f' h
    ·simp at h;subst h;exact g6
   ·subst hs9;simp only[Qm1,Qt];omega
   ·subst hs9;show Gr [(z,Obj.vec 3 (Q1 s.fns++[f.cells]))] 3 (Q1 (s.fns++[f])) _;rw[Q89];exact .mk _ _ _ (by simp[Qz])
   ·have:cnt-((j+1:Nat):Int)=cnt-j-1:=(by omega);rw[this]
  ·intro hc;refine Qv ?_;simp only[go_sem,X.next];have hkE:k4≤k+4002604:=by omega
   refine Qa ?_;simp only[go_sem];refine Qvd (ns:=[0,1,2,1]) (kn.e 0 rfl) (by omega) (by simp) fun p H2 hp hu=>?_;have kn:Kn H H2 [(R.l,R.o (k4+1))] ([(x2,.st [.sl true 3 []]),(gl,s.o R)]++s.ffl.2):=kn.callE 0 rfl hu (R.o_ne _);have hp2:0≤p∧p≤3:=by simp at hp;omega
   simp only[go_sem,Qac6];have hF:FnsOk H2 R gl s:=⟨hgr,fun q hq=>by
    have h1:=kn.get q (Jg _ (Jg _ hq));refine⟨h1.1,fun hh=>?_,fun hh=>?_⟩
    ·exact kn.usedE 0 rfl (hh▸kn.loc q (Jg _ hq))
    ·have:=kn.dL;rw[Js]at this;exact (Jq.1 this).2.2 gl (by simp) q.1 (Qb1 hq) hh.symm⟩
   refine Qasu hp2.1 hp2.2 (kn.e 0 rfl) (kn.l 1 rfl) hne (hs.mono (Jbd k4)) hF (by omega) fun f s2 H5 k5 g1 g2 hu hs2 g3 g4 g5 g6 g7=>?_;have kn:=kn.callEL 0 1 rfl rfl hu (R.o_ne _) (GS.o_ne _ _);have kn:Kn H H5 [(R.l,R.o k5)] ([(x2,.st [.sl true 3 []]),(gl,s2.o R)]++s.ffl.2):=kn;simp only[go_sem,Qac5];intro x6 hx6 H6 h6;have kn:=kn.al hx6 h6;have kn:=kn.perm (L':=[(x2,_),(gl,_),(x6,_)]++s.ffl.2) (by
    simp only[Jj,Jm];exact .cons _ (.cons _ Jl))
   have hx66:=kn.l 2 rfl;simp only[go_sem,Qac4,hx66,Fn.cells];intro H7 h7;have kn:Kn H H7 [(R.l,R.o k5)] ([(x2,_),(gl,_),(x6,_)]++s.ffl.2):=kn.stL 2 rfl h7;have hG7:=kn.l 1 rfl;have hx67:=kn.l 2 rfl;have hfok7:=hgr.okSl (B:=[_,_,_]) kn;have hrows7:=hgr.rowsOf (B:=[_,_,_]) kn;have hesz:=hgr.elemSz;have hL:s.fns.length≤LIM:=by simp only[LIM];omega
   refine Qag ?_;simp only[go_sem,hG7,hx67,GS.o,g4,hfow,hflen,eq_true hfok7,hrows7,hesz,hL,Jv];refine⟨.inl trivial,Qd5 _,fun y hy H8 h8=>?_⟩;have kn:=kn.al hy h8;have kn:=kn.perm (L':=([(x2,_),(gl,_),(x6,_)]++[(y,_)])++s.ffl.2) Qbpm;have kn:=kn.drop;have hx68:=kn.l 2 rfl;have kn:Kn H H8 [(R.l,R.o k5)] [(x2,_),(gl,_),(x6,_),(y,_)]:=kn;have hy8:=kn.l 3 rfl;have etk:List.take s.fns.length (Q1 s.fns)=Q1 s.fns:=Jd (by rw[Qz];omega);simp only[go_sem,Qac9,hx68,hy8,Qz,etk];refine⟨by omega,by simp only[LIM];omega,fun z hz H9 h9=>?_⟩;have kn:Kn H H9 [(R.l,R.o k5)] [(x2,_),(gl,_),(x6,_),(z,.vec 3 (Q1 s.fns++[f.cells]))]:=kn.ap 3 rfl hz h9;simp only[go_sem,Qac8];intro x7 hx7 H10 h10;have kn:=kn.al hx7 h10;have hG10:=kn.l 1 rfl;have hx6a:=kn.l 2 rfl;have hx7a:=kn.l 4 rfl;have kn:Kn H H10 [(R.l,R.o k5)] [(x2,_),(gl,_),(x6,_),(z,_),(x7,_)]:=kn;simp only[go_sem,Qac7,hG10,hx6a,hx7a,GS.o,g4,hfow];intro H11 h11;have kn:=kn.stL 4 rfl h11;have kn:Kn H H11 [(R.l,R.o k5)] ([(x2,.st [.sl true 3 []]),(x7,.st [.vsl z 3 0 (s.fns.length+1)])]++[(z,.vec 3 (Q1 s.fns++[f.cells]))]):=
    (kn.perm (L':=([(x2,_),(x7,_)]++[(z,_)])++[(gl,_),(x6,_)]) (by
     simp only[List.set,Jj,Jm];refine .cons _ ?_;refine .trans (.cons _ (.cons _ (.swap _ _ _))) ?_;refine .trans (.cons _ (.swap _ _ _)) ?_;refine .trans (.swap _ _ _) ?_;refine .cons _ ?_;refine .trans (.cons _ (.swap _ _ _)) ?_;exact .swap _ _ _)).drop
   have hz11:=kn.l 2 rfl;have hx711:=kn.l 1 rfl;obtain⟨hfz,kn⟩:=kn.freeze 1 rfl (og':=.st [.sl false 3 (Q1 (s.fns++[f]))]) (FrzKL.st (.cons rfl (by
    rw[←Q89];exact Qaub (by simp) hz11 (by simp[Qz]) (Q7i (noOw_app (Qd5 _) (by simp[f.noOw])))) .nil)) (by simp)
   refine Q4 ?_;refine c_gh (Qhc _ (fun t=>?_) hfz) (e':=[(2,V.c (C.ptr x2 0)),(7,V.c (C.ptr x7 0))]) ?_
   ·simp only[lk];split
    ·exact .c _ _ (.same _ rfl)
    ·split
     ·exact .c _ _ (.same _ rfl)
     ·exact .unk _
   generalize ((H11.frz fun m=>m == z).set x7 (Obj.st [C.sl false 3 (Q1 (s.fns++[f]))]))=H12 at *;have hx7b:=kn.l 1 rfl;have hx2b:=kn.l 0 rfl;have hpr:Qt (s.fns++[f])≤2^34:=by rw[Qm1];simp only[Qt];omega
   refine Qa ?_;simp only[go_sem,hx7b];refine Qaoa (by omega) fun b=>?_;simp only[go_sem,Qada];refine Qf (Qc rfl ?_ ?_)
   ·intro hc;refine Qa ?_;simp only[go_sem,hx2b];intro H13 h13;have kn:=kn.stL 0 rfl h13;have hx2c:=kn.l 0 rfl;refine Qi ?_;simp only[go_sem,Qs,Q6,Qa74,Ja,forall_eq,RS.op,hx2c];refine⟨.ag [.sl false 3 (Q1 [Fn.mk [109] [] [St.mk 3 [] [Ex.mk 1 1 [] []] [] []]])],FrzL.ag ?_,hK _ _ k5 (by omega) (by omega) kn.fin ⟨by simp,by simp,?_,?_,by simp⟩⟩
    ·simp only[Q1,J5,Jaq,Fn.cells,Qbcf,Qm,St.cells,Qy,Ex.cells]
     repeat' first|exact FrzL.nil|exact FrzR.nil|exact Qg rfl|exact FrzL.same (Ex.noOw _)|exact FrzL.same (St.noOw _)|refine FrzL.cons ?_ ?_|refine FrzR.cons ?_ ?_|refine FrzR.sl ?_
    ·intro f hf;simp at hf;subst hf;simp[Qcn,St.ok,Qcx,Ex.ok]
    ·simp[Qt,Qh,St.size,Qp,Ex.size]
   ·intro hc;refine Qe ?_;simp only[go_sem];refine Qa ?_;simp only[go_sem,hx2b,hx7b];intro H13 h13;have kn:=kn.stL 0 rfl h13;have hx2c:=kn.l 0 rfl;refine Qi ?_;simp only[go_sem,Qs,Q6,Qa74,Ja,forall_eq,RS.op,hx2c];refine⟨.ag [.sl false 3 (Q1 (s.fns++[f]))],FrzL.ag (.cons (Qg rfl) .nil),hK _ _ k5 (by omega) (by omega) kn.fin ⟨by simp,?_,?_,hpr,by simp;omega⟩⟩
    ·intro f' hf';rcases Je.1 hf' with h|h
     ·exact hs.f f' h
     ·simp at h;subst h;exact g5
    ·intro f' hf';rcases Je.1 hf' with h|h
     ·exact hfok f' h
     ·simp at h;subst h;exact g6
end Go.AE.Y
namespace Go.AE.Y
structure Blk where
 ic:C
 irows:List (List C)
 lg:List (Nat×Obj)
 jump:Int
 on:Int
 nfl:Bool
 next:List Int
def Blk.row (b:Blk):List C:=[.sl true 2 [],b.ic,.int .i64 b.jump,.int .i64 b.on,.sl b.nfl 1 (Qk b.next)]
structure LS where
 fns:List Fn
 pfl:Bool
 params:Int
 regs:Int
 bc:C
 lb:List (Nat×Obj)
 blocks:List Blk
 at_:Nat
 vc:C
 lv:List (Nat×Obj)
 vars:List (List C)
 next:Int
def LS.o (s:LS):Obj:=.st [.sl s.pfl 3 (Q1 s.fns),.int .i64 s.params,.int .i64 s.regs,s.bc,.int .i64 s.at_,s.vc,.int .i64 s.next,.sl true 1 []]
def LS.L (s:LS)(w:Nat):List (Nat×Obj):=[(w,s.o)]++(s.lb++(s.lv++s.blocks.flatMap Blk.lg))
def InsRow (r:List C):Prop:=∃(op to n:Int) (fl:Bool) (args:List Int),r=[.int .i64 op,.int .i64 to,.sl fl 1 (Qk args),.int .i64 n]
def VarRow (r:List C):Prop:=∃(s:List UInt8) (a b:Int),r=[.str s,.int .i64 a,.int .i64 b]
def VGr (lv:List (Nat×Obj))(vars:List (List C))(c:C):Prop:=
 (c=.sl true 3 []∧vars=[]∧lv=[])∨∃y all n,c=.vsl y 3 0 n∧n≤all.length∧vars=all.take n∧lv=[(y,.vec 3 all)]
structure LInv (F H:Heap)(w:Nat)(s:LS):Prop where
 kn:Kn F H [] (s.L w)
 gb:Gr s.lb 5 (s.blocks.map Blk.row) s.bc
 gv:VGr s.lv s.vars s.vc
 gi:∀b∈s.blocks,Gr b.lg 4 b.irows b.ic
 ri:∀b∈s.blocks,∀r∈b.irows,InsRow r
 rv:∀r∈s.vars,VarRow r
structure LS.ok (s:LS)(N:Nat):Prop where
 r0:0≤s.regs
 r1:s.regs≤N
 n0:0≤s.next
 n1:s.next≤N
 b1:s.blocks.length≤N
 i1:∀b∈s.blocks,b.irows.length≤N
 v1:s.vars.length≤N
theorem LS.ok.mono {s:LS}{N M:Nat}(h:s.ok N)(hm:N≤M):s.ok M:=
 ⟨h.r0,by have:=h.r1;omega,h.n0,by have:=h.n1;omega,by have:=h.b1;omega,fun b hb=>by have:=h.i1 b hb;omega,by have:=h.v1;omega⟩
theorem InsRow.noOw {r:List C}(h:InsRow r):Go.AE.noOw r=true:=by obtain⟨_,_,_,_,_,rfl⟩:=h;rfl
theorem VarRow.noOw {r:List C}(h:VarRow r):Go.AE.noOw r=true:=by obtain⟨_,_,_,rfl⟩:=h;rfl
theorem VGr.isOw {lv:List (Nat×Obj)}{vars:List (List C)}{c:C}(h:VGr lv vars c):c.isOw=false:=by
 rcases h with ⟨rfl,_⟩|⟨_,_,_,rfl,_⟩ <;> rfl
theorem VGr.elemSz {lv:List (Nat×Obj)}{vars:List (List C)}{c:C}(h:VGr lv vars c):c.elemSz=3:=by
 rcases h with ⟨rfl,_⟩|⟨_,_,_,rfl,_⟩ <;> rfl
theorem VGr.lenC {lv:List (Nat×Obj)}{vars:List (List C)}{c:C}(h:VGr lv vars c):Go.AE.lenC c=vars.length:=by
 rcases h with ⟨rfl,rfl,_⟩|⟨_,_,_,rfl,h,rfl,_⟩
 ·rfl
 ·simp[Go.AE.lenC];omega
variable {F H H':Heap}{w:Nat}{s:LS}
theorem LInv.hw (h:LInv F H w s):H w=s.o:=h.kn.l 0 rfl
theorem LInv.vget (h:LInv F H w s):okSl H s.vc=True∧rowsOf H s.vc=s.vars:=by
 rcases h.gv with ⟨h1,h2,_⟩|⟨y,all,n,h1,h2,h3,h4⟩
 ·rw[h1,h2];exact⟨rfl,rfl⟩
 ·have hy:H y=.vec 3 all:=(h.kn.get (y,.vec 3 all) (by simp[LS.L,h4])).1;rw[h1];refine⟨eq_true ?_,?_⟩
  ·simp only[Go.AE.okSl,hy];exact⟨trivial,by omega⟩
  ·simp only[Go.AE.rowsOf,hy,Jat,h3]
theorem LInv.bvec (h:LInv F H w s)(hb:0<s.blocks.length):∃y,s.bc=.vsl y 5 0 s.blocks.length∧s.lb=[(y,.vec 5 (s.blocks.map Blk.row))]∧H y=.vec 5 (s.blocks.map Blk.row):=by
 rcases h.gb with ⟨_,h2,_⟩|⟨y,h1,h2⟩
 ·simp at h2;rw[h2]at hb;simp at hb
 ·refine⟨y,by rw[h1];simp,h2,?_⟩;exact (h.kn.get (y,.vec 5 (s.blocks.map Blk.row)) (by simp[LS.L,h2])).1
theorem LInv.setw {s':LS}(h:LInv F H w s)(h1:H'=H.set w s'.o)(a1:s'.lb=s.lb)(a2:s'.lv=s.lv)(a3:s'.blocks=s.blocks)(a4:s'.bc=s.bc)(a5:VGr s.lv s'.vars s'.vc)(a6:∀r∈s'.vars,VarRow r):LInv F H' w s':=by
 refine⟨?_,by rw[a1,a3,a4];exact h.gb,by rw[a2];exact a5,by rw[a3];exact h.gi,by rw[a3];exact h.ri,a6⟩;have:=h.kn.stL 0 (x:=w) (o:=s.o) rfl h1 (by simp[LS.o]);simp only[LS.L,a1,a2,a3];exact this
theorem Qbjq {α:Type}{A X Y:List α}:(A++(X++Y)).Perm ((A++Y)++X):=by
 rw[Jo];exact .append_left _ Jl
theorem LInv.addBlk {K:V→Heap→Prop}{fl:Bool}{b:Blk}(h:LInv F H w s)(hl:s.blocks.length+1≤LIM)(b1:b.lg=[])(b2:b.ic=.sl true 4 [])(b3:b.irows=[])
  (hK:∀(y:Nat) (H1:Heap),H1 w=s.o→(∀H2,H2=H1.set w (LS.o { s with bc:=.vsl y 5 0 (s.blocks.length+1) })→
   LInv F H2 w { s with bc:=.vsl y 5 0 (s.blocks.length+1),lb:=[(y,.vec 5 ((s.blocks++[b]).map Blk.row))],blocks:=s.blocks++[b] })→K (.c (.vsl y 5 0 (s.blocks.length+1))) H1) :
  appQ H 5 s.bc (.sl fl 5 [b.row]) K:=by
 have kn:=h.kn;have kn:Kn F H [] (([(w,s.o)]++(s.lv++s.blocks.flatMap Blk.lg))++s.lb):=kn.perm Qbjq;refine kn.grow h.gb (.mk' _ _ _ _) (by
  intro r hr;simp only[Ja]at hr;subst hr;simp only[Blk.row,b2];rfl) (by simpa using hl) fun y H1 kn=>?_
 have e1:(s.blocks.map Blk.row).length+[b.row].length=s.blocks.length+1:=by simp
 rw[e1];refine hK y H1 (kn.l 0 rfl) fun H2 h2=>⟨?_,?_,h.gv,?_,?_,h.rv⟩
 ·have:=kn.stL 0 (x:=w) (o:=s.o) rfl h2 (by simp[LS.o]);simp only[LS.L,Jau,Ja0,List.flatMap_nil,b1,J1,Js,J5,Jaq];simp only[Jj,Jm,Jay]at this⊢;refine this.perm (.cons _ ?_);exact Jl
 ·exact .mk _ _ _ (by simp)
 ·intro b' hb';rcases Je.1 hb' with hb'|hb'
  ·exact h.gi b' hb'
  ·simp at hb';subst hb';rw[b1,b2,b3];exact .nil 4
 ·intro b' hb';rcases Je.1 hb' with hb'|hb'
  ·exact h.ri b' hb'
  ·simp at hb';subst hb';rw[b3];simp
theorem Qag6 {α β:Type}(f:α→List β)(l:List α)(i:Nat)(hi:i<l.length):(l.flatMap f).Perm (f l[i]++(l.eraseIdx i).flatMap f):=by
 have h1:(l[i]::l.eraseIdx i).Perm l:=by
  rw[List.eraseIdx_eq_take_drop_succ];refine List.perm_middle.symm.trans ?_;rw[←List.drop_eq_getElem_cons hi,J0]
 have h2:=h1.symm.flatMap_right f;simpa using h2
theorem Qagd {α β:Type}(f:α→List β)(l:List α)(i:Nat)(x:α)(hi:i<l.length):((l.set i x).flatMap f).Perm (f x++(l.eraseIdx i).flatMap f):=by
 have:=Qag6 f (l.set i x) i (by simpa using hi);simpa[List.eraseIdx_set_eq]using this
theorem Qp9 (l:List Blk)(i:Nat)(b:Blk):(l.map Blk.row).set i b.row=(l.set i b).map Blk.row:=by rw[Ja2]
theorem Qbu {l:List Blk}{i:Nat}{b x:Blk}(h:x∈l.set i b):x=b∨x∈l:=by
 rcases Qb3 h with h|⟨j,_,h⟩
 ·exact .inl h
 ·exact .inr (Jr h)
theorem LInv.setBlk {b':Blk}{y i:Nat}(h:LInv F H w s)(hi:i<s.blocks.length)(hbc:s.bc=.vsl y 5 0 s.blocks.length)(hlb:s.lb=[(y,.vec 5 (s.blocks.map Blk.row))])
  (h1:H'=H.set y (.vec 5 ((s.blocks.set i b').map Blk.row))) (a1:b'.lg=s.blocks[i].lg) (a2:b'.ic=s.blocks[i].ic) (a3:b'.irows=s.blocks[i].irows) :
  LInv F H' w { s with lb:=[(y,.vec 5 ((s.blocks.set i b').map Blk.row))],blocks:=s.blocks.set i b' }:=by
 have hm:=Jc hi;refine⟨?_,?_,h.gv,fun b hb=>?_,fun b hb=>?_,h.rv⟩
 ·have kn:=h.kn;simp only[LS.L,hlb]at kn;have kn:=kn.stL 1 (x:=y) rfl h1;refine kn.perm ?_;simp only[LS.L,Jj,Jm,Jay,List.set_cons_succ];refine .cons _ (.cons _ (.append_left _ ?_));refine (Qag6 Blk.lg s.blocks i hi).trans ?_;rw[←a1];exact (Qagd Blk.lg s.blocks i b' hi).symm
 ·simp only[hbc];exact .mk _ _ _ (by simp)
 ·rcases Qbu hb with rfl|hb
  ·rw[a1,a2,a3];exact h.gi _ hm
  ·exact h.gi b hb
 ·rcases Qbu hb with rfl|hb
  ·rw[a3];exact h.ri _ hm
  ·exact h.ri b hb
theorem LInv.addVar {K:V→Heap→Prop}{fl:Bool}{r:List C}(h:LInv F H w s)(hr:VarRow r)(hl:s.vars.length+1≤LIM)
  (hK:∀(y:Nat) (H1:Heap),H1 w=s.o→(∀H2,H2=H1.set w (LS.o { s with vc:=.vsl y 3 0 (s.vars.length+1) })→
   LInv F H2 w { s with vc:=.vsl y 3 0 (s.vars.length+1),lv:=[(y,.vec 3 (s.vars++[r]))],vars:=s.vars++[r] })→K (.c (.vsl y 3 0 (s.vars.length+1))) H1) :
  appQ H 3 s.vc (.sl fl 3 [r]) K:=by
 have hrv:∀r'∈s.vars++[r],VarRow r':=fun r' hr'=>by
  rcases Je.1 hr' with h1|h1
  ·exact h.rv r' h1
  ·simp at h1;subst h1;exact hr
 have kn:=h.kn;have kn:Kn F H [] (([(w,s.o)]++(s.lb++s.blocks.flatMap Blk.lg))++s.lv):=kn.perm (by
  simp only[LS.L];refine List.Perm.trans (.append_left _ (.append_left _ Jl)) ?_;simp only[Jo];exact .refl _)
 have fin:∀(y:Nat) (H1:Heap),Kn F H1 [] (([(w,s.o)]++(s.lb++s.blocks.flatMap Blk.lg))++[(y,.vec 3 (s.vars++[r]))])→K (.c (.vsl y 3 0 (s.vars.length+1))) H1:=by
  intro y H1 kn;refine hK y H1 (kn.l 0 rfl) fun H2 h2=>⟨?_,h.gb,.inr ⟨y,s.vars++[r],s.vars.length+1,rfl,by simp,by rw[Jd (by simp)],rfl⟩,h.gi,h.ri,hrv⟩;have kn:=kn.stL 0 (x:=w) (o:=s.o) rfl h2 (by simp[LS.o]);refine kn.perm ?_;simp only[LS.L,List.set,Jj,Jm,Jo];refine .cons _ (.append_left _ ?_);exact Jl
 refine⟨trivial,rfl,?_⟩;rcases h.gv with ⟨h1,h2,h3⟩|⟨y,all,n,h1,h2,h3,h4⟩
 ·rw[h1];rw[h3,J1]at kn;simp only[rowsOf,Go.AE.lenC,Jm,J6,Jv,Jad];refine⟨trivial,.inl trivial,by intro r' hr';simp only[Ja]at hr';subst hr';exact hr.noOw,by simp only[LIM];omega,fun l hl H' hH'=>?_⟩;have:=fin l H' (by rw[h2];simpa using kn.al hl hH');rw[h2]at this;exact this
 ·rw[h4]at kn;have hy:H y=.vec 3 all:=(kn.get (y,.vec 3 all) (by simp)).1;have hn:s.vars.length=n:=by rw[h3];simp;omega
  rw[h1];simp only[hy,rowsOf,Go.AE.lenC,Jat,Jad];refine⟨trivial,trivial,by omega,by intro r' hr';simp only[Ja]at hr';subst hr';exact hr.noOw,by omega,fun l' hl' H' hH'=>?_⟩;rw[←hn]at hH'⊢;rw[hn,←h3]at hH';refine fin l' H' ?_;have:=kn.ap ([(w,s.o)]++(s.lb++s.blocks.flatMap Blk.lg)).length (y:=y) (o:=.vec 3 all) (by simp) hl' hH';simpa using this
end Go.AE.Y
namespace Go.AE.Y
open Go.Proofs.Tryz
variable {F H:Heap}{w:Nat}{s:LS}{K:V→Heap→Prop}
structure LStep (s s':LS)(d:Nat):Prop where
 bl:s.blocks.length≤s'.blocks.length
 ok:∀N,s.ok N→s'.ok (N+d)
 vl:s.vars.length≤s'.vars.length
 at_:s.at_<s.blocks.length→s'.at_<s'.blocks.length
 fn:s'.fns=s.fns∧s'.pfl=s.pfl∧s'.params=s.params
theorem LStep.trans {s s' s'':LS}{d e:Nat}(h:LStep s s' d)(k:LStep s' s'' e):LStep s s'' (d+e):=
 ⟨Jar h.bl k.bl,fun N hN=>by rw[←Nat.add_assoc];exact k.ok _ (h.ok N hN),Jar h.vl k.vl,fun ha=>k.at_ (h.at_ ha),k.fn.1.trans h.fn.1,k.fn.2.1.trans h.fn.2.1,k.fn.2.2.trans h.fn.2.2⟩
theorem LStep.refl (s:LS):LStep s s 0:=⟨Jk _,fun N h=>h,Jk _,fun h=>h,rfl,rfl,rfl⟩
theorem LStep.mono {s s':LS}{d e:Nat}(h:LStep s s' d)(hd:d≤e):LStep s s' e:=⟨h.bl,fun N hN=>(h.ok N hN).mono (by omega),h.vl,h.at_,h.fn⟩
end Go.AE.Y
namespace Go.AE
variable {H0 H H' F:Heap}{E L B A:List (Nat×Obj)}
theorem Kn.toFrame {y:Nat}{o:Obj}(kn:Kn F H [] (L++[(y,o)])):Kn (F.set y o) H [] L:=by
 have hnd:=kn.dL;rw[Js]at hnd;have hne:∀p∈L,p.1≠y:=fun p hp hh=>(Jq.1 hnd).2.2 _ (Qb1 hp) y (by simp) hh;refine⟨fun p hp=>kn.get p (by simp only[Jm]at hp⊢;exact Jh _ hp),by simp,fun p hp=>?_,by simp,(Jq.1 hnd).1,fun m hm _=>?_⟩
 ·rw[Heap.set_other _ _ (hne p hp)];exact kn.loc p (Jh _ hp)
 ·by_cases h:m=y
  ·subst h;rw[Heap.set_same];exact (kn.get (m,o) (by simp)).1
  ·rw[Heap.set_other _ _ h]at hm⊢;exact kn.chg m hm (by simp)
theorem Kn.ofFrame {y:Nat}{o:Obj}(kn:Kn (F.set y o) H [] L)(hF:F y=.none)(ho:o≠.none):Kn F H [] (L++[(y,o)]):=by
 have hy:H y=o:=by have:=kn.chg y (by rw[Heap.set_same];exact ho) (by simp);rw[this,Heap.set_same]
 have hne:∀p∈L,p.1≠y:=fun p hp hh=>by have:=kn.loc p hp;rw[hh,Heap.set_same]at this;exact ho this
 refine⟨fun p hp=>?_,by simp,fun p hp=>?_,by simp,?_,fun m hm _=>?_⟩
 ·simp only[Jm]at hp;rcases Je.1 hp with hp|hp
  ·exact kn.get p (by simpa using hp)
  ·simp at hp;subst hp;exact⟨hy,ho⟩
 ·rcases Je.1 hp with hp|hp
  ·have:=kn.loc p hp;rw[Heap.set_other _ _ (hne p hp)]at this;exact this
  ·simp at hp;subst hp;exact hF
 ·rw[Js];refine Jq.2 ⟨kn.dL,by simp,fun a ha b hb=>?_⟩;simp at hb;subst hb;obtain⟨p,hp,rfl⟩:=Jw.1 ha;exact hne p hp
 ·have hmy:m≠y:=fun h=>by subst h;exact hm hF
  have:=kn.chg m (by rw[Heap.set_other _ _ hmy];exact hm) (by simp);rw[this,Heap.set_other _ _ hmy]
theorem Kn.frz1 {z:Nat}{o:Obj}(kn:Kn H0 H E (B++[(z,o)])):Kn H0 (H.frz fun m=>m == z) E B:=by
 have hzf:H0 z=.none:=kn.loc (z,o) (by simp);have hnd:=kn.dL;rw[Js]at hnd;have hne:∀p∈B,p.1≠z:=fun p hp hh=>(Jq.1 hnd).2.2 _ (Qb1 hp) z (by simp) hh;have hneE:∀p∈E,p.1≠z:=fun p hp hh=>kn.ext p hp (hh▸hzf);refine⟨fun p hp=>?_,kn.ext,fun p hp=>kn.loc p (Jh _ hp),kn.dE,(Jq.1 hnd).1,fun m hm hx=>?_⟩
 ·have:p.1≠z:=by
   rcases Je.1 hp with h|h
   ·exact hneE p h
   ·exact hne p h
  have h2:(H.frz fun m=>m == z) p.1=H p.1:=by simp[Heap.frz,this]
  rw[h2];refine kn.get p ?_;rcases Je.1 hp with h|h
  ·exact Jh _ h
  ·exact Jg _ (Jh _ h)
 ·have:m≠z:=fun h=>hm (h▸hzf);have h2:(H.frz fun m=>m == z) m=H m:=by simp[Heap.frz,this]
  rw[h2];exact kn.chg m hm hx
theorem Gr.freeze {Lg:List (Nat×Obj)}{sz:Nat}{rows:List (List C)}{c:C}(h:Gr Lg sz rows c)(kn:Kn H0 H E (B++Lg))(hr:∀r∈rows,noOw r=true) :
  ∃S H2,FrzC H S c (.sl false sz rows)∧FrzH H S H2∧Kn H0 H2 E B:=by
 rcases h with ⟨rfl,rfl,rfl⟩|⟨y,rfl,rfl⟩
 ·refine⟨fun _=>false,H,Y.FrzR.nil.sl,fun m=>.inr ⟨rfl,.same _⟩,by simpa using kn⟩
 ·exact⟨fun m=>m == y,_,(Y.FrzR.same hr).vsl (by simp) (kn.get (y,.vec sz rows) (by simp)).1 rfl,Q0e _ _,kn.frz1⟩
end Go.AE
namespace Go.AE.Y
variable {F H H':Heap}{w:Nat}{s:LS}{Lg:List (Nat×Obj)}{sz:Nat}{rows:List (List C)}{c:C}
theorem LInv.re {H2:Heap}(h:LInv F H w s)(kn:Kn F H2 [] (s.L w)):LInv F H2 w s:=⟨kn,h.gb,h.gv,h.gi,h.ri,h.rv⟩
theorem LInv.beside (h:LInv F H w s)(kn:Kn F H [] (s.L w++Lg))(hg:Gr Lg sz rows c) :
  ∃F',LInv F' H w s∧∀(s':LS) (H':Heap),LInv F' H' w s'→LInv F H' w s'∧Kn F H' [] (s'.L w++Lg):=by
 rcases hg with ⟨_,_,rfl⟩|⟨y,_,rfl⟩
 ·exact⟨F,h,fun s' H' h'=>⟨h',by simpa using h'.kn⟩⟩
 ·refine⟨F.set y (.vec sz rows),⟨kn.toFrame,h.gb,h.gv,h.gi,h.ri,h.rv⟩,fun s' H' h'=>?_⟩;have k2:=h'.kn.ofFrame (kn.loc (y,.vec sz rows) (by simp)) (by simp);exact⟨⟨k2.drop,h'.gb,h'.gv,h'.gi,h'.ri,h'.rv⟩,k2⟩
end Go.AE.Y
namespace Go.AE.Y
structure InsD where
 op:Int
 to:Int
 args:List Int
 n:Int
def InsD.cells (x:InsD):List C:=[.int .i64 x.op,.int .i64 x.to,.sl false 1 (Qk x.args),.int .i64 x.n]
structure PhiD where
 to:Int
 args:List Int
def PhiD.cells (x:PhiD):List C:=[.int .i64 x.to,.sl false 1 (Qk x.args)]
def Qmq (l:List InsD):List (List C):=l.map InsD.cells
def Qgk (l:List PhiD):List (List C):=l.map PhiD.cells
structure BlkD where
 phis:List PhiD
 ins:List InsD
 jump:Int
 on:Int
 next:List Int
def BlkD.cells (x:BlkD):List C:=[.sl false 2 (Qgk x.phis),.sl false 4 (Qmq x.ins),.int .i64 x.jump,.int .i64 x.on,.sl false 1 (Qk x.next)]
def Qaq (l:List BlkD):List (List C):=l.map BlkD.cells
structure CodeD where
 params:Int
 regs:Int
 blocks:List BlkD
def CodeD.cells (x:CodeD):List C:=[.int .i64 x.params,.int .i64 x.regs,.sl false 5 (Qaq x.blocks)]
def Q2 (l:List CodeD):List (List C):=l.map CodeD.cells
theorem Qc9 (l:List InsD):(Qmq l).length=l.length:=by simp[Qmq]
theorem Qct (l:List PhiD):(Qgk l).length=l.length:=by simp[Qgk]
theorem Qam (l:List BlkD):(Qaq l).length=l.length:=by simp[Qaq]
theorem Qaj (l:List CodeD):(Q2 l).length=l.length:=by simp[Q2]
theorem Qoe (l:List InsD)(i:Nat)(h:i<l.length):(Qmq l).getD i []=(l[i]'h).cells:=by simp[Qmq,Jb,h]
theorem Qlv (l:List PhiD)(i:Nat)(h:i<l.length):(Qgk l).getD i []=(l[i]'h).cells:=by simp[Qgk,Jb,h]
theorem Qdm (l:List BlkD)(i:Nat)(h:i<l.length):(Qaq l).getD i []=(l[i]'h).cells:=by simp[Qaq,Jb,h]
theorem Qbh (l:List CodeD)(i:Nat)(h:i<l.length):(Q2 l).getD i []=(l[i]'h).cells:=by simp[Q2,Jb,h]
theorem Qa8y (l:List InsD):∀r∈Qmq l,noOw r=true:=by intro r hr;obtain⟨x,_,rfl⟩:=Jw.1 hr;rfl
theorem Qagu (l:List BlkD):∀r∈Qaq l,noOw r=true:=by intro r hr;obtain⟨x,_,rfl⟩:=Jw.1 hr;rfl
theorem Qmt (l:List CodeD):∀r∈Q2 l,noOw r=true:=by intro r hr;obtain⟨x,_,rfl⟩:=Jw.1 hr;rfl
theorem Qab4 (a:List CodeD)(x:CodeD):Q2 a++[x.cells]=Q2 (a++[x]):=by simp[Q2]
variable {H:Heap}{S:Nat→Bool}
theorem Gr.frzM {Lg:List (Nat×Obj)}{sz:Nat}{rows rows':List (List C)}{c:C}(h:Gr Lg sz rows c)(hm:∀p∈Lg,H p.1=p.2∧S p.1=true)(hr:FrzR H S rows rows'):FrzC H S c (.sl false sz rows'):=by
 rcases h with ⟨rfl,rfl,rfl⟩|⟨y,rfl,rfl⟩
 ·cases hr;exact FrzR.nil.sl
 ·obtain⟨h1,h2⟩:=hm (y,.vec sz rows) (by simp);exact hr.vsl h2 h1 rfl
theorem InsRow.frz {r:List C}(h:InsRow r):∃d:InsD,FrzL H S r d.cells:=by
 obtain⟨op,to,n,fl,args,rfl⟩:=h;exact⟨⟨op,to,args,n⟩,.cons (Qg rfl) (.cons (Qg rfl) (.cons (FrzR.same (Qal _)).sl (.cons (Qg rfl) .nil)))⟩
def CodeD.fits (c:CodeD):Prop:=∀b∈c.blocks,b.ins.length≤2^38∧b.phis.length≤2^38
end Go.AE.Y
namespace Go.AE.Y
def keysL:List (List UInt8):=[[102,110],[108,101,116],[115,97,121],[112,117,116],[105,102],[101,108,115,101],[108,111,111,112],[98,97,99,107],[100,111]]
def Qc1 (b:UInt8):Bool:=decide (97≤b.toNat∧b.toNat≤122)
def Qdb (s:List UInt8):Bool:=decide (1≤s.length∧s.length≤4)&&s.all Qc1&&!keysL.contains s
def Qec (op:Int):Int:=if op=1∨op=2∨op=13 then 0 else if op=11∨op=12 then 1 else 2
def Qdw (op:Int):Int:=if op=1∨op=2 then 0 else if op=11∨op=12 then 1 else if op=13 then 3 else 2
def Qag1 (op n:Int)(name:List UInt8)(k:Nat):Bool:=
 decide (1≤op∧op≤13)&&decide (Qec op≤(k:Int)∧(k:Int)≤Qdw op)&&(decide (op=2∨op=13) == Qdb name)&&(decide (op=2∨op=13) || decide (name=[]))&&
  decide (0≤n∧n≤255)&&(decide (op=1) || decide (n=0))
mutual
def Ex.form:Ex→Int→Bool
 |.mk op n name kids,d=>decide (1≤d)&&Qag1 op n name kids.length&&Qdn kids (d-1)
def Qdn:List Ex→Int→Bool
 |[],_=>true
 |x::r,d=>x.form d&&Qdn r d
end
theorem Ex.form_eq (x:Ex)(d:Int):x.form d=(decide (1≤d)&&Qag1 x.op x.n x.name x.kids.length&&Qdn x.kids (d-1)):=by
 cases x;simp only[Ex.form,Ex.op,Ex.n,Ex.name,Ex.kids]
theorem Q4d (l:List Ex)(d:Int):Qdn l d=l.all fun x=>x.form d:=by
 induction l with
 |nil=>simp[Qdn]
 |cons x r ih=>simp[Qdn,ih]
def Ex.valid (x:Ex):Bool:=x.form 6&&decide (x.size≤30)
def argN (op:Int):Nat:=if op=4 then 2 else 1
def Qadt (op:Int)(name:List UInt8)(args:List Ex)(nb ne:Nat):Bool:=
 decide (1≤op∧op≤8)&&decide (args.length=argN op)&&(decide (op=1∨op=2) == Qdb name)&&(decide (op=1∨op=2) || decide (name=[]))&&args.all Ex.valid&&
  (!decide (op=8) || decide ((args.map Ex.op).getD 0 0=13))&&(decide (op=5) || decide (ne=0))&&(decide (op=5∨op=6) || decide (nb=0))
mutual
def St.form:St→Int→Bool
 |.mk op name args body els,d=>decide (1≤d)&&Qadt op name args body.length els.length&&Qay body (d-1)&&Qay els (d-1)
def Qay:List St→Int→Bool
 |[],_=>true
 |x::r,d=>x.form d&&Qay r d
end
theorem St.form_eq (x:St)(d:Int):x.form d=(decide (1≤d)&&Qadt x.op x.name x.args x.body.length x.els.length&&Qay x.body (d-1)&&Qay x.els (d-1)):=by
 cases x;simp only[St.form,St.op,St.name,St.args,St.body,St.els]
theorem Q6v (l:List St)(d:Int):Qay l d=l.all fun x=>x.form d:=by
 induction l with
 |nil=>simp[Qay]
 |cons x r ih=>simp[Qay,ih]
mutual
def St.cnt:St→Nat
 |.mk _ _ _ body els=>1+Qcp body+Qcp els
def Qcp:List St→Nat
 |[]=>0
 |x::r=>x.cnt+Qcp r
end
theorem St.cnt_eq (x:St):x.cnt=1+Qcp x.body+Qcp x.els:=by cases x;simp only[St.cnt,St.body,St.els]
def Fn.form (f:Fn):Bool:=f.params.all Qdb&&Qdb f.name&&decide (f.params.length≤3)&&Qay f.body 4
def Qex:List Fn→Nat
 |[]=>0
 |f::r=>Qcp f.body+Qex r
theorem Qaxa (a b:List Fn):Qex (a++b)=Qex a+Qex b:=by
 induction a with
 |nil=>simp[Qex]
 |cons x r ih=>simp only[Jj,Qex,ih];omega
theorem Q83 {l:List Fn}{i:Nat}(h:i<l.length):Qex (l.take (i+1))=Qex (l.take i)+Qcp (l[i]'h).body:=by
 rw[Jf h,Qaxa];simp[Qex]
def Qqa (l:List Fn):Bool:=decide (1≤l.length∧l.length≤4)&&l.all Fn.form&&decide (Qex l≤40)
mutual
def Ex.pre:Ex→List Ex
 |.mk op n name kids=>.mk op n name kids::Q7 kids
def Q7:List Ex→List Ex
 |[]=>[]
 |x::r=>x.pre++Q7 r
end
theorem Ex.pre_eq (x:Ex):x.pre=x::Q7 x.kids:=by cases x;simp only[Ex.pre,Ex.kids]
theorem Qasl (a b:List Ex):Q7 (a++b)=Q7 a++Q7 b:=by
 induction a with
 |nil=>simp[Q7]
 |cons x r ih=>simp only[Jj,Q7,ih,Jo]
def Qli (l:List Fn)(s:List UInt8):Option Nat:=l.findIdx? fun f=>decide (f.name=s)
abbrev Vars:=List (List (List UInt8×Nat))
def Vars.find (v:Vars)(s:List UInt8):Option Nat:=(v.flatten.find? fun p=>decide (p.1=s)).map Prod.snd
def Qfd (v:Vars)(s:List UInt8):Bool:=(v.headD []).any fun p=>decide (p.1=s)
def Qbq (v:Vars)(s:List UInt8)(n:Nat):Vars:=((s,n)::v.headD [])::v.tail
def Qcy (a b:Int):Int:=if a=0 then b else a
def Qgi (fns:List Fn)(k:Nat)(v:Vars)(p:Ex):Int:=
 if p.op=2 then (if (v.find p.name).isSome then 0 else 3)
 else if p.op=13 then (match Qli (fns.take k) p.name with
  |none=>4
  |some j=>if ((fns[j]?.map fun f=>f.params.length).getD 0)=p.kids.length then 0 else 5)
 else 0
def Qbk (fns:List Fn)(k:Nat)(v:Vars)(l:List Ex)(c:Int):Int:=l.foldl (fun c p=>Qcy c (Qgi fns k v p)) c
structure Ck where
 v:Vars
 c:Int
 n:Nat
def stC (fns:List Fn)(k:Nat)(op:Int)(name:List UInt8)(args:List Ex)(s:Ck):Ck:=
 let c:=Qbk fns k s.v (Q7 args) s.c
 if op=1 then ⟨Qbq s.v name s.n,Qcy c (if Qfd s.v name then 2 else 0),s.n+1⟩
 else if op=2 then ⟨s.v,Qcy c (if (s.v.find name).isSome then 0 else 3),s.n⟩
 else ⟨s.v,c,s.n⟩
mutual
def St.ck (fns:List Fn)(k:Nat):St→Ck→Ck
 |.mk op name args body els,s=>
  let s1:=stC fns k op name args s;let s2:=Qau fns k body ⟨[]::s1.v,s1.c,s1.n⟩;let s3:=Qau fns k els ⟨[]::s1.v,s2.c,s2.n⟩
  ⟨s1.v,s3.c,s3.n⟩
def Qau (fns:List Fn)(k:Nat):List St→Ck→Ck
 |[],s=>s
 |x::r,s=>Qau fns k r (x.ck fns k s)
end
theorem St.ck_eq (fns:List Fn)(k:Nat)(x:St)(s:Ck):x.ck fns k s =
  ⟨(stC fns k x.op x.name x.args s).v,(Qau fns k x.els ⟨[]::(stC fns k x.op x.name x.args s).v,(Qau fns k x.body ⟨[]::(stC fns k x.op x.name x.args s).v,(stC fns k x.op x.name x.args s).c,(stC fns k x.op x.name x.args s).n⟩).c,
   (Qau fns k x.body ⟨[]::(stC fns k x.op x.name x.args s).v,(stC fns k x.op x.name x.args s).c,(stC fns k x.op x.name x.args s).n⟩).n⟩).c,
   (Qau fns k x.els ⟨[]::(stC fns k x.op x.name x.args s).v,(Qau fns k x.body ⟨[]::(stC fns k x.op x.name x.args s).v,(stC fns k x.op x.name x.args s).c,(stC fns k x.op x.name x.args s).n⟩).c,
   (Qau fns k x.body ⟨[]::(stC fns k x.op x.name x.args s).v,(stC fns k x.op x.name x.args s).c,(stC fns k x.op x.name x.args s).n⟩).n⟩).n⟩:=by
 cases x;simp only[St.ck,St.op,St.name,St.args,St.body,St.els]
theorem Qbha (fns:List Fn)(k:Nat)(a b:List St)(s:Ck):Qau fns k (a++b) s=Qau fns k b (Qau fns k a s):=by
 induction a generalizing s with
 |nil=>simp[Qau]
 |cons x r ih=>simp only[Jj,Qau,ih]
def Qut (ps:List (List UInt8))(s:Ck):Ck:=ps.foldl (fun s p=>⟨Qbq s.v p s.n,Qcy s.c (if Qfd s.v p then 2 else 0),s.n+1⟩) s
def fnCk (fns:List Fn)(k:Nat):Ck:=match fns[k]? with
 |some f=>Qau fns k f.body (Qut f.params ⟨[[]],if Qli fns f.name=some k then 0 else 2,0⟩)
 |none=>⟨[],0,0⟩
def ckK (fns:List Fn)(k:Nat):Int:=(List.range k).foldl (fun c i=>Qcy c (fnCk fns i).c) 0
def Qady (fns:List Fn):Int:=if Qqa fns=true then ckK fns fns.length else 1
def Qat6 (fns:List Fn):Bool:=decide (Qady fns=0)
theorem Qbkr (fns:List Fn)(k:Nat)(op:Int)(name:List UInt8)(args:List Ex)(s:Ck){b:List (List UInt8×Nat)}{r:Vars}(h:s.v=b::r):∃b',(stC fns k op name args s).v=b'::r:=by
 simp only[stC];split
 ·exact⟨(name,s.n)::b,by simp[Qbq,h]⟩
 ·split
  ·exact⟨b,h⟩
  ·exact⟨b,h⟩
theorem Qatu {l:List St}{i:Nat}(fns:List Fn)(k:Nat)(h:i<l.length)(s:Ck):Qau fns k (l.take (i+1)) s=(l[i]).ck fns k (Qau fns k (l.take i) s):=by
 rw[Jf h,Qbha];simp[Qau]
def nxN (nx:Nat→List Int)(b:Nat):List Nat:=(nx b).map Int.toNat
variable {g:Nat→List Nat}{xs:List Nat}{S S' S1:List Bool}{o o' o1:List Nat}
def cnt (S:List Bool):Nat:=S.count true
end Go.AE.Y
namespace Go.AE.Y
attribute [local instance] Classical.propDecidable
variable {g:Nat→List Nat}{A B:Nat→Prop}{x y z:Nat}
variable {xs:List Nat}{S S' S1:List Bool}{o o' o1:List Nat}
theorem Qbla:∀{l k:List Nat},l.Pairwise (· < ·)→k.Pairwise (· < ·)→(∀x,x∈l↔x∈k)→l=k
 |[],[],_,_,_=>rfl
 |[],b::k,_,_,h=>by have:=(h b).2 Jz;simp at this
 |a::l,[],_,_,h=>by have:=(h a).1 Jz;simp at this
 |a::l,b::k,h1,h2,h=>by
  rw[List.pairwise_cons]at h1 h2;have hab:a=b:=by
   rcases Ju.1 ((h a).1 Jz)with e|e
   ·exact e
   ·rcases Ju.1 ((h b).2 Jz)with e'|e'
    ·exact e'.symm
    ·have:=h1.1 b e';have:=h2.1 a e;omega
  subst hab;congr 1;refine Qbla h1.2 h2.2 fun x=>⟨fun hx=>?_,fun hx=>?_⟩
  ·rcases Ju.1 ((h x).1 (J7 _ hx))with e|e
   ·subst e;have:=h1.1 x hx;omega
   ·exact e
  ·rcases Ju.1 ((h x).2 (J7 _ hx))with e|e
   ·subst e;have:=h2.1 x hx;omega
   ·exact e
end Go.AE.Y
namespace Go.AE.Y
attribute [local instance] Classical.propDecidable
structure Flo where
 n:Nat
 nx:Nat→List Nat
 on:Nat→List Nat
 ins:Nat→List (Option Nat×List Nat)
 ph:Nat→List Nat
 ea:Nat→Nat→List Nat
abbrev RS':=Nat→Prop
variable {F:Flo}
def Flo.fits (F:Flo):Prop:=∀b,b<F.n→∀m∈F.nx b,m<F.n
variable {I J:Nat→RS'}
noncomputable def ascL (R:Nat)(S:RS'):List Nat:=(List.range R).filter fun r=>decide (S r)
theorem ascL_mem {R:Nat}{S:RS'}{r:Nat}:r∈ascL R S↔r<R∧S r:=by simp[ascL]
theorem Qbhr {R:Nat}{S:RS'}:(ascL R S).Pairwise (· < ·):=Jbi _ List.pairwise_lt_range
theorem Qblx {R:Nat}{S:RS'}:(ascL R S).length≤R:=by
 have:=List.length_filter_le (fun r=>decide (S r)) (List.range R);simpa[ascL]using this
end Go.AE.Y
namespace Go.AE.Y
attribute [local instance] Classical.propDecidable
mutual
def St.pre:St→List Ex
 |.mk _ _ args body els=>Q7 args++Qbn body++Qbn els
def Qbn:List St→List Ex
 |[]=>[]
 |x::r=>x.pre++Qbn r
end
theorem St.pre_eq (x:St):x.pre=Q7 x.args++Qbn x.body++Qbn x.els:=by cases x;simp only[St.pre,St.args,St.body,St.els]
theorem Qbci (a b:List St):Qbn (a++b)=Qbn a++Qbn b:=by
 induction a with
 |nil=>simp[Qbn]
 |cons x r ih=>simp only[Jj,Qbn,ih,Jo]
theorem fst0_zero {a b:Int}:Qcy a b=0↔a=0∧b=0:=by
 unfold Qcy;split <;> omega
theorem Qa69 (a b c:Int):Qcy (Qcy a b) c=Qcy a (Qcy b c):=by
 unfold Qcy;by_cases h:a=0 <;> simp[h]
theorem Qasr (a:Int):Qcy a 0=a:=by unfold Qcy;split <;> omega
theorem partsC_zero {fns:List Fn}{k:Nat}{v:Vars}{l:List Ex}{c:Int}:Qbk fns k v l c=0↔c=0∧∀e∈l,Qgi fns k v e=0:=by
 induction l generalizing c with
 |nil=>simp[Qbk]
 |cons x r ih=>
  have:Qbk fns k v (x::r) c=Qbk fns k v r (Qcy c (Qgi fns k v x)):=rfl;rw[this,ih,fst0_zero];simp only[Ju,forall_eq_or_imp,and_assoc]
def calC (fns:List Fn)(k:Nat)(p:Ex):Int:=match Qli (fns.take k) p.name with
 |none=>4
 |some j=>if ((fns[j]?.map fun f=>f.params.length).getD 0)=p.kids.length then 0 else 5
theorem Qa9c {fns:List Fn}{k:Nat}{v:Vars}{p:Ex}(h:p.op=13):Qgi fns k v p=calC fns k p:=by
 rw[Qgi,if_neg (by omega),if_pos h];rfl
theorem Qbks {fns:List Fn}{k:Nat}{op:Int}{name:List UInt8}{args:List Ex}{s:Ck}(h:(stC fns k op name args s).c=0):s.c=0∧∀e∈Q7 args,e.op=13→calC fns k e=0:=by
 have h2:Qbk fns k s.v (Q7 args) s.c=0:=by
  unfold stC at h;simp only at h;split at h
  ·exact (fst0_zero.1 h).1
  ·split at h
   ·exact (fst0_zero.1 h).1
   ·exact h
 obtain⟨h3,h4⟩:=partsC_zero.1 h2;exact⟨h3,fun e he ho=>by rw[←Qa9c (v:=s.v) ho];exact h4 e he⟩
mutual
theorem St.ck_zero {fns:List Fn}{k:Nat}:∀(x:St) {s:Ck},(x.ck fns k s).c=0→s.c=0∧∀e∈x.pre,e.op=13→calC fns k e=0
 |.mk op name args body els,s,h=>by
  simp only[St.ck]at h;obtain⟨h1,h2⟩:=Qea els h;obtain⟨h3,h4⟩:=Qea body h1;obtain⟨h5,h6⟩:=Qbks h3;refine⟨h5,fun e he ho=>?_⟩;simp only[St.pre,Je]at he;rcases he with (he|he)|he
  ·exact h6 e he ho
  ·exact h4 e he ho
  ·exact h2 e he ho
theorem Qea {fns:List Fn}{k:Nat}:∀(l:List St) {s:Ck},(Qau fns k l s).c=0→s.c=0∧∀e∈Qbn l,e.op=13→calC fns k e=0
 |[],s,h=>⟨h,by simp[Qbn]⟩
 |x::r,s,h=>by
  simp only[Qau]at h;obtain⟨h1,h2⟩:=Qea r h;obtain⟨h3,h4⟩:=St.ck_zero x h1;refine⟨h3,fun e he ho=>?_⟩;simp only[Qbn,Je]at he;rcases he with he|he
  ·exact h4 e he ho
  ·exact h2 e he ho
end
theorem Qayk {ps:List (List UInt8)}{s:Ck}(h:(Qut ps s).c=0):s.c=0:=by
 induction ps generalizing s with
 |nil=>exact h
 |cons p r ih=>
  have:Qut (p::r) s=Qut r ⟨Qbq s.v p s.n,Qcy s.c (if Qfd s.v p then 2 else 0),s.n+1⟩:=rfl;rw[this]at h;exact (fst0_zero.1 (ih h)).1
theorem Qasp {fns:List Fn}:∀(l:List Nat) (c:Int),l.foldl (fun c i=>Qcy c (fnCk fns i).c) c=0↔c=0∧∀i∈l,(fnCk fns i).c=0
 |[],c=>by simp
 |x::r,c=>by
  rw[Ja9,Qasp r,fst0_zero];simp only[Ju,forall_eq_or_imp,and_assoc]
theorem Qa6z {fns:List Fn}{k:Nat}:ckK fns k=0↔∀i,i<k→(fnCk fns i).c=0:=by
 rw[ckK,Qasp];simp
structure FineP (fns:List Fn):Prop where
 v:Qqa fns=true
 c:∀k (h:k<fns.length),(Qau fns k fns[k].body (Qut fns[k].params ⟨[[]],0,0⟩)).c=0
 ix:∀k (h:k<fns.length),Qli fns fns[k].name=some k
theorem fine_iff {fns:List Fn}:Qat6 fns=true↔FineP fns:=by
 rw[Qat6,decide_eq_true_eq,Qady];constructor
 ·intro h;split at h
  ·rename_i hv
   rw[Qa6z]at h;have h1:∀k (hk:k<fns.length),(if Qli fns fns[k].name=some k then (0:Int)else 2)=0∧(Qau fns k fns[k].body (Qut fns[k].params ⟨[[]],if Qli fns fns[k].name=some k then 0 else 2,0⟩)).c=0:=fun k hk=>by
    have:=h k hk;rw[fnCk,Jn hk]at this;exact⟨Qayk (Qea _ this).1,this⟩
   have h2:∀k (hk:k<fns.length),Qli fns fns[k].name=some k:=fun k hk=>by
    have:=(h1 k hk).1;split at this
    ·assumption
    ·simp at this
   refine⟨hv,fun k hk=>?_,h2⟩;have:=(h1 k hk).2;rw[if_pos (h2 k hk)]at this;exact this
  ·simp at h
 ·intro h;rw[if_pos h.v,Qa6z];intro k hk;rw[fnCk,Jn hk];simp only[];rw[if_pos (h.ix k hk)];exact h.c k hk
theorem FineP.len {fns:List Fn}(h:FineP fns):0<fns.length∧fns.length≤4:=by
 have:=h.v;simp only[Qqa,Ji,decide_eq_true_eq]at this;omega
theorem Q6y {l:List Fn}{s:List UInt8}{j:Nat}(h:Qli l s=some j):∃hj:j<l.length,l[j].name=s∧∀i (hi:i<j),l[i].name≠s:=by
 rw[Qli,List.findIdx?_eq_some_iff_getElem]at h;obtain⟨hj,h1,h2⟩:=h;exact⟨hj,by simpa using h1,fun i hi=>by simpa using h2 i hi⟩
theorem Qbmq {l:List Fn}{s:List UInt8}{j:Nat}(hj:j<l.length)(h1:l[j].name=s)(h2:∀i (hi:i<j),l[i].name≠s):Qli l s=some j:=by
 rw[Qli,List.findIdx?_eq_some_iff_getElem];exact⟨hj,by simpa using h1,fun i hi=>by simpa using h2 i hi⟩
theorem FineP.inj {fns:List Fn}(h:FineP fns){i j:Nat}(hi:i<fns.length)(hj:j<fns.length)(he:fns[i].name=fns[j].name):i=j:=by
 have h1:=h.ix i hi;rw[he,h.ix j hj]at h1;exact (Jbj h1).symm
theorem FineP.call {fns:List Fn}(h:FineP fns){k:Nat}(hk:k<fns.length){e:Ex}(he:e∈Qbn fns[k].body)(ho:e.op=13) :
  ∃j,∃hj:j<k,∃hl:j<fns.length,fns[j].name=e.name∧fns[j].params.length=e.kids.length:=by
 have:=(Qea _ (h.c k hk)).2 e he ho;unfold calC at this
 cases hx:Qli (fns.take k) e.name with
 |none=>rw[hx]at this;simp at this
 |some j=>
  rw[hx]at this;obtain⟨hj,h1,_⟩:=Q6y hx;rw[J9]at hj;have hl:j<fns.length:=by omega
  refine⟨j,by omega,hl,by simpa using h1,?_⟩;simp only[Jn hl,Option.map_some,Ja6]at this;split at this
  ·assumption
  ·simp at this
def Cls (fns:List Fn)(k j:Nat):Prop:=∃(hk:k<fns.length) (hj:j<fns.length),∃e∈Qbn fns[k].body,e.op=13∧e.name=fns[j].name
noncomputable def Qagw (fns:List Fn)(k:Nat):List Nat:=ascL fns.length (Cls fns k)
theorem FineP.cls_lt {fns:List Fn}(h:FineP fns){k j:Nat}(hc:Cls fns k j):j<k:=by
 obtain⟨hk,hj,e,he,ho,hn⟩:=hc;obtain⟨j',h1,h2,h3,_⟩:=h.call hk he ho;have:=h.inj h2 hj (h3.trans hn);omega
end Go.AE.Y
namespace Go.AE.Y
theorem Qaym (fns:List Fn)(k:Nat)(v:Vars)(a:Int):∀(l:List Ex) (c:Int),Qbk fns k v l (Qcy a c)=Qcy a (Qbk fns k v l c)
 |[],c=>rfl
 |x::r,c=>by
  show Qbk fns k v r (Qcy (Qcy a c) (Qgi fns k v x))=Qcy a (Qbk fns k v r (Qcy c (Qgi fns k v x)));rw[Qa69,Qaym fns k v a r]
theorem Qbp6 (fns:List Fn)(k:Nat)(op:Int)(name:List UInt8)(args:List Ex)(a:Int)(s:Ck) :
  stC fns k op name args ⟨s.v,Qcy a s.c,s.n⟩=⟨(stC fns k op name args s).v,Qcy a (stC fns k op name args s).c,(stC fns k op name args s).n⟩:=by
 simp only[stC,Qaym];split
 ·simp only[Qa69]
 ·split
  ·simp only[Qa69]
  ·rfl
mutual
theorem St.ck_sh (fns:List Fn)(k:Nat)(a:Int):∀(x:St) (s:Ck),x.ck fns k ⟨s.v,Qcy a s.c,s.n⟩=⟨(x.ck fns k s).v,Qcy a (x.ck fns k s).c,(x.ck fns k s).n⟩
 |.mk op name args body els,s=>by
  simp only[St.ck,Qbp6];have h1:=Qagm fns k a body ⟨[]::(stC fns k op name args s).v,(stC fns k op name args s).c,(stC fns k op name args s).n⟩;simp only at h1;rw[h1];have h2:=Qagm fns k a els ⟨[]::(stC fns k op name args s).v,(Qau fns k body ⟨[]::(stC fns k op name args s).v,(stC fns k op name args s).c,(stC fns k op name args s).n⟩).c,(Qau fns k body ⟨[]::(stC fns k op name args s).v,(stC fns k op name args s).c,(stC fns k op name args s).n⟩).n⟩;simp only at h2;rw[h2]
theorem Qagm (fns:List Fn)(k:Nat)(a:Int):∀(l:List St) (s:Ck),Qau fns k l ⟨s.v,Qcy a s.c,s.n⟩=⟨(Qau fns k l s).v,Qcy a (Qau fns k l s).c,(Qau fns k l s).n⟩
 |[],s=>by simp only[Qau]
 |x::r,s=>by
  simp only[Qau];rw[St.ck_sh fns k a x s];exact Qagm fns k a r (x.ck fns k s)
end
theorem Qbe5 (a:Int):∀(ps:List (List UInt8)) (s:Ck),Qut ps ⟨s.v,Qcy a s.c,s.n⟩=⟨(Qut ps s).v,Qcy a (Qut ps s).c,(Qut ps s).n⟩
 |[],s=>rfl
 |p::r,s=>by
  show Qut r ⟨Qbq s.v p s.n,Qcy (Qcy a s.c) (if Qfd s.v p then 2 else 0),s.n+1⟩=_;rw[Qa69];exact Qbe5 a r ⟨Qbq s.v p s.n,Qcy s.c (if Qfd s.v p then 2 else 0),s.n+1⟩
theorem Qayj {ps:List (List UInt8)}{j:Nat}(h:j<ps.length)(s:Ck):Qut (ps.take (j+1)) s =
  ⟨Qbq (Qut (ps.take j) s).v ps[j] (Qut (ps.take j) s).n,Qcy (Qut (ps.take j) s).c (if Qfd (Qut (ps.take j) s).v ps[j]then 2 else 0),(Qut (ps.take j) s).n+1⟩:=by
 rw[Jf h];simp only[Qut,List.foldl_append,Ja9,List.foldl_nil];rfl
def ixC (fns:List Fn)(k:Nat)(name:List UInt8):Int:=if Qli fns name=some k then 0 else 2
theorem Qbmo {fns:List Fn}{k:Nat}(h:k<fns.length)(a:Int) :
  (Qau fns k fns[k].body (Qut fns[k].params ⟨[[]],Qcy a (ixC fns k fns[k].name),0⟩)).c=Qcy a (fnCk fns k).c:=by
 have h1:=Qbe5 a fns[k].params ⟨[[]],ixC fns k fns[k].name,0⟩;simp only at h1;rw[h1];have h2:=Qagm fns k a fns[k].body (Qut fns[k].params ⟨[[]],ixC fns k fns[k].name,0⟩);rw[h2,fnCk,Jn h];rfl
theorem Qat1 (fns:List Fn)(k:Nat):ckK fns (k+1)=Qcy (ckK fns k) (fnCk fns k).c:=by
 rw[ckK,ckK,List.range_succ,List.foldl_append];rfl
theorem Qbmp {l:List Fn}{i:Nat}(h:i<l.length):∃j,Qli l l[i].name=some j∧j≤i:=by
 cases hx:Qli l l[i].name with
 |none=>
  rw[Qli,List.findIdx?_eq_none_iff]at hx;have:=hx l[i] (Jc h);simp at this
 |some j=>
  refine⟨j,rfl,?_⟩;obtain⟨hj,h1,h2⟩:=Q6y hx;rcases Ja3 i j with hlt|hge
  ·exact absurd rfl (h2 i hlt)
  ·exact hge
def vT:Vars→List (List UInt8×Nat×Nat)
 |[]=>[]
 |b::r=>b.map (fun p=>(p.1,p.2,r.length))++vT r
def row3 (x:List UInt8×Nat×Nat):List C:=[.str x.1,.int .i64 x.2.1,.int .i64 x.2.2]
def Qbw (v:Vars):List (List C):=((vT v).map row3).reverse
theorem Qz3 (v:Vars):(Qbw v).length=(vT v).length:=by simp[Qbw]
theorem Qpp (v:Vars):Qbw ([]::v)=Qbw v:=by simp[Qbw,vT]
theorem Qan8 (s:List UInt8)(n:Nat)(b:List (List UInt8×Nat))(r:Vars):Qbw (((s,n)::b)::r)=Qbw (b::r)++[row3 (s,n,r.length)]:=by simp[Qbw,vT]
theorem Qbck (b:List (List UInt8×Nat))(r:Vars):(Qbw (b::r)).take (Qbw r).length=Qbw r:=by
 simp[Qbw,vT]
theorem Qbk7 (b:List (List UInt8×Nat))(r:Vars):(Qbw r).length≤(Qbw (b::r)).length:=by simp[Qbw,vT]
theorem Qatx (v:Vars){i:Nat}(h:i<(vT v).length):(Qbw v).getD i []=row3 ((vT v)[(vT v).length-1-i]'(by omega)):=by
 have hi:i<(Qbw v).length:=by rw[Qz3];exact h
 rw[Jb,Jn hi,Ja6];simp[Qbw]
theorem Qbqd:∀(v:Vars),∀x∈vT v,x.2.2<v.length
 |[],x,h=>by simp[vT]at h
 |b::r,x,h=>by
  simp only[vT,Je,Jw]at h;rcases h with ⟨p,_,rfl⟩|h
  ·simp
  ·have:=Qbqd r x h;simp only[Jp];omega
theorem Qbod (v:Vars)(s:List UInt8):v.find s=((vT v).find? fun x=>decide (x.1=s)).map fun x=>x.2.1:=by
 induction v with
 |nil=>rfl
 |cons b r ih=>
  have h1:Vars.find (b::r) s=((b.find? fun p=>decide (p.1=s)).map Prod.snd).or (Vars.find r s):=by
   rw[Vars.find,Vars.find,List.flatten_cons,List.find?_append];cases b.find? fun p=>decide (p.1=s) <;> rfl
  rw[h1,ih,vT,List.find?_append,List.find?_map];have h2:((fun x:List UInt8×Nat×Nat=>decide (x.1=s)) ∘ fun p:List UInt8×Nat=>(p.1,p.2,r.length))=fun p=>decide (p.1=s):=rfl;rw[h2];cases b.find? fun p=>decide (p.1=s) <;> rfl
theorem Qbqe (b:List (List UInt8×Nat))(r:Vars)(s:List UInt8):Qfd (b::r) s=(((vT (b::r)).find? fun x=>decide (x.1=s)).map fun x=>decide (x.2.2=r.length)).getD false:=by
 rw[vT,List.find?_append,List.find?_map];have h2:((fun x:List UInt8×Nat×Nat=>decide (x.1=s)) ∘ fun p:List UInt8×Nat=>(p.1,p.2,r.length))=fun p=>decide (p.1=s):=rfl;rw[h2,Qfd,Jba]
 cases hb:b.find? fun p=>decide (p.1=s)with
 |some p=>
  have h1:=List.find?_some hb;have h3:=List.mem_of_find?_eq_some hb;have:(b.any fun p=>decide (p.1=s))=true:=Jam.2 ⟨p,h3,h1⟩;rw[this];simp
 |none=>
  have:(b.any fun p=>decide (p.1=s))=false:=by
   rw[List.find?_eq_none]at hb;rw[List.any_eq_false];exact hb
  rw[this]
  cases hr:(vT r).find? fun x=>decide (x.1=s)with
  |none=>rfl
  |some x=>
   have:=Qbqd r x (List.mem_of_find?_eq_some hr);have hne:¬x.2.2=r.length:=by omega
   simp[hne]
theorem Qbmm {α:Type}{l:List α}{p:α→Bool}{k:Nat}(hk:k<l.length)(h:p l[k]=true)(hn:∀x∈l.take k,¬p x=true):l.find? p=some l[k]:=by
 rw[List.find?_eq_some_iff_getElem];refine⟨h,k,hk,rfl,fun j hj=>?_⟩;have:=hn l[j] (by rw[List.mem_take_iff_getElem];exact⟨j,by omega,rfl⟩);simpa using this
theorem Qbdl (l:List Fn)(k:Nat)(s:List UInt8):Qli (l.take k) s=match Qli l s with
  |some j=>if j<k then some j else none
  |none=>none:=by
 cases h:Qli l s with
 |none=>
  rw[Qli,List.findIdx?_eq_none_iff]at h⊢;exact fun f hf=>h f (List.mem_of_mem_take hf)
 |some j=>
  obtain⟨hj,h1,h2⟩:=Q6y h;by_cases hk:j<k
  ·simp only[hk,if_true];exact Qbmq (by rw[J9];omega) (by rw[J2];exact h1) fun i hi=>by rw[J2];exact h2 i hi
  ·simp only[hk,if_false];rw[Qli,List.findIdx?_eq_none_iff];intro f hf;obtain⟨i,hi,rfl⟩:=List.mem_take_iff_getElem.1 hf;have:=h2 i (by omega);simpa using this
theorem Qa7v (fns:List Fn)(k:Nat)(v:Vars)(p:Ex):Qgi fns k v p =
  if p.op=2 then (if (v.find p.name).isSome then 0 else 3)
  else if p.op=13 then (match Qli fns p.name with
   |none=>4
   |some j=>if k≤j then 4 else if ((fns[j]?.map fun f=>f.params.length).getD 0)=p.kids.length then 0 else 5)
  else 0:=by
 rw[Qgi];split
 ·rfl
 ·split
  ·rw[Qbdl]
   cases h:Qli fns p.name with
   |none=>rfl
   |some j=>
    simp only[];by_cases hk:j<k
    ·have:¬k≤j:=(by omega);simp only[hk,if_true,this,if_false]
    ·have:k≤j:=(by omega);simp only[hk,if_false,this,if_true]
  ·rfl
theorem Qbp3 (fns:List Fn)(k:Nat)(op:Int)(name:List UInt8)(args:List Ex)(s:Ck):s.n≤(stC fns k op name args s).n∧(stC fns k op name args s).n≤s.n+1:=by
 simp only[stC];split
 ·exact⟨by simp,by simp⟩
 ·split <;> exact⟨by simp,by simp⟩
mutual
theorem St.ck_n (fns:List Fn)(k:Nat):∀(x:St) (s:Ck),s.n≤(x.ck fns k s).n∧(x.ck fns k s).n≤s.n+x.size
 |.mk op name args body els,s=>by
  simp only[St.ck,St.size];have h1:=Qbp3 fns k op name args s;have h2:=Q6u fns k body ⟨[]::(stC fns k op name args s).v,(stC fns k op name args s).c,(stC fns k op name args s).n⟩;have h3:=Q6u fns k els ⟨[]::(stC fns k op name args s).v,(Qau fns k body ⟨[]::(stC fns k op name args s).v,(stC fns k op name args s).c,(stC fns k op name args s).n⟩).c,(Qau fns k body ⟨[]::(stC fns k op name args s).v,(stC fns k op name args s).c,(stC fns k op name args s).n⟩).n⟩;simp only at h2 h3;omega
theorem Q6u (fns:List Fn)(k:Nat):∀(l:List St) (s:Ck),s.n≤(Qau fns k l s).n∧(Qau fns k l s).n≤s.n+Qh l
 |[],s=>by simp[Qau]
 |x::r,s=>by
  simp only[Qau,Qh];have h1:=St.ck_n fns k x s;have h2:=Q6u fns k r (x.ck fns k s);omega
end
theorem Qbkq (fns:List Fn)(k:Nat)(op:Int)(name:List UInt8)(args:List Ex)(s:Ck){b:List (List UInt8×Nat)}{r:Vars}(hv:s.v=b::r)(h:(Qbw (b::r)).length≤s.n):(Qbw (stC fns k op name args s).v).length≤(stC fns k op name args s).n:=by
 simp only[stC];split
 ·simp only[Qbq,hv,Jba,List.tail_cons,Qan8,Jy,Jad];omega
 ·split
  ·simp only[hv];exact h
  ·simp only[hv];exact h
theorem Qbhu (fns:List Fn){i:Nat}{c:Int}(h:ckK fns i=c)(hc:c≠0):∀n,i≤n→ckK fns n=c:=by
 intro n hn
 induction n with
 |zero=>have:i=0:=by omega
        subst this;exact h
 |succ n ih=>
  rcases Ja3 i (n+1)with hlt|hge
  ·rw[Qat1,ih (by omega),Qcy,if_neg hc]
  ·have:i=n+1:=by omega
   subst this;exact h
structure Cmp (ns R:List Int)(k j:Nat):Prop where
 len:R.length=ns.length
 kj:k<j
 jn:j≤ns.length
 asc:(R.take k).Pairwise (· < ·)
 mem:∀x,x∈R.take k↔x∈ns.take j
 same:∀i,j≤i+1→R.getD i 0=ns.getD i 0
variable {ns R:List Int}{k j:Nat}
theorem take_mem {l:List Int}{j:Nat}{x:Int}:x∈l.take j↔∃i,i<j∧i<l.length∧l.getD i 0=x:=by
 constructor
 ·intro h;obtain⟨i,hi,rfl⟩:=Jae.1 h;rw[J9]at hi;refine⟨i,by omega,by omega,?_⟩;rw[J2,Jb,Jn (by omega)];rfl
 ·rintro⟨i,h1,h2,rfl⟩;rw[Jb,Jn h2];exact Jae.2 ⟨i,by rw[J9];omega,by rw[J2];rfl⟩
theorem Qht {ns:List Int}(h:ns.Pairwise (·≤·)){a b:Nat}(hab:a≤b)(hb:b<ns.length):ns.getD a 0≤ns.getD b 0:=by
 rcases Ja3 a b with h1|h1
 ·have:=J8.1 h a b (by omega) hb h1;simpa[Jb,hb,show a<ns.length by omega]using this
 ·have:a=b:=by omega
  subst this;exact Ja8 _
theorem Cmp.start (hs:ns.Pairwise (·≤·))(hk0:0<k)(hk:k<ns.length)(hne:∀i,0<i→i<k→ns.getD i 0≠ns.getD (i-1) 0)(he:ns.getD k 0=ns.getD (k-1) 0):Cmp ns ns k (k+1):=by
 refine⟨rfl,by omega,by omega,?_,fun x=>?_,fun i _=>rfl⟩
 ·rw[J8];intro a b ha hb hab;rw[J9]at ha hb;rw[J2,J2];have h1:=Qht hs (a:=a) (b:=b-1) (by omega) (by omega);have h2:=Qht hs (a:=b-1) (b:=b) (by omega) (by omega);have h3:=hne b (by omega) (by omega);have e1:ns.getD a 0=ns[a]:=by simp[Jb,show a<ns.length by omega]
  have e2:ns.getD b 0=ns[b]:=by simp[Jb,show b<ns.length by omega]
  rw[e1]at h1;rw[e2]at h2 h3;omega
 ·rw[take_mem,take_mem];constructor
  ·rintro⟨i,h1,h2,h3⟩;exact⟨i,by omega,h2,h3⟩
  ·rintro⟨i,h1,h2,h3⟩;by_cases h:i<k
   ·exact⟨i,h,h2,h3⟩
   ·have:i=k:=(by omega);subst this;exact⟨i-1,by omega,by omega,by rw[←he];exact h3⟩
theorem Cmp.eq (c:Cmp ns R k j)(hj:j<ns.length)(he:ns.getD j 0=ns.getD (j-1) 0):Cmp ns R k (j+1):=by
 have:=c.kj;refine⟨c.len,by omega,by omega,c.asc,fun x=>?_,fun i hi=>c.same i (by omega)⟩;rw[c.mem,take_mem,take_mem];constructor
 ·rintro⟨i,h1,h2,h3⟩;exact⟨i,by omega,h2,h3⟩
 ·rintro⟨i,h1,h2,h3⟩;by_cases h:i<j
  ·exact⟨i,h,h2,h3⟩
  ·have:i=j:=by omega
   subst this;exact⟨i-1,by omega,by omega,by rw[←he];exact h3⟩
theorem Cmp.ne (c:Cmp ns R k j)(hs:ns.Pairwise (·≤·))(hj:j<ns.length)(he:ns.getD j 0≠ns.getD (j-1) 0):Cmp ns (R.set k (ns.getD j 0)) (k+1) (j+1):=by
 have hkj:=c.kj;have hkl:k<R.length:=by rw[c.len];omega
 have htk:(R.set k (ns.getD j 0)).take (k+1)=R.take k++[ns.getD j 0]:=by
  rw[Jf (by rw[Jaf];exact hkl),List.getElem_set_self];congr 1;rw[List.take_set_of_le (Jk _)]
 refine⟨by rw[Jaf];exact c.len,by omega,by omega,?_,fun x=>?_,fun i hi=>?_⟩
 ·rw[htk,List.pairwise_append];refine⟨c.asc,by simp,fun a ha b hb=>?_⟩;simp at hb;subst hb;obtain⟨i,h1,h2,rfl⟩:=take_mem.1 ((c.mem a).1 ha);have h3:=Qht hs (a:=i) (b:=j-1) (by omega) (by omega);have h4:=Qht hs (a:=j-1) (b:=j) (by omega) hj;simp only[Jb]at *;omega
 ·rw[htk,Je,c.mem,take_mem,take_mem];simp only[Ja];constructor
  ·rintro (⟨i,h1,h2,h3⟩|rfl)
   ·exact⟨i,by omega,h2,h3⟩
   ·exact⟨j,by omega,hj,rfl⟩
  ·rintro⟨i,h1,h2,h3⟩;by_cases h:i<j
   ·exact .inl ⟨i,h,h2,h3⟩
   ·have:i=j:=(by omega);subst this;exact .inr h3.symm
 ·have:k≠i:=by omega
  rw[←c.same i (by omega)];simp[Jb,this]
theorem Qaw7 (hs:ns.Pairwise (·≤·))(hne:∀i,0<i→i<ns.length→ns.getD i 0≠ns.getD (i-1) 0):ns.Pairwise (· < ·):=by
 rw[J8];intro a b ha hb hab;have h1:=Qht hs (a:=a) (b:=b-1) (by omega) (by omega);have h2:=Qht hs (a:=b-1) (b:=b) (by omega) (by omega);have h3:=hne b (by omega) (by omega);have e1:ns.getD a 0=ns[a]:=by simp[Jb,ha]
 have e2:ns.getD b 0=ns[b]:=by simp[Jb,hb]
 rw[e1]at h1;rw[e2]at h2 h3;omega
def srt (ns:List Int):List Int:=ns.mergeSort fun x y=>decide (x≤y)
theorem Qbg6 (ns:List Int):(srt ns).length=ns.length:=List.length_mergeSort _
theorem Qbnz (ns:List Int)(x:Int):x∈srt ns↔x∈ns:=(List.mergeSort_perm ns _).mem_iff
theorem Qbce (ns:List Int):(srt ns).Pairwise (·≤·):=by
 have:=List.pairwise_mergeSort (le:=fun x y:Int=>decide (x≤y)) (by simp only[decide_eq_true_eq];omega) (by simp only[Ja7,decide_eq_true_eq];omega) ns;exact this.imp (by simp)
end Go.AE.Y
namespace Go.AE.Y
attribute [local instance] Classical.propDecidable
mutual
theorem Ex.pre_len:∀(x:Ex),x.pre.length=x.size
 |.mk op n name kids=>by simp only[Ex.pre,Ex.size,Jp,Qk9 kids];omega
theorem Qk9:∀(l:List Ex),(Q7 l).length=Qp l
 |[]=>rfl
 |x::r=>by simp only[Q7,Qp,Jy,Ex.pre_len x,Qk9 r]
end
mutual
theorem St.pre_len:∀(x:St),x.pre.length≤x.size
 |.mk op name args body els=>by
  have h1:=Qlg body;have h2:=Qlg els;simp only[St.pre,St.size,Jy,Qk9];omega
theorem Qlg:∀(l:List St),(Qbn l).length≤Qh l
 |[]=>by simp[Qbn,Qh]
 |x::r=>by
  have h1:=St.pre_len x;have h2:=Qlg r;simp only[Qbn,Qh,Jy];omega
end
theorem Qa6q {l:List St}{i:Nat}(h:i<l.length):Qbn (l.take (i+1))=Qbn (l.take i)++(l[i]).pre:=by
 rw[Jf h,Qbci];simp[Qbn]
def ixI:Option Nat→Int
 |none=>-1
 |some j=>j
def clI (fns:List Fn)(e:Ex):List Int:=if e.op=13 then [ixI (Qli fns e.name)]else []
def clL (fns:List Fn)(l:List Ex):List Int:=l.flatMap (clI fns)
theorem Qagz (fns:List Fn)(a b:List Ex):clL fns (a++b)=clL fns a++clL fns b:=by simp[clL]
theorem Q82 (fns:List Fn)(l:List Ex):(clL fns l).length≤l.length:=by
 induction l with
 |nil=>simp[clL]
 |cons x r ih=>
  have:(clI fns x).length≤1:=by rw[clI];split <;> simp
  simp only[clL,Ja0,Jy,Jp]at ih⊢;omega
theorem Qbc4 {fns:List Fn}(h:FineP fns){k:Nat}(hk:k<fns.length){ns:List Int}(hs:ns.Pairwise (· < ·))(hm:∀x,x∈ns↔x∈clL fns (Qbn fns[k].body)):ns=(Qagw fns k).map Int.ofNat:=by
 have hmem:∀x:Int,x∈ns↔∃j:Nat,x=j∧Cls fns k j:=by
  intro x;rw[hm,clL,Jan];constructor
  ·rintro⟨e,he,hx⟩;rw[clI]at hx;split at hx
   ·rename_i ho
    obtain⟨j,hj,hl,hn,_⟩:=h.call hk he ho;have hi:=h.ix j hl;rw[hn]at hi;rw[hi,Ja]at hx;exact⟨j,hx,hk,hl,e,he,ho,hn.symm⟩
   ·simp at hx
  ·rintro⟨j,rfl,hk',hl,e,he,ho,hn⟩;refine⟨e,he,?_⟩;rw[clI,if_pos ho,hn,h.ix j hl];simp[ixI]
 have hpos:∀x∈ns,0≤x:=fun x hx=>by
  obtain⟨j,rfl,_⟩:=(hmem x).1 hx;omega
 have e1:ns=(ns.map Int.toNat).map Int.ofNat:=by
  rw[List.map_map]
  conv=>lhs;rw[←List.map_id ns]
  refine List.map_congr_left fun x hx=>?_;exact (Int.toNat_of_nonneg (hpos x hx)).symm
 rw[e1];congr 1;refine Qbla ?_ Qbhr fun x=>?_
 ·rw[List.pairwise_map];exact hs.imp_of_mem fun {a b} ha hb hab=>by
   have:=hpos a ha;omega
 ·rw[Qagw,ascL_mem,Jw];constructor
  ·rintro⟨y,hy,rfl⟩;obtain⟨j,rfl,hc⟩:=(hmem y).1 hy;obtain⟨_,hj,_⟩:=id hc;exact⟨by simpa using hj,by simpa using hc⟩
  ·rintro⟨_,hc⟩;exact⟨(x:Int),(hmem _).2 ⟨x,rfl,hc⟩,by simp⟩
end Go.AE.Y
namespace Go.AE.Y
structure Lw where
 regs:Int
 bs:List BlkD
 at_:Nat
def blk0:BlkD:=⟨[],[],0,0,[]⟩
def Lw.put (s:Lw)(op to n:Int)(args:List Int):Lw:={ s with bs:=s.bs.modify s.at_ fun b=>{ b with ins:=b.ins++[⟨op,to,args,n⟩] } }
def Lw.fresh (s:Lw):Lw:={ s with regs:=s.regs+1 }
def Lw.add (s:Lw)(n:Nat):Lw:={ s with bs:=s.bs++List.replicate n blk0 }
def Lw.jump (s:Lw)(kind on:Int)(next:List Int)(at':Nat):Lw:={ s with bs:=s.bs.modify s.at_ fun b=>{ b with jump:=kind,on:=on,next:=next },at_:=at' }
def Lw.make (s:Lw)(op n:Int)(args:List Int):Lw:=s.fresh.put op s.regs n args
def Q9t (op:Int):Int:=if op=11 then 10 else if op=12 then 11 else if op=13 then 14 else op
mutual
def Ex.low (rg fi:List UInt8→Int):Ex→Lw→Lw×Int
 |.mk op n name kids,s=>
  if op=1 then (s.make 1 n [],s.regs)
  else if op=2 then (s,rg name)
  else if op=10 then Q29 rg fi kids s
  else ((Qah rg fi kids s).1.make (Q9t op) (if op=13 then fi name else 0) (Qah rg fi kids s).2,(Qah rg fi kids s).1.regs)
def Qah (rg fi:List UInt8→Int):List Ex→Lw→Lw×List Int
 |[],s=>(s,[])
 |x::r,s=>((Qah rg fi r (x.low rg fi s).1).1,(x.low rg fi s).2::(Qah rg fi r (x.low rg fi s).1).2)
def Q29 (rg fi:List UInt8→Int):List Ex→Lw→Lw×Int
 |[],s=>(s,0)
 |x::r,s=>
  let s1:=(x.low rg fi s).1;let s2:=s1.make 1 0 []
  (Qps rg fi s1.regs s1.bs.length r ((s2.add 2).jump 2 (x.low rg fi s).2 [(s1.bs.length:Int),(s1.bs.length:Int)+1] s1.bs.length),s1.regs)
def Qps (rg fi:List UInt8→Int)(t:Int)(right:Nat):List Ex→Lw→Lw
 |[],s=>s
 |x::_,s=>
  let s1:=(x.low rg fi s).1
  ((s1.make 10 0 [(x.low rg fi s).2]).put 10 t 0 [s1.regs]).jump 1 0 [(right:Int)+1] (right+1)
end
theorem Q4e (rg fi:List UInt8→Int)(l:List Ex)(x:Ex)(s:Lw):Qah rg fi (l++[x]) s=((x.low rg fi (Qah rg fi l s).1).1,(Qah rg fi l s).2++[(x.low rg fi (Qah rg fi l s).1).2]):=by
 induction l generalizing s with
 |nil=>simp[Qah]
 |cons y r ih=>simp only[Jj,Qah,ih]
theorem Qa8t (rg fi:List UInt8→Int)(l:List Ex)(s:Lw):(Qah rg fi l s).2.length=l.length:=by
 induction l generalizing s with
 |nil=>simp[Qah]
 |cons y r ih=>simp only[Qah,Jp,ih]
def Qbf (v:Vars)(dflt:Int)(s:List UInt8):Int:=match v.find s with
 |some n=>(n:Int)
 |none=>dflt
structure Lv where
 s:Lw
 v:Vars
 next:Nat
def Lv.one (w:Lv)(d:Int)(fi:List UInt8→Int)(op:Int)(name:List UInt8)(args:List Ex):Lv:=
 let s1:=(Qah (Qbf w.v d) fi args w.s).1;let rs:=(Qah (Qbf w.v d) fi args w.s).2
 if op=1 then ⟨s1.put 2 (w.next:Int) 0 rs,Qbq w.v name w.next,w.next+1⟩
 else if op=2 then ⟨s1.put 2 (Qbf w.v d name) 0 rs,w.v,w.next⟩
 else if op=3 then ⟨s1.put 13 (-1) 0 rs,w.v,w.next⟩
 else if op=4 then ⟨s1.put 12 (-1) 0 rs,w.v,w.next⟩
 else if op=7 then ⟨(s1.add 1).jump 3 (rs.getD 0 0) [] s1.bs.length,w.v,w.next⟩
 else ⟨s1,w.v,w.next⟩
mutual
def St.low (d:Int)(fi:List UInt8→Int):St→Lv→Lv
 |.mk op name args body els,w=>
  if op=6 then
   let b:=w.s.bs.length;let s1:=(w.s.add 3).jump 1 0 [(b:Int)] b;let s2:=(Qah (Qbf w.v d) fi (args.take 1) s1).1;let s3:=s2.jump 2 ((Qah (Qbf w.v d) fi (args.take 1) s1).2.getD 0 0) [(b:Int)+1,(b:Int)+2] (b+1);let w4:=Qaa d fi body ⟨s3,[]::w.v,w.next⟩
   ⟨w4.s.jump 1 0 [(b:Int)] (b+2),w.v,w4.next⟩
  else if op=5 then
   let s1:=(Qah (Qbf w.v d) fi args w.s).1;let b:=s1.bs.length;let s2:=(s1.add 3).jump 2 ((Qah (Qbf w.v d) fi args w.s).2.getD 0 0) [(b:Int),(b:Int)+1] b;let w3:=Qaa d fi body ⟨s2,[]::w.v,w.next⟩;let w4:=Qaa d fi els ⟨w3.s.jump 1 0 [(b:Int)+2] (b+1),[]::w.v,w3.next⟩
   ⟨w4.s.jump 1 0 [(b:Int)+2] (b+2),w.v,w4.next⟩
  else w.one d fi op name args
def Qaa (d:Int)(fi:List UInt8→Int):List St→Lv→Lv
 |[],w=>w
 |x::r,w=>Qaa d fi r (x.low d fi w)
end
theorem Qatv (d:Int)(fi:List UInt8→Int)(a b:List St)(w:Lv):Qaa d fi (a++b) w=Qaa d fi b (Qaa d fi a w):=by
 induction a generalizing w with
 |nil=>simp[Qaa]
 |cons x r ih=>simp only[Jj,Qaa,ih]
mutual
def St.lets:St→Nat
 |.mk op _ _ body els=>(if op=1 then 1 else 0)+Qac body+Qac els
def Qac:List St→Nat
 |[]=>0
 |x::r=>x.lets+Qac r
end
def parV (ps:List (List UInt8)):Vars×Nat:=ps.foldl (fun s p=>(Qbq s.1 p s.2,s.2+1)) ([[]],0)
def Qb9 (fns:List Fn)(s:List UInt8):Int:=match Qli fns s with
 |some n=>(n:Int)
 |none=>-1
def Qlj (d:Int)(fns:List Fn)(f:Fn):CodeD:=
 let w:=Qaa d (Qb9 fns) f.body ⟨⟨(f.params.length:Int)+Qac f.body,[blk0],0⟩,(parV f.params).1,f.params.length⟩;let s:=(w.s.make 1 0 []).jump 3 w.s.regs [] w.s.at_
 ⟨f.params.length,s.regs,s.bs⟩
def Qba (d:Int)(fns:List Fn):List CodeD:=fns.map (Qlj d fns)
def Qagb (n:Nat):List UInt8:=[118,UInt8.ofNat (97+n)]
theorem Qa1u {a b:Nat}(ha:a<26)(hb:b<26)(h:Qagb a=Qagb b):a=b:=by
 have:∀x y:Fin 26,Qagb x.val=Qagb y.val→x=y:=by decide
 have:=this ⟨a,ha⟩ ⟨b,hb⟩ h;exact congrArg Fin.val this
def renV (v:Vars):Vars:=v.map fun b=>b.map fun p=>(Qagb p.2,p.2)
def VOk (v:Vars)(n:Nat):Prop:=(v.flatten.map Prod.snd).Nodup∧∀p∈v.flatten,p.2<n
theorem Qayv (v:Vars):(renV v).flatten=v.flatten.map fun p=>(Qagb p.2,p.2):=by
 induction v with
 |nil=>rfl
 |cons b r ih=>simp only[renV,J5,List.flatten_cons,Js]at ih⊢;rw[ih]
theorem Qbh8 {l:List (List UInt8×Nat)}{n:Nat}(hn:n≤26)(h1:(l.map Prod.snd).Nodup)(h2:∀p∈l,p.2<n){s:List UInt8}{m:Nat}(hf:(l.find? fun p=>decide (p.1=s)).map Prod.snd=some m) :
  ((l.map fun p=>(Qagb p.2,p.2)).find? fun p=>decide (p.1=Qagb m)).map Prod.snd=some m:=by
 obtain⟨p,hp,rfl⟩:=Option.map_eq_some_iff.1 hf;have hpm:=List.mem_of_find?_eq_some hp;clear hf hp
 induction l with
 |nil=>simp at hpm
 |cons a r ih=>
  have ha:=h2 a Jz;have hp2:=h2 p hpm;rw[J5,List.find?_cons];by_cases he:Qagb a.2=Qagb p.2
  ·have:=Qa1u (by omega) (by omega) he;simp[this]
  ·simp only[he,decide_false];have:p≠a:=fun e=>he (by rw[e]);exact ih (Jbb.1 h1).2 (fun q hq=>h2 q (J7 _ hq)) (by simpa[this]using hpm)
theorem VOk.find {v:Vars}{n:Nat}(h:VOk v n)(hn:n≤26){s:List UInt8}{m:Nat}(hf:v.find s=some m):(renV v).find (Qagb m)=some m:=by
 rw[Vars.find,Qayv];exact Qbh8 hn h.1 h.2 hf
theorem VOk.put {v:Vars}{n:Nat}(h:VOk v n)(s:List UInt8):VOk (Qbq v s n) (n+1):=by
 have e:(Qbq v s n).flatten=(s,n)::v.flatten:=by
  cases v with
  |nil=>rfl
  |cons b r=>simp[Qbq]
 refine⟨?_,fun p hp=>?_⟩
 ·rw[e,J5,Jbb];refine⟨fun hm=>?_,h.1⟩;obtain⟨p,hp,he⟩:=Jw.1 hm;have:=h.2 p hp;omega
 ·rw[e]at hp;rcases Ju.1 hp with rfl|hp
  ·show n<n+1;omega
  ·have:=h.2 p hp;omega
theorem VOk.push {v:Vars}{n:Nat}(h:VOk v n):VOk ([]::v) n:=by
 have e:(([]:List (List UInt8×Nat))::v).flatten=v.flatten:=by simp
 exact⟨by rw[e];exact h.1,by rw[e];exact h.2⟩
theorem VOk.mono {v:Vars}{n m:Nat}(h:VOk v n)(hm:n≤m):VOk v m:=⟨h.1,fun p hp=>by have:=h.2 p hp;omega⟩
theorem VOk.top {v:Vars}{n:Nat}(h:VOk v n)(hn:n<26):Qfd (renV v) (Qagb n)=false:=by
 rw[Qfd,List.any_eq_false];intro p hp;have hm:p∈(renV v).flatten:=by
  cases hv:renV v with
  |nil=>rw[hv]at hp;simp at hp
  |cons b r=>rw[hv]at hp;simp at hp;simp[hp]
 rw[Qayv]at hm;obtain⟨q,hq,rfl⟩:=Jw.1 hm;have h2:=h.2 q hq;simp only[decide_eq_true_eq];intro he;have:=Qa1u (by omega) hn he;omega
def AllV (v:Vars)(l:List Ex):Prop:=∀e∈l,e.op=2→(v.find e.name).isSome=true
theorem AllV.app {v:Vars}{a b:List Ex}(h:AllV v (a++b)):AllV v a∧AllV v b:=⟨fun e he=>h e (Jh _ he),fun e he=>h e (Jg _ he)⟩
theorem Qbp4 (fns:List Fn)(k:Nat)(op:Int)(name:List UInt8)(args:List Ex)(s:Ck):(stC fns k op name args s).n=s.n+if op=1 then 1 else 0:=by
 unfold stC;split
 ·rename_i h;simp[h]
 ·rename_i h
  split <;> simp[h]
mutual
theorem St.ck_nr (fns:List Fn)(k:Nat):∀(x:St) (s:Ck),(x.ck fns k s).n=s.n+x.lets
 |.mk op name args body els,s=>by
  simp only[St.ck,St.lets];rw[Qagl fns k els,Qagl fns k body,Qbp4];omega
theorem Qagl (fns:List Fn)(k:Nat):∀(l:List St) (s:Ck),(Qau fns k l s).n=s.n+Qac l
 |[],s=>by simp[Qau,Qac]
 |x::r,s=>by
  simp only[Qau,Qac];rw[Qagl fns k r,St.ck_nr fns k x];omega
end
theorem Qbli (w:Lv)(d:Int)(fi:List UInt8→Int)(op:Int)(name:List UInt8)(args:List Ex) :
  (w.one d fi op name args).v=(if op=1 then Qbq w.v name w.next else w.v)∧(w.one d fi op name args).next=w.next+if op=1 then 1 else 0:=by
 unfold Lv.one;by_cases h1:op=1
 ·simp only[h1,if_true];exact⟨trivial,trivial⟩
 ·simp only[h1,if_false];split
  ·exact⟨rfl,rfl⟩
  ·split
   ·exact⟨rfl,rfl⟩
   ·split
    ·exact⟨rfl,rfl⟩
    ·split <;> exact⟨rfl,rfl⟩
theorem St.low_v (d:Int)(fi:List UInt8→Int)(x:St)(w:Lv):(x.low d fi w).v=if x.op=1 then Qbq w.v x.name w.next else w.v:=by
 cases x with
 |mk op name args body els=>
  simp only[St.low,St.op,St.name];by_cases h6:op=6
  ·simp only[h6,if_true];rfl
  ·simp only[h6,if_false];by_cases h5:op=5
   ·simp only[h5,if_true];rfl
   ·simp only[h5,if_false];exact (Qbli w d fi op name args).1
theorem Q9a {op:Int}{name:List UInt8}{args:List Ex}{body els:List St}{dp:Int}(h:(St.mk op name args body els).form dp=true) :
  Qay body (dp-1)=true∧Qay els (dp-1)=true∧(op≠5→els=[])∧(op≠5→op≠6→body=[])∧args.length=argN op∧(∀a∈args,a.valid=true)∧(1≤op∧op≤8):=by
 simp only[St.form,Ji,Qadt,decide_eq_true_eq,Ja7,Jal]at h;obtain⟨⟨⟨_,⟨⟨⟨⟨⟨⟨h1,h2⟩,_⟩,_⟩,h3⟩,_⟩,h4⟩,h5⟩,h6⟩,h7⟩:=h;refine⟨h6,h7,fun h=>J4.1 (by omega),fun h h'=>J4.1 (by omega),h2,h3,h1⟩
mutual
theorem St.low_n {d:Int}{fi:List UInt8→Int}:∀(x:St) (dp:Int) (w:Lv),x.form dp=true→(x.low d fi w).next=w.next+x.lets
 |.mk op name args body els,dp,w,hf=>by
  obtain⟨f1,f2,f3,f4,_⟩:=Q9a hf;simp only[St.low,St.lets];by_cases h6:op=6
  ·subst h6;have:=f3 (by decide);subst this;simp only[if_true,Qac];rw[Q8r body _ _ f1];simp
  ·simp only[h6,if_false];by_cases h5:op=5
   ·subst h5;simp only[if_true];rw[Q8r els _ _ f2];simp only[];rw[Q8r body _ _ f1];simp;omega
   ·simp only[h5,if_false];have e1:=f3 h5;have e2:=f4 h5 h6;subst e1;subst e2;simp only[Qac];exact (Qbli w d fi op name args).2
theorem Q8r {d:Int}{fi:List UInt8→Int}:∀(l:List St) (dp:Int) (w:Lv),Qay l dp=true→(Qaa d fi l w).next=w.next+Qac l
 |[],dp,w,_=>by simp[Qaa,Qac]
 |x::r,dp,w,hf=>by
  simp only[Qay,Ji]at hf;simp only[Qaa,Qac];rw[Q8r r dp _ hf.2,St.low_n x dp w hf.1];omega
end
theorem Qbp5 {fns:List Fn}{k:Nat}{op:Int}{name:List UInt8}{args:List Ex}{v:Vars}{n:Nat}(h:(stC fns k op name args ⟨v,0,n⟩).c=0) :
  AllV v (Q7 args)∧(op=2→(v.find name).isSome=true)∧stC fns k op name args ⟨v,0,n⟩=⟨if op=1 then Qbq v name n else v,0,n+if op=1 then 1 else 0⟩:=by
 have h2:Qbk fns k v (Q7 args) 0=0:=by
  unfold stC at h;simp only at h;split at h
  ·exact (fst0_zero.1 h).1
  ·split at h
   ·exact (fst0_zero.1 h).1
   ·exact h
 obtain⟨_,h4⟩:=partsC_zero.1 h2;refine⟨fun e he ho=>?_,fun ho=>?_,?_⟩
 ·have:=h4 e he;rw[Qgi,if_pos ho]at this
  cases hs:(v.find e.name).isSome with
  |true=>rfl
  |false=>rw[hs]at this;simp at this
 ·unfold stC at h;simp only[ho]at h;have:=(fst0_zero.1 h).2
  cases hs:(v.find name).isSome with
  |true=>rfl
  |false=>rw[hs]at this;simp at this
 ·unfold stC at h⊢;simp only at h⊢;by_cases h1:op=1
  ·simp only[h1,if_true]at h⊢;rw[h]
  ·simp only[h1,if_false]at h⊢;by_cases h3:op=2
   ·simp only[h3,if_true]at h⊢;rw[h];rfl
   ·simp only[h3,if_false]at h⊢;rw[h];rfl
theorem VOk.st {v:Vars}{n:Nat}(h:VOk v n)(op:Int)(name:List UInt8):VOk (if op=1 then Qbq v name n else v) (n+if op=1 then 1 else 0):=by
 by_cases h1:op=1
 ·simp only[h1,if_true];exact h.put name
 ·simp only[h1,if_false];exact h
theorem Qa60 {fns:List Fn}{k:Nat}{op:Int}{name:List UInt8}{args:List Ex}{body els:List St}{v:Vars}{n:Nat}(h:((St.mk op name args body els).ck fns k ⟨v,0,n⟩).c=0) :
  AllV v (Q7 args)∧(op=2→(v.find name).isSome=true)∧
  (Qau fns k body ⟨[]::(if op=1 then Qbq v name n else v),0,n+if op=1 then 1 else 0⟩).c=0∧
  (Qau fns k els ⟨[]::(if op=1 then Qbq v name n else v),0,(n+if op=1 then 1 else 0)+Qac body⟩).c=0∧
  (St.mk op name args body els).ck fns k ⟨v,0,n⟩=⟨if op=1 then Qbq v name n else v,0,n+(St.mk op name args body els).lets⟩:=by
 have hn:=St.ck_nr fns k (.mk op name args body els) ⟨v,0,n⟩;have hc:=h;simp only[St.ck]at h;have h1:=(Qea els h).1;simp only at h1;have h2:=(Qea body h1).1;simp only at h2;obtain⟨a1,a2,a3⟩:=Qbp5 h2;rw[a3]at h h1;simp only at h h1;have hbn:=Qagl fns k body ⟨[]::(if op=1 then Qbq v name n else v),0,n+if op=1 then 1 else 0⟩;simp only at hbn;rw[h1,hbn]at h;refine⟨a1,a2,h1,h,?_⟩;have hv:((St.mk op name args body els).ck fns k ⟨v,0,n⟩).v=if op=1 then Qbq v name n else v:=by
  simp only[St.ck];rw[a3]
 generalize (St.mk op name args body els).ck fns k ⟨v,0,n⟩=R at *;obtain⟨rv,rc,rn⟩:=R;simp only at hv hc hn;rw[hv,hc,hn]
theorem Qbk0 {fns:List Fn}{k:Nat}{x:St}{r:List St}{v:Vars}{n:Nat}(h:(Qau fns k (x::r) ⟨v,0,n⟩).c=0) :
  (x.ck fns k ⟨v,0,n⟩).c=0∧(Qau fns k r ⟨if x.op=1 then Qbq v x.name n else v,0,n+x.lets⟩).c=0:=by
 simp only[Qau]at h;have h1:=(Qea r h).1;refine⟨h1,?_⟩
 cases x with
 |mk op name args body els=>
  rw[(Qa60 h1).2.2.2.2]at h;exact h
def parW (ps:List (List UInt8))(v:Vars)(n:Nat):Vars×Nat:=ps.foldl (fun s p=>(Qbq s.1 p s.2,s.2+1)) (v,n)
theorem Qbe6:∀(ps:List (List UInt8)) (v:Vars) (n:Nat),VOk v n→VOk (parW ps v n).1 (parW ps v n).2∧(parW ps v n).2=n+ps.length
 |[],v,n,h=>⟨h,rfl⟩
 |p::r,v,n,h=>by
  obtain⟨h1,h2⟩:=Qbe6 r _ _ (h.put p);refine⟨h1,?_⟩;have:parW (p::r) v n=parW r (Qbq v p n) (n+1):=rfl;rw[this,h2,Jp];omega
theorem Qbe4:∀(ps:List (List UInt8)) (v:Vars) (n:Nat),(Qut ps ⟨v,0,n⟩).c=0→Qut ps ⟨v,0,n⟩=⟨(parW ps v n).1,0,(parW ps v n).2⟩
 |[],v,n,h=>rfl
 |p::r,v,n,h=>by
  have e:Qut (p::r) ⟨v,0,n⟩=Qut r ⟨Qbq v p n,Qcy 0 (if Qfd v p then 2 else 0),n+1⟩:=rfl;rw[e]at h⊢;have h0:=Qayk h;simp only at h0;rw[h0]at h⊢;exact Qbe4 r _ _ h
theorem vok0:VOk [[]] 0:=⟨by simp,by simp⟩
theorem FineP.fn {fns:List Fn}(h:FineP fns){k:Nat}(hk:k<fns.length) :
  Qut fns[k].params ⟨[[]],0,0⟩=⟨(parV fns[k].params).1,0,fns[k].params.length⟩∧VOk (parV fns[k].params).1 fns[k].params.length∧(Qau fns k fns[k].body ⟨(parV fns[k].params).1,0,fns[k].params.length⟩).c=0∧
   fns[k].params.all Qdb=true∧Qdb fns[k].name=true∧fns[k].params.length≤3∧Qay fns[k].body 4=true:=by
 have hc:=h.c k hk;have h1:=Qbe4 _ _ _ (Qea _ hc).1;obtain⟨h2,h3⟩:=Qbe6 fns[k].params [[]] 0 vok0;rw[Jv]at h3;rw[h3]at h1 h2;have hv:=h.v;simp only[Qqa,Ji,decide_eq_true_eq,Jal]at hv;have hf:=hv.1.2 _ (Jc hk);simp only[Fn.form,Ji,decide_eq_true_eq]at hf;refine⟨h1,h2,?_,hf.1.1.1,hf.1.1.2,hf.1.2,hf.2⟩;rw[h1]at hc;exact hc
def cxs (bs:List BlkD):List Int:=bs.flatMap fun b=>(b.ins.filter fun x=>decide (x.op=14)).map InsD.n
theorem Qat3 {bs:List BlkD}{n:Int}:n∈cxs bs↔∃b∈bs,∃x∈b.ins,x.op=14∧x.n=n:=by
 simp only[cxs,Jan,Jw,List.mem_filter,decide_eq_true_eq,and_assoc]
def Lw.ok (s:Lw):Prop:=s.at_<s.bs.length
theorem Qhe {α:Type}{l:List α}{i:Nat}{f:α→α}{x:α}(hi:i<l.length):x∈l.modify i f↔x=f l[i]∨∃j,∃hj:j<l.length,j≠i∧x=l[j]:=by
 rw[Jae];constructor
 ·rintro⟨j,hj,rfl⟩;rw[List.length_modify]at hj;rw[List.getElem_modify];by_cases h:i=j
  ·subst h;rw[if_pos rfl];exact .inl rfl
  ·rw[if_neg h];exact .inr ⟨j,hj,Ne.symm h,rfl⟩
 ·rintro (rfl|⟨j,hj,hne,rfl⟩)
  ·exact⟨i,by rw[List.length_modify];exact hi,by rw[List.getElem_modify,if_pos rfl]⟩
  ·exact⟨j,by rw[List.length_modify];exact hj,by rw[List.getElem_modify,if_neg (Ne.symm hne)]⟩
theorem Lw.put_len (s:Lw)(op to n:Int)(args:List Int):(s.put op to n args).bs.length=s.bs.length:=by simp[Lw.put]
theorem Lw.put_ok {s:Lw}(h:s.ok)(op to n:Int)(args:List Int):(s.put op to n args).ok:=by
 have:=s.put_len op to n args;unfold Lw.ok at *;rw[this];exact h
theorem Lw.put_cx {s:Lw}(h:s.ok){op to m:Int}{args:List Int}{n:Int}:n∈cxs (s.put op to m args).bs↔n∈cxs s.bs∨(op=14∧n=m):=by
 rw[Qat3,Qat3];constructor
 ·rintro⟨b,hb,x,hx,h1,h2⟩;rcases (Qhe h).1 hb with rfl|⟨j,hj,_,rfl⟩
  ·simp only[Je,Ja]at hx;rcases hx with hx|rfl
   ·exact .inl ⟨_,Jc h,x,hx,h1,h2⟩
   ·exact .inr ⟨h1,h2.symm⟩
  ·exact .inl ⟨_,Jc hj,x,hx,h1,h2⟩
 ·rintro (⟨b,hb,x,hx,h1,h2⟩|⟨rfl,rfl⟩)
  ·obtain⟨j,hj,rfl⟩:=Jax hb;by_cases hji:j=s.at_
   ·refine⟨_,(Qhe h).2 (.inl rfl),x,?_,h1,h2⟩;simp only[Je];subst hji;exact .inl hx
   ·exact⟨_,(Qhe h).2 (.inr ⟨j,hj,hji,rfl⟩),x,hx,h1,h2⟩
  ·refine⟨_,(Qhe h).2 (.inl rfl),⟨14,to,args,n⟩,?_,rfl,rfl⟩;simp only[Je,Ja]
   first|exact .inr rfl|exact .inr trivial
theorem Lw.make_ok {s:Lw}(h:s.ok)(op n:Int)(args:List Int):(s.make op n args).ok:=Lw.put_ok (s:=s.fresh) h _ _ _ _
theorem Lw.make_len (s:Lw)(op n:Int)(args:List Int):(s.make op n args).bs.length=s.bs.length:=Lw.put_len _ _ _ _ _
theorem Lw.make_cx {s:Lw}(h:s.ok){op m:Int}{args:List Int}{n:Int}:n∈cxs (s.make op m args).bs↔n∈cxs s.bs∨(op=14∧n=m):=Lw.put_cx (s:=s.fresh) h
theorem Lw.add_len (s:Lw)(n:Nat):(s.add n).bs.length=s.bs.length+n:=by simp[Lw.add]
theorem Lw.add_ok {s:Lw}(h:s.ok)(n:Nat):(s.add n).ok:=by
 have:=s.add_len n;unfold Lw.ok at *;rw[this];exact Nat.lt_of_lt_of_le h (Ja5 _ _)
theorem Lw.add_cx {s:Lw}{m:Nat}{n:Int}:n∈cxs (s.add m).bs↔n∈cxs s.bs:=by
 have:(s.add m).bs=s.bs++List.replicate m blk0:=rfl;rw[this,cxs,Jau,Je];constructor
 ·rintro (h|h)
  ·exact h
  ·rw[Jan]at h;obtain⟨b,hb,h⟩:=h;rw[List.eq_of_mem_replicate hb]at h;simp[blk0]at h
 ·exact .inl
theorem Lw.jump_len (s:Lw)(k o:Int)(nx:List Int)(a:Nat):(s.jump k o nx a).bs.length=s.bs.length:=by simp[Lw.jump]
theorem Lw.jump_ok {s:Lw}{k o:Int}{nx:List Int}{a:Nat}(h:a<s.bs.length):(s.jump k o nx a).ok:=by
 have:=s.jump_len k o nx a;unfold Lw.ok;rw[this];exact h
theorem Lw.jump_cx {s:Lw}(h:s.ok){k o:Int}{nx:List Int}{a:Nat}{n:Int}:n∈cxs (s.jump k o nx a).bs↔n∈cxs s.bs:=by
 rw[Qat3,Qat3];constructor
 ·rintro⟨b,hb,x,hx,h1,h2⟩;rcases (Qhe h).1 hb with rfl|⟨j,hj,_,rfl⟩
  ·exact⟨_,Jc h,x,hx,h1,h2⟩
  ·exact⟨_,Jc hj,x,hx,h1,h2⟩
 ·rintro⟨b,hb,x,hx,h1,h2⟩;obtain⟨j,hj,rfl⟩:=Jax hb;by_cases hji:j=s.at_
  ·refine⟨_,(Qhe h).2 (.inl rfl),x,?_,h1,h2⟩;subst hji;exact hx
  ·exact⟨_,(Qhe h).2 (.inr ⟨j,hj,hji,rfl⟩),x,hx,h1,h2⟩
structure Cx (fi:List UInt8→Int)(l:List Ex)(s s':Lw):Prop where
 ok:s'.ok
 len:s.bs.length≤s'.bs.length
 cx:∀n,n∈cxs s'.bs↔n∈cxs s.bs∨∃e∈l,e.op=13∧n=fi e.name
theorem Cx.trans {fi:List UInt8→Int}{a b:List Ex}{s s' s'':Lw}(h:Cx fi a s s')(k:Cx fi b s' s''):Cx fi (a++b) s s'':=by
 refine⟨k.ok,Jar h.len k.len,fun n=>?_⟩;rw[k.cx,h.cx];constructor
 ·rintro ((h1|⟨e,he,h1⟩)|⟨e,he,h1⟩)
  ·exact .inl h1
  ·exact .inr ⟨e,Jh _ he,h1⟩
  ·exact .inr ⟨e,Jg _ he,h1⟩
 ·rintro (h1|⟨e,he,h1⟩)
  ·exact .inl (.inl h1)
  ·rcases Je.1 he with he|he
   ·exact .inl (.inr ⟨e,he,h1⟩)
   ·exact .inr ⟨e,he,h1⟩
theorem Cx.refl {fi:List UInt8→Int}{s:Lw}(h:s.ok):Cx fi [] s s:=⟨h,Jk _,fun n=>by simp⟩
theorem Cx.put {fi:List UInt8→Int}{l:List Ex}{s s':Lw}(h:Cx fi l s s'){op to m:Int}{args:List Int}(ho:op≠14):Cx fi l s (s'.put op to m args):=
 ⟨Lw.put_ok h.ok _ _ _ _,by rw[Lw.put_len];exact h.len,fun n=>by rw[Lw.put_cx h.ok,h.cx];simp[ho]⟩
theorem Cx.make {fi:List UInt8→Int}{l:List Ex}{s s':Lw}(h:Cx fi l s s'){op m:Int}{args:List Int}(ho:op≠14):Cx fi l s (s'.make op m args):=
 ⟨Lw.make_ok h.ok _ _ _,by rw[Lw.make_len];exact h.len,fun n=>by rw[Lw.make_cx h.ok,h.cx];simp[ho]⟩
theorem Cx.add {fi:List UInt8→Int}{l:List Ex}{s s':Lw}(h:Cx fi l s s')(m:Nat):Cx fi l s (s'.add m):=
 ⟨Lw.add_ok h.ok _,by rw[Lw.add_len];exact Jar h.len (Ja5 _ _),fun n=>by rw[Lw.add_cx,h.cx]⟩
theorem Cx.jump {fi:List UInt8→Int}{l:List Ex}{s s':Lw}(h:Cx fi l s s'){k o:Int}{nx:List Int}{a:Nat}(ha:a<s'.bs.length):Cx fi l s (s'.jump k o nx a):=
 ⟨Lw.jump_ok ha,by rw[Lw.jump_len];exact h.len,fun n=>by rw[Lw.jump_cx h.ok,h.cx]⟩
theorem Cx.same {fi:List UInt8→Int}{l l':List Ex}{s s':Lw}(h:Cx fi l s s')(hl:∀e,e.op=13→(e∈l↔e∈l')):Cx fi l' s s':=
 ⟨h.ok,h.len,fun n=>by
  rw[h.cx];constructor
  ·rintro (h1|⟨e,he,h1⟩)
   ·exact .inl h1
   ·exact .inr ⟨e,(hl e h1.1).1 he,h1⟩
  ·rintro (h1|⟨e,he,h1⟩)
   ·exact .inl h1
   ·exact .inr ⟨e,(hl e h1.1).2 he,h1⟩⟩
theorem Qbdm {op n:Int}{name:List UInt8}{kids:List Ex}{d:Int}(h:(Ex.mk op n name kids).form d=true) :
  Qdn kids (d-1)=true∧(op=1∨op=2→kids=[])∧(op=10→kids.length=2)∧1≤op∧op≤13:=by
 simp only[Ex.form,Qag1,Ji,decide_eq_true_eq]at h;obtain⟨⟨_,⟨⟨⟨⟨⟨h1,h2⟩,_⟩,_⟩,_⟩,_⟩⟩,h3⟩:=h;refine⟨h3,fun ho=>?_,fun ho=>?_,h1.1,h1.2⟩
 ·simp only[Qdw,ho,if_true]at h2;exact J4.1 (by omega)
 ·subst ho;simp[Qdw,Qec]at h2;omega
mutual
theorem Ex.low_cx {rg fi:List UInt8→Int}:∀(x:Ex) (d:Int) (s:Lw),x.form d=true→s.ok→Cx fi x.pre s (x.low rg fi s).1
 |.mk op n name kids,d,s,hf,hs=>by
  obtain⟨f1,f2,f3,f4,f5⟩:=Qbdm hf;simp only[Ex.low,Ex.pre];have hself:∀l,¬op=13→∀e:Ex,e.op=13→(e∈l↔e∈Ex.mk op n name kids::l):=fun l h e he=>by
   rw[Ju];constructor
   ·exact .inr
   ·rintro (rfl|h')
    ·exact absurd he h
    ·exact h'
  by_cases h1:op=1
  ·simp only[h1,if_true];have:=f2 (.inl h1);subst this;subst h1;simp only[Q7];exact ((Cx.refl hs).make (by decide)).same (hself [] (by decide))
  ·simp only[h1,if_false];by_cases h2:op=2
   ·simp only[h2,if_true];have:=f2 (.inr h2);subst this;subst h2;simp only[Q7];exact (Cx.refl hs).same (hself [] (by decide))
   ·simp only[h2,if_false];by_cases h3:op=10
    ·subst h3;simp only[if_true];exact (Qbde kids (d-1) s f1 (f3 rfl) hs).same (hself _ (by decide))
    ·simp only[h3,if_false];have hk:=Quu kids (d-1) s f1 hs (rg:=rg) (fi:=fi);by_cases h4:op=13
     ·subst h4;simp only[if_true];refine⟨Lw.make_ok hk.ok _ _ _,by rw[Lw.make_len];exact hk.len,fun m=>?_⟩;rw[Lw.make_cx hk.ok,hk.cx];have eo:Q9t 13=14:=(by decide);simp only[eo,true_and,Ju];constructor
      ·rintro ((h|⟨e,he,h⟩)|h)
       ·exact .inl h
       ·exact .inr ⟨e,.inr he,h⟩
       ·exact .inr ⟨_,.inl rfl,rfl,h⟩
      ·rintro (h|⟨e,rfl|he,h⟩)
       ·exact .inl (.inl h)
       ·exact .inr h.2
       ·exact .inl (.inr ⟨e,he,h⟩)
     ·have eo:Q9t op≠14:=by
       unfold Q9t;by_cases q1:op=11
       ·simp[q1]
       ·by_cases q2:op=12
        ·simp[q2]
        ·simp only[q1,q2,h4,if_false];omega
      exact (hk.make eo).same (hself _ h4)
theorem Quu {rg fi:List UInt8→Int}:∀(l:List Ex) (d:Int) (s:Lw),Qdn l d=true→s.ok→Cx fi (Q7 l) s (Qah rg fi l s).1
 |[],d,s,_,hs=>by simp only[Q7,Qah];exact .refl hs
 |x::r,d,s,hf,hs=>by
  simp only[Qdn,Ji]at hf;simp only[Q7,Qah];have h1:=Ex.low_cx x d s hf.1 hs (rg:=rg) (fi:=fi);exact h1.trans (Quu r d _ hf.2 h1.ok)
theorem Qbde {rg fi:List UInt8→Int}:∀(l:List Ex) (d:Int) (s:Lw),Qdn l d=true→l.length=2→s.ok→Cx fi (Q7 l) s (Q29 rg fi l s).1
 |[],d,s,_,hl,_=>by simp at hl
 |x::r,d,s,hf,hl,hs=>by
  simp only[Qdn,Ji]at hf;simp only[Q7,Q29];have h1:=Ex.low_cx x d s hf.1 hs (rg:=rg) (fi:=fi);have h2:=((h1.make (op:=1) (m:=0) (args:=[]) (by decide)).add 2).jump (k:=2) (o:=(x.low rg fi s).2) (nx:=[((x.low rg fi s).1.bs.length:Int),((x.low rg fi s).1.bs.length:Int)+1]) (a:=(x.low rg fi s).1.bs.length) (by rw[Lw.add_len,Lw.make_len];omega);exact h2.trans (Qa8r r d _ _ _ hf.2 (by simpa using hl) h2.ok (by rw[Lw.jump_len,Lw.add_len,Lw.make_len];omega))
theorem Qa8r {rg fi:List UInt8→Int}:∀(l:List Ex) (d:Int) (t:Int) (right:Nat) (s:Lw),Qdn l d=true→l.length=1→s.ok→right+1<s.bs.length→Cx fi (Q7 l) s (Qps rg fi t right l s)
 |[],d,t,right,s,_,hl,_,_=>by simp at hl
 |x::r,d,t,right,s,hf,hl,hs,hr=>by
  simp only[Qdn,Ji]at hf;have:r=[]:=J4.1 (by simpa using hl);subst this;simp only[Q7,Qps,J1];have h1:=Ex.low_cx x d s hf.1 hs (rg:=rg) (fi:=fi);have hl1:=h1.len;exact ((h1.make (op:=10) (m:=0) (by decide)).put (op:=10) (by decide)).jump (by rw[Lw.put_len,Lw.make_len];omega)
end
theorem Qa2c {l:List Ex}(h:∀a∈l,a.valid=true):Qdn l 6=true:=by
 rw[Q4d,Jal];intro a ha;have:=h a ha;simp only[Ex.valid,Ji]at this;exact this.1
theorem Qbpk {w:Lv}{d:Int}{fi:List UInt8→Int}{op:Int}{name:List UInt8}{args:List Ex}(hf:Qdn args 6=true)(hs:w.s.ok):Cx fi (Q7 args) w.s (w.one d fi op name args).s:=by
 have h1:=Quu (rg:=Qbf w.v d) (fi:=fi) args 6 w.s hf hs;unfold Lv.one;by_cases a1:op=1
 ·simp only[a1,if_true];exact h1.put (by decide)
 ·simp only[a1,if_false];by_cases a2:op=2
  ·simp only[a2,if_true];exact h1.put (by decide)
  ·simp only[a2,if_false];by_cases a3:op=3
   ·simp only[a3,if_true];exact h1.put (by decide)
   ·simp only[a3,if_false];by_cases a4:op=4
    ·simp only[a4,if_true];exact h1.put (by decide)
    ·simp only[a4,if_false];by_cases a7:op=7
     ·simp only[a7,if_true];exact (h1.add 1).jump (by rw[Lw.add_len];omega)
     ·simp only[a7,if_false];exact h1
mutual
theorem St.low_cx {d:Int}{fi:List UInt8→Int}:∀(x:St) (dp:Int) (w:Lv),x.form dp=true→w.s.ok→Cx fi x.pre w.s (x.low d fi w).s
 |.mk op name args body els,dp,w,hf,hs=>by
  obtain⟨f1,f2,f3,f4,f5,f6,f7⟩:=Q9a hf;have fa:=Qa2c f6;simp only[St.low,St.pre];by_cases h6:op=6
  ·subst h6;have:=f3 (by decide);subst this;simp only[if_true,Qbn,J1];have e1:args.take 1=args:=Jd (by rw[f5];decide);rw[e1];have h0:=((Cx.refl (fi:=fi) hs).add 3).jump (k:=1) (o:=0) (nx:=[(w.s.bs.length:Int)]) (a:=w.s.bs.length) (by rw[Lw.add_len];omega);have h1:=Quu (rg:=Qbf w.v d) (fi:=fi) args 6 _ fa h0.ok;have hl1:=h1.len;rw[Lw.jump_len,Lw.add_len]at hl1;have h2:=(h0.trans h1).jump (k:=2) (o:=(Qah (Qbf w.v d) fi args ((w.s.add 3).jump 1 0 [(w.s.bs.length:Int)] w.s.bs.length)).2.getD 0 0) (nx:=[(w.s.bs.length:Int)+1,(w.s.bs.length:Int)+2]) (a:=w.s.bs.length+1) (by omega);rw[Jm]at h2;have step:∀(l0:List Ex) (s3:Lw),Cx fi l0 w.s s3→w.s.bs.length+3≤s3.bs.length→Cx fi (l0++Qbn body) w.s ((Qaa d fi body ⟨s3,[]::w.v,w.next⟩).s.jump 1 0 [(w.s.bs.length:Int)] (w.s.bs.length+2)):=fun l0 s3 hc hl=>by
    have h3:=Qzz (d:=d) (fi:=fi) body (dp-1) ⟨s3,[]::w.v,w.next⟩ f1 hc.ok;have hl3:s3.bs.length≤_:=h3.len;exact (hc.trans h3).jump (by omega)
   exact step _ _ h2 (by rw[Lw.jump_len];exact hl1)
  ·simp only[h6,if_false];by_cases h5:op=5
   ·subst h5;simp only[if_true];have h1:=Quu (rg:=Qbf w.v d) (fi:=fi) args 6 w.s fa hs;have h2:=(h1.add 3).jump (k:=2) (o:=(Qah (Qbf w.v d) fi args w.s).2.getD 0 0) (nx:=[((Qah (Qbf w.v d) fi args w.s).1.bs.length:Int),((Qah (Qbf w.v d) fi args w.s).1.bs.length:Int)+1]) (a:=(Qah (Qbf w.v d) fi args w.s).1.bs.length) (by rw[Lw.add_len];omega);have step:∀(l0:List Ex) (s3:Lw) (n:Nat),Cx fi l0 w.s s3→n+3≤s3.bs.length→
      Cx fi (l0++(Qbn body++Qbn els)) w.s ((Qaa d fi els ⟨(Qaa d fi body ⟨s3,[]::w.v,w.next⟩).s.jump 1 0 [(n:Int)+2] (n+1),[]::w.v,(Qaa d fi body ⟨s3,[]::w.v,w.next⟩).next⟩).s.jump 1 0 [(n:Int)+2] (n+2)):=fun l0 s3 n hc hl=>by
     have h3:=Qzz (d:=d) (fi:=fi) body (dp-1) ⟨s3,[]::w.v,w.next⟩ f1 hc.ok;have hl3:s3.bs.length≤_:=h3.len;have h4:=(hc.trans h3).jump (k:=1) (o:=0) (nx:=[(n:Int)+2]) (a:=n+1) (by omega);have h5:=Qzz (d:=d) (fi:=fi) els (dp-1) ⟨(Qaa d fi body ⟨s3,[]::w.v,w.next⟩).s.jump 1 0 [(n:Int)+2] (n+1),[]::w.v,(Qaa d fi body ⟨s3,[]::w.v,w.next⟩).next⟩ f2 h4.ok;have hl5:((Qaa d fi body ⟨s3,[]::w.v,w.next⟩).s.jump 1 0 [(n:Int)+2] (n+1)).bs.length≤_:=h5.len;rw[Lw.jump_len]at hl5;rw[←Jo];exact (h4.trans h5).jump (by omega)
    rw[Jo];exact step _ _ _ h2 (by rw[Lw.jump_len,Lw.add_len];omega)
   ·simp only[h5,if_false];have e1:=f3 h5;have e2:=f4 h5 h6;subst e1;subst e2;simp only[Qbn,J1];exact Qbpk fa hs
theorem Qzz {d:Int}{fi:List UInt8→Int}:∀(l:List St) (dp:Int) (w:Lv),Qay l dp=true→w.s.ok→Cx fi (Qbn l) w.s (Qaa d fi l w).s
 |[],dp,w,_,hs=>by simp only[Qbn,Qaa];exact .refl hs
 |x::r,dp,w,hf,hs=>by
  simp only[Qay,Ji]at hf;simp only[Qbn,Qaa];have h1:=St.low_cx (d:=d) (fi:=fi) x dp w hf.1 hs;exact h1.trans (Qzz r dp _ hf.2 h1.ok)
end
theorem Qbei {fns:List Fn}(h:FineP fns)(d:Int){k:Nat}(hk:k<fns.length)(n:Int):n∈cxs (Qlj d fns fns[k]).blocks↔∃j:Nat,n=(j:Int)∧Cls fns k j:=by
 obtain⟨a1,a2,a3,a4,a5,a6,a7⟩:=h.fn hk;have h0:(⟨⟨(fns[k].params.length:Int)+Qac fns[k].body,[blk0],0⟩,(parV fns[k].params).1,fns[k].params.length⟩:Lv).s.ok:=by show 0<1;omega
 have h1:=Qzz (d:=d) (fi:=Qb9 fns) fns[k].body 4 ⟨⟨(fns[k].params.length:Int)+Qac fns[k].body,[blk0],0⟩,(parV fns[k].params).1,fns[k].params.length⟩ a7 h0;have h2:=(h1.make (op:=1) (m:=0) (args:=[]) (by decide)).jump (k:=3) (o:=(Qaa d (Qb9 fns) fns[k].body ⟨⟨(fns[k].params.length:Int)+Qac fns[k].body,[blk0],0⟩,(parV fns[k].params).1,fns[k].params.length⟩).s.regs) (nx:=[]) (a:=(Qaa d (Qb9 fns) fns[k].body ⟨⟨(fns[k].params.length:Int)+Qac fns[k].body,[blk0],0⟩,(parV fns[k].params).1,fns[k].params.length⟩).s.at_) (by rw[Lw.make_len];exact h1.ok);have h3:=h2.cx n;have e0:n∈cxs [blk0]↔False:=by simp[cxs,blk0]
 unfold Qlj;simp only[];rw[h3,e0,false_or];constructor
 ·rintro⟨e,he,ho,rfl⟩;obtain⟨j,hj,hl,hn,_⟩:=h.call hk he ho;refine⟨j,?_,hk,hl,e,he,ho,hn.symm⟩;rw[Qb9,←hn,h.ix j hl]
 ·rintro⟨j,rfl,_,hl,e,he,ho,hn⟩;exact⟨e,he,ho,by rw[Qb9,hn,h.ix j hl]⟩
open Go.Proofs.Tryz
variable {F H:Heap}{w:Nat}{s:LS}{K:V→Heap→Prop}
def intB (l:List (List C)):List Int:=l.map fun r=>match r with
 |[.int _ n]=>n
 |_=>0
theorem Qbmy (l:List Int):intB (Qk l)=l:=by
 induction l with
 |nil=>rfl
 |cons x r ih=>exact congrArg (x::·) ih
def rowI (r:List C):InsD:=match r with
 |[.int _ op,.int _ to,.sl _ _ a,.int _ n]=>⟨op,to,intB a,n⟩
 |_=>⟨0,0,[],0⟩
theorem Qa26 (op to n:Int)(fl:Bool)(args:List Int):rowI [.int .i64 op,.int .i64 to,.sl fl 1 (Qk args),.int .i64 n]=⟨op,to,args,n⟩:=by simp only[rowI,Qbmy]
def Blk.d (b:Blk):BlkD:=⟨[],b.irows.map rowI,b.jump,b.on,b.next⟩
def LS.d (s:LS):Lw:=⟨s.regs,s.blocks.map Blk.d,s.at_⟩
theorem LS.dlen (s:LS):s.blocks.length=s.d.bs.length:=by simp[LS.d]
structure LTo (s:LS)(l:Lw)(rows:List (List C))(n:Int):Prop where
 d:s.d=l
 vars:s.vars=rows
 next:s.next=n
theorem LTo.refl (s:LS):LTo s s.d s.vars s.next:=⟨rfl,rfl,rfl⟩
theorem Q0j {α β:Type}(f:α→β)(g:β→β)(l:List α)(i:Nat)(x:α)(h:∀hi:i<l.length,f x=g (f l[i])):(l.set i x).map f=(l.map f).modify i g:=by
 refine List.ext_getElem? fun j=>?_;rw[Ja1,List.getElem?_set,List.getElem?_modify,Ja1];by_cases e:i=j
 ·subst e;by_cases hi:i<l.length
  ·simp[hi,h hi]
  ·simp[hi,List.getElem?_eq_none (Nat.le_of_not_lt hi)]
 ·simp[e]
theorem LInv.addInsX {K:V→Heap→Prop}{y i:Nat}{fl:Bool}{r:List C}(h:LInv F H w s)(hi:i<s.blocks.length)(hbc:s.bc=.vsl y 5 0 s.blocks.length)(hlb:s.lb=[(y,.vec 5 (s.blocks.map Blk.row))])
  (hr:InsRow r) (hl:s.blocks[i].irows.length+1≤LIM)
  (hK:∀(z:Nat) (H1:Heap),H1 w=s.o→H1 y=.vec 5 (s.blocks.map Blk.row)→
   (∀H2,H2=H1.set y (.vec 5 ((s.blocks.map Blk.row).set i (Blk.row { s.blocks[i]with ic:=.vsl z 4 0 (s.blocks[i].irows.length+1) })))→
    ∃b':Blk,b'.irows.length=s.blocks[i].irows.length+1∧b'.d={ s.blocks[i].d with ins:=s.blocks[i].d.ins++[rowI r] }∧LInv F H2 w { s with lb:=[(y,.vec 5 ((s.blocks.set i b').map Blk.row))],blocks:=s.blocks.set i b' })→K (.c (.vsl z 4 0 (s.blocks[i].irows.length+1))) H1) :
  appQ H 4 s.blocks[i].ic (.sl fl 4 [r]) K:=by
 have hm:=Jc hi;have kn:=h.kn;simp only[LS.L]at kn;have kn:Kn F H [] (([(w,s.o)]++(s.lb++(s.lv++(s.blocks.eraseIdx i).flatMap Blk.lg)))++s.blocks[i].lg):=kn.perm (by
  have h1:(s.blocks.flatMap Blk.lg).Perm ((s.blocks.eraseIdx i).flatMap Blk.lg++s.blocks[i].lg):=(Qag6 Blk.lg s.blocks i hi).trans Jl;refine ((h1.append_left _).append_left _ |>.append_left _).trans ?_;simp only[Jo];exact .refl _)
 refine kn.grow (h.gi _ hm) (.mk' _ _ _ _) (by intro r' hr';simp only[Ja]at hr';subst hr';exact hr.noOw) (by simpa using hl) fun z H1 kn=>?_;have e1:s.blocks[i].irows.length+[r].length=s.blocks[i].irows.length+1:=by simp
 rw[e1];simp only[hlb]at kn;refine hK z H1 (kn.l 0 rfl) (kn.l 1 rfl) fun H2 h2=>?_;refine⟨{ s.blocks[i]with ic:=.vsl z 4 0 (s.blocks[i].irows.length+1),irows:=s.blocks[i].irows++[r],lg:=[(z,.vec 4 (s.blocks[i].irows++[r]))] },by simp,by simp[Blk.d],?_⟩;have hrow:Blk.row { s.blocks[i]with ic:=.vsl z 4 0 (s.blocks[i].irows.length+1) }=Blk.row { s.blocks[i]with ic:=.vsl z 4 0 (s.blocks[i].irows.length+1),irows:=s.blocks[i].irows++[r],lg:=[(z,.vec 4 (s.blocks[i].irows++[r]))] }:=rfl;rw[hrow,Qp9]at h2;refine⟨?_,?_,h.gv,fun b hb=>?_,fun b hb=>?_,h.rv⟩
 ·have kn:=kn.stL 1 (x:=y) rfl h2;refine kn.perm ?_;simp only[LS.L];have h1:=(Qagd Blk.lg s.blocks i { s.blocks[i]with ic:=.vsl z 4 0 (s.blocks[i].irows.length+1),irows:=s.blocks[i].irows++[r],lg:=[(z,.vec 4 (s.blocks[i].irows++[r]))] } hi).symm;have h3:=(Jl.trans h1).append_left ([(w,s.o)]++([(y,Obj.vec 5 ((s.blocks.set i { s.blocks[i]with ic:=.vsl z 4 0 (s.blocks[i].irows.length+1),irows:=s.blocks[i].irows++[r],lg:=[(z,.vec 4 (s.blocks[i].irows++[r]))] }).map Blk.row))]++s.lv));refine List.Perm.trans ?_ (h3.trans ?_)
  ·simp only[List.set,Jj,Jm,Jo];exact .refl _
  ·simp only[Jj,Jm];exact .refl _
 ·simp only[hbc];exact .mk _ _ _ (by simp)
 ·rcases Qbu hb with rfl|hb
  ·exact .mk _ _ _ (by simp)
  ·exact h.gi b hb
 ·rcases Qbu hb with rfl|hb
  ·intro r' hr';rcases Je.1 hr' with hr'|hr'
   ·exact h.ri _ hm r' hr'
   ·simp at hr';subst hr';exact hr
  ·exact h.ri b hb
theorem Qu5 {N:Nat}(h:LInv F H w s)(hok:s.ok N)(hN:N+1≤2^38)(hK:∀(s':LS) (H':Heap),LInv F H' w s'→LStep s s' 1→LTo s' s.d.fresh s.vars s.next→K (.c (.int .i64 s.regs)) H') :
  Ql prog Qbd [.c (.ptr w 0)] H K:=by
 have hw:=h.hw;have h0:=hok.r0;have h1:=hok.r1;refine Qb Qai Qaux ?_;refine Qa ?_;simp only[go_sem];refine Qa ?_;simp only[go_sem,hw,LS.o];refine⟨Qo (by omega) (by omega),fun H1 h1'=>?_⟩;have h':LInv F H1 w { s with regs:=s.regs+1 }:=h.setw h1' rfl rfl rfl rfl h.gv h.rv;have hw1:=h'.hw;refine Qa ?_;simp only[go_sem,hw1,LS.o];refine⟨Qo (by omega) (by omega),?_⟩;refine Qi ?_;simp only[go_sem,Qs,Q6,Qer,Ja,forall_eq,RS.op];refine hK _ H1 h' ⟨Jk _,fun M hM=>⟨?_,?_,hM.n0,?_,?_,?_,?_⟩,Jk _,fun h=>h,rfl,rfl,rfl⟩ ⟨rfl,rfl,rfl⟩
 ·have:=hM.r0;show 0≤s.regs+1;omega
 ·have:=hM.r1;show s.regs+1≤_;omega
 ·have:=hM.n1;show s.next≤_;omega
 ·have:=hM.b1;show s.blocks.length≤_;omega
 ·intro b hb;have:=hM.i1 b hb;omega
 ·have:=hM.v1;show s.vars.length≤_;omega
theorem Qhv {N:Nat}(h:LInv F H w s)(hok:s.ok N)(hN:N+1≤2^38)(hK:∀(s':LS) (H':Heap),LInv F H' w s'→LStep s s' 1→s.blocks.length<s'.blocks.length→LTo s' (s.d.add 1) s.vars s.next→K (.c (.int .i64 s.blocks.length)) H') :
  Ql prog Qa1 [.c (.ptr w 0)] H K:=by
 have hw:=h.hw;have hb1:=hok.b1;have hbow:=h.gb.isOw;refine Qb Qai Qauw ?_;refine Qa ?_;simp only[go_sem];refine Qa ?_;simp only[go_sem,hw,LS.o,hbow];refine h.addBlk (b:=⟨.sl true 4 [],[],[],0,0,true,[]⟩) (by simp only[LIM];omega) rfl rfl rfl fun y H1 hw1 cont=>?_;simp only[go_sem,Qsf,hw1,LS.o];intro H2 h2;have h':=cont H2 h2;have hw2:=h'.hw;obtain⟨y2,hv1,hv2,hv3⟩:=h'.bvec (by simp);simp only[C.vsl.injEq]at hv1;obtain⟨rfl,_⟩:=hv1;refine Qa ?_;simp only[go_sem,hw2,LS.o,hv3,Jx,Jy];refine⟨by omega,fun hl=>⟨Qo (by omega) (by omega),?_⟩⟩;refine Qi ?_;simp only[go_sem,Qs,Q6,Qer,Ja,forall_eq,RS.op];have e1:(((s.blocks.length+1:Nat):Int)-1)=s.blocks.length:=by omega
 rw[e1];refine hK _ H2 h' ⟨by simp,fun M hM=>⟨hM.r0,?_,hM.n0,?_,?_,?_,?_⟩,Jk _,fun ha=>by simp;show s.at_<_;omega,rfl,rfl,rfl⟩ (by simp) ⟨by simp[LS.d,Lw.add,Blk.d,blk0],rfl,rfl⟩
 ·have:=hM.r1;show s.regs≤_;omega
 ·have:=hM.n1;show s.next≤_;omega
 ·have:=hM.b1;simp;omega
 ·intro b hb;rcases Je.1 hb with hb|hb
  ·have:=hM.i1 b hb;omega
  ·simp at hb;subst hb;simp
 ·have:=hM.v1;show s.vars.length≤_;omega
theorem Q9w {N:Nat}{op to n:Int}{fl:Bool}{args:List Int}(h:LInv F H w s)(hat:s.at_<s.blocks.length)(hok:s.ok N)(hN:N+1≤2^38)
  (hK:∀(s':LS) (H':Heap),LInv F H' w s'→LStep s s' 1→LTo s' (s.d.put op to n args) s.vars s.next→K (.c (.int .i64 to)) H') :
  Ql prog Qaz [.c (.ptr w 0),.c (.int .i64 op),.c (.int .i64 to),.c (.int .i64 n),.c (.sl fl 1 (Qk args))] H K:=by
 have hw:=h.hw;obtain⟨y,hbc,hlb,hy⟩:=h.bvec (by omega);have hm:=Jc hat;have hi1:=hok.i1 _ hm;have hiow:=(h.gi _ hm).isOw;have hg1:List.getD (List.map Blk.row s.blocks) s.at_ []=s.blocks[s.at_].row:=by simp[Jb,hat]
 have hg2:List.getD (List.take s.blocks.length (List.map Blk.row s.blocks)) s.at_ []=s.blocks[s.at_].row:=by
  rw[Jd (by simp)];exact hg1
 refine Qb Qai Qa2v ?_;refine Qa ?_;simp only[go_sem];refine Qag ?_;simp only[go_sem,hw,LS.o,hbc,hy,hat,Jv,Jx];refine Qa ?_;simp only[go_sem,hy,hat,hg2,Blk.row,hiow,Jv,Jx];refine h.addInsX hat hbc hlb ⟨op,to,n,fl,args,rfl⟩ (by simp only[LIM];omega) fun z H1 hw1 hy1 cont=>?_;simp only[go_sem,Q39,hy1,hg1,hat,Blk.row,Jv,Jx];intro H2 h2;obtain⟨b',hb',hbd,h'⟩:=cont H2 h2;refine Qa ?_;simp only[go_sem];refine Qi ?_;simp only[go_sem,Qs,Q6,Qaii,Ja,forall_eq,RS.op];refine hK _ H2 h' ⟨by simp,fun M hM=>⟨hM.r0,?_,hM.n0,?_,?_,?_,?_⟩,Jk _,fun ha=>by simp;show s.at_<_;omega,rfl,rfl,rfl⟩ ⟨by
  simp only[LS.d,Lw.put];rw[Q0j Blk.d (fun b=>{ b with ins:=b.ins++[⟨op,to,args,n⟩] }) _ _ _ fun _=>by rw[hbd,Qa26]],rfl,rfl⟩
 ·have:=hM.r1;show s.regs≤_;omega
 ·have:=hM.n1;show s.next≤_;omega
 ·have:=hM.b1;simp;omega
 ·intro b hb;rcases Qbu hb with rfl|hb
  ·have:=hM.i1 _ hm;omega
  ·have:=hM.i1 b hb;omega
 ·have:=hM.v1;show s.vars.length≤_;omega
theorem Q3b {N:Nat}{kind on:Int}{at':Nat}{fl:Bool}{next:List Int}(h:LInv F H w s)(hat:s.at_<s.blocks.length)(hat':at'<s.blocks.length)
  (hK:∀(s':LS) (H':Heap),LInv F H' w s'→LStep s s' 0→LTo s' (s.d.jump kind on next at') s.vars s.next→K (.tup []) H') :
  Ql prog Qa7 [.c (.ptr w 0),.c (.int .i64 kind),.c (.int .i64 on),.c (.sl fl 1 (Qk next)),.c (.int .i64 at')] H K:=by
 have hw:=h.hw;obtain⟨y,hbc,hlb,hy⟩:=h.bvec (by omega);have hm:=Jc hat;have hg1:List.getD (List.map Blk.row s.blocks) s.at_ []=s.blocks[s.at_].row:=by simp[Jb,hat]
 refine Qb Qai Qayc ?_;refine Qag ?_;simp only[go_sem,hw,LS.o,hbc,hy,hat,Jv,Jx];refine Qa ?_;simp only[go_sem,hy,hg1,hat,Blk.row,Jv,Jx];intro H1 h1;have h1:H1=H.set y (.vec 5 ((s.blocks.set s.at_ { s.blocks[s.at_]with jump:=kind }).map Blk.row)):=by rw[h1,←Qp9];rfl
 have hv:=h.setBlk hat hbc hlb h1 rfl rfl rfl;obtain⟨b1,hb1,hb1l,hb1i⟩:∃b1:Blk,b1={ s.blocks[s.at_]with jump:=kind }∧b1.irows=s.blocks[s.at_].irows∧b1.ic=s.blocks[s.at_].ic:=⟨_,rfl,rfl,rfl⟩;rw[←hb1]at hv h1;have hy1:H1 y=.vec 5 ((s.blocks.set s.at_ b1).map Blk.row):=by rw[h1];exact Heap.set_same _ _ _
 have hg2:List.getD ((s.blocks.set s.at_ b1).map Blk.row) s.at_ []=b1.row:=by simp[Jb,hat]
 refine Qa ?_;simp only[go_sem,hy1,hg2,hat,Blk.row,Jv,Jx,Jaf];intro H2 h2;have h2:H2=H1.set y (.vec 5 (((s.blocks.set s.at_ b1).set s.at_ { b1 with on:=on }).map Blk.row)):=by rw[h2];simp only[Ja2];rfl
 have hv:=hv.setBlk (i:=s.at_) (b':={ b1 with on:=on }) (by simpa using hat) (by simpa using hbc) (by rfl) h2 (by simp) (by simp) (by simp);simp only[Jbg]at hv h2;obtain⟨b2,hb2,hb2i⟩:∃b2:Blk,b2={ b1 with on:=on }∧b2.irows=b1.irows:=⟨_,rfl,rfl⟩;rw[←hb2]at hv h2;have hy2:H2 y=.vec 5 ((s.blocks.set s.at_ b2).map Blk.row):=by rw[h2];exact Heap.set_same _ _ _
 have hg3:List.getD ((s.blocks.set s.at_ b2).map Blk.row) s.at_ []=b2.row:=by simp[Jb,hat]
 refine Qa ?_;simp only[go_sem,hy2,hg3,hat,Blk.row,Jv,Jx,Jaf];intro H3 h3;have h3:H3=H2.set y (.vec 5 (((s.blocks.set s.at_ b2).set s.at_ { b2 with next:=next,nfl:=fl }).map Blk.row)):=by rw[h3];simp only[Ja2];rfl
 have hv:=hv.setBlk (i:=s.at_) (b':={ b2 with next:=next,nfl:=fl }) (by simpa using hat) (by simpa using hbc) (by rfl) h3 (by simp) (by simp) (by simp);simp only[Jbg]at hv;have hw3:=hv.hw;refine Qq ?_;simp only[go_sem,hw3,LS.o];intro H4 h4;have h':=hv.setw (s':={ s with lb:=[(y,.vec 5 ((s.blocks.set s.at_ { b2 with next:=next,nfl:=fl }).map Blk.row))],blocks:=s.blocks.set s.at_ { b2 with next:=next,nfl:=fl },at_:=at' }) h4 rfl rfl rfl rfl hv.gv hv.rv;simp only[Qs,Q6,Qqi];refine⟨by simp,hK _ H4 h' ⟨by simp,fun M hM=>⟨hM.r0,hM.r1,hM.n0,hM.n1,?_,?_,hM.v1⟩,Jk _,fun ha=>by simpa using hat',rfl,rfl,rfl⟩ ⟨by
  simp only[LS.d,Lw.jump];rw[Q0j Blk.d (fun b=>{ b with jump:=kind,on:=on,next:=next }) _ _ _ fun _=>by rw[hb2,hb1];rfl],rfl,rfl⟩⟩
 ·have:=hM.b1;simpa using this
 ·intro b hb;rcases Qbu hb with rfl|hb
  ·show b2.irows.length≤_;rw[hb2i,hb1l];exact hM.i1 _ hm
  ·exact hM.i1 b hb
end Go.AE.Y
namespace Go.AE.Y
open Go.Proofs.Tryz
variable {H:Heap}{K:V→Heap→Prop}
theorem Qa82 {b:UInt8}(hK:∀n:Int,decide (n=1)=Qc1 b→K (.c (.int .i64 n)) H):Ql prog Qz8 [.c (.int .u8 b.toNat)] H K:=by
 refine Qb Qai Qax0 ?_;have hs:(bif decide ((97:Int)≤(b.toNat:Int))then decide ((b.toNat:Int)≤122)else false)=Qc1 b:=by
  unfold Qc1;by_cases h:97≤b.toNat
  ·have h':(97:Int)≤(b.toNat:Int):=by omega
   simp only[h',decide_true,cond_true,h,true_and,decide_eq_decide];omega
  ·have h':¬(97:Int)≤(b.toNat:Int):=by omega
   simp[h',h]
 have ret:∀(n:Int) (e:Env),decide (n=1)=Qc1 b→lk 2 e=.c (.int .i64 n)→Qs Qer K .ret e H:=by
  intro n e h1 h2;simp only[go_sem,Qs,Q6,Qer,Ja,forall_eq,RS.op,h2];exact hK n h1
 refine Qa ?_;simp only[go_sem];refine Qf (Qd ?_);refine Qa ?_;simp only[go_sem];refine Qc rfl ?_ ?_
 ·intro hc;rw[hs]at hc;refine Qa ?_;simp only[go_sem];refine Qi ?_;simp only[go_sem];exact ret 1 _ (by rw[hc];rfl) (by simp[lk])
 intro hc;rw[hs]at hc;refine Qa ?_;simp only[go_sem];refine Qc rfl ?_ ?_
 ·intro _;refine Qa ?_;simp only[go_sem];refine Qi ?_;simp only[go_sem];exact ret 2 _ (by rw[hc];rfl) (by simp[lk])
 intro _;refine Qa ?_;simp only[go_sem];refine Qaxn fun n=>?_;simp only[go_sem,Qxi];refine Qc rfl ?_ ?_
 ·intro _;refine Qa ?_;simp only[go_sem];refine Qi ?_;simp only[go_sem];exact ret 3 _ (by rw[hc];rfl) (by simp[lk])
 intro _;refine Qa ?_;simp only[go_sem];refine Qc rfl ?_ ?_
 ·intro _;refine Qa ?_;simp only[go_sem];refine Qi ?_;simp only[go_sem];exact ret 4 _ (by rw[hc];rfl) (by simp[lk])
 intro _;refine Qe ?_;simp only[go_sem];refine Qa ?_;simp only[go_sem];refine Qi ?_;exact ret 0 _ (by rw[hc];rfl) (by simp[lk])
theorem Qdj {α:Type}{p:α→Bool}{l:List α}{i:Nat}(h:i<l.length):(l.take (i+1)).all p=((l.take i).all p&&p l[i]):=by
 rw[Jf h,List.all_append];simp
theorem Qfe {α:Type}{p:α→Bool}{l:List α}{i:Nat}(h:i<l.length)(hp:p l[i]=false):l.all p=false:=by
 rw[List.all_eq_false];exact⟨l[i],Jc h,by rw[hp];simp⟩
theorem Qbix {s:List UInt8}(hK:K (.c (.bool (s.all Qc1&&decide (0<s.length)))) H):Ql prog Qage [.c (.str s),.c (.int .i64 1)] H K:=by
 refine Qb Qai Qbeo ?_;have retf:∀(b:Bool) (e:Env),(s.all Qc1&&decide (0<s.length))=b→lk 4 e=.c (.bool b)→Qs Qm6 K .ret e H:=by
  intro b e h1 h3;simp only[go_sem,Qs,Q6,Qm6,Ja,forall_eq,RS.op,h3];rw[←h1];exact hK
 refine Qa ?_;simp only[go_sem];refine Q4 ?_;refine Qa ?_;simp only[go_sem];refine Qf (Qd (Qw (fun n e1 H1=>∃i:Nat,n=s.length-i∧i≤s.length∧H1=H∧(s.take i).all Qc1=true∧e1=[(0,.c (.str s)),(1,.c (.int .i64 1)),(5,.c (.int .i64 i))]) s.length ?_ ?_))
 ·exact⟨0,by omega,by omega,rfl,rfl,rfl⟩
 ·rintro n e1 H1 ⟨i,hn,hi,rfl,hall,rfl⟩;refine Q4 ?_;refine Qa ?_;simp only[go_sem];intro hl;simp only[LIM]at hl;refine Qf (Qc rfl ?_ ?_)
  ·intro hc;have hlt:i<s.length:=by simpa using hc
   have hg:s.getD i 0=s[i]:=by simp[Jb,hlt]
   refine Qe ?_;simp only[go_sem];refine Qf (Qd ?_);refine Qa ?_;simp only[go_sem,hlt,hg];refine Qa82 fun cl hcl=>?_;simp only[go_sem,Qaav];refine Qc rfl ?_ ?_
   ·intro hc2;have hf:Qc1 s[i]=false:=by
     rw[←hcl]
     cases hd:decide (cl=1)with
     |false=>rfl
     |true=>rw[hd]at hc2;simp at hc2
    refine Qa ?_;simp only[go_sem];refine Qi ?_;simp only[go_sem,X.next];exact retf false _ (by rw[Qfe hlt hf];rfl) (by simp[lk])
   ·intro hc2;have hf:Qc1 s[i]=true:=by
     rw[←hcl]
     cases hd:decide (cl=1)with
     |true=>rfl
     |false=>rw[hd]at hc2;simp at hc2
    refine Qe ?_;simp only[go_sem];refine Qq ?_;simp only[go_sem,X.next];exact⟨Qo (by omega) (by omega),s.length-(i+1),by omega,i+1,rfl,by omega,by rw[Qdj hlt,hall,hf];rfl,rfl⟩
  ·intro hc;have hge:s.length≤i:=by simpa using hc
   rw[Jd hge]at hall;refine Qv ?_;simp only[go_sem,X.next];refine Qa ?_;simp only[go_sem];intro _;refine Qi ?_;exact retf (decide ((0:Int)<(s.length:Int))) _ (by rw[hall,Jt,decide_eq_decide];omega) (by simp[lk])
theorem Qa1y (hK:K (.c (.sl true 1 (Qab keysL))) H):Ql prog Qhz [] H K:=by
 refine Qb Qai Q7g ?_;refine Qa ?_;simp only[go_sem];refine Qa ?_;simp only[go_sem];refine Qi ?_;simp only[go_sem,Qs,Q6,Qql,Ja,forall_eq,RS.op];exact hK
theorem Qbho {α:Type}{p:α→Bool}{l:List α}{i:Nat}(h:i<l.length):(l.take (i+1)).any p=((l.take i).any p || p l[i]):=by
 rw[Jf h,List.any_append];simp
theorem Qaxc {l:List (List UInt8)}{s:List UInt8}:l.contains s=l.any fun x=>decide (x=s):=by
 rw[Jaa,Jap,Jam];constructor
 ·intro h;exact⟨s,h,by simp⟩
 ·rintro⟨x,hx,h⟩;have:x=s:=by simpa using h
  rw[←this];exact hx
theorem Qbiy {s:List UInt8}(hK:K (.c (.bool (keysL.contains s))) H):Ql prog Qagf [.c (.str s)] H K:=by
 refine Qb Qai Qbep ?_;rw[Qaxc]at hK;generalize hks:keysL=ss at *;have retf:∀(b:Bool) (e:Env),(ss.any fun x=>decide (x=s))=b→lk 2 e=.c (.bool b)→Qs Qer K .ret e H:=by
  intro b e h1 h3;simp only[go_sem,Qs,Q6,Qer,Ja,forall_eq,RS.op,h3];rw[←h1];exact hK
 refine Qa ?_;simp only[go_sem];refine Qa ?_;simp only[go_sem];refine Qa1y ?_;rw[hks];simp only[go_sem,Qaaw];refine Q4 ?_;refine Qa ?_;simp only[go_sem];refine Qf (Qd (Qw (fun n e1 H1=>∃i:Nat,n=ss.length-i∧i≤ss.length∧H1=H∧((ss.take i).any fun x=>decide (x=s))=false∧e1=[(0,.c (.str s)),(3,.c (.sl true 1 (Qab ss))),(4,.c (.int .i64 i))]) ss.length ?_ ?_))
 ·exact⟨0,by omega,by omega,rfl,rfl,rfl⟩
 ·rintro n e1 H1 ⟨i,hn,hi,rfl,hall,rfl⟩;refine Q4 ?_;refine Qa ?_;simp only[go_sem,Qr];intro hl;simp only[LIM]at hl;refine Qf (Qc rfl ?_ ?_)
  ·intro hc;have hlt:i<ss.length:=by simpa using hc
   have hg:ss.getD i []=ss[i]:=by simp[Jb,hlt]
   refine Qe ?_;simp only[go_sem];refine Qf (Qd ?_);refine Qa ?_;simp only[go_sem,hlt,Qr,Qbv _ _ hlt,hg];refine Qc rfl ?_ ?_
   ·intro hc2;refine Qa ?_;simp only[go_sem];refine Qi ?_;simp only[go_sem,X.next];exact retf true _ (Jam.2 ⟨ss[i],Jc hlt,hc2⟩) (by simp[lk])
   ·intro hc2;refine Qe ?_;simp only[go_sem];refine Qq ?_;simp only[go_sem,X.next];exact⟨Qo (by omega) (by omega),ss.length-(i+1),by omega,i+1,rfl,by omega,by rw[Qbho hlt,hall,hc2];rfl,rfl⟩
  ·intro hc;have hge:ss.length≤i:=by simpa using hc
   rw[Jd hge]at hall;refine Qv ?_;simp only[go_sem,X.next];refine Qa ?_;simp only[go_sem];refine Qi ?_;exact retf false _ hall (by simp[lk])
theorem Q6x {s:List UInt8}(hK:K (.c (.bool (Qdb s))) H):Ql prog Qdv [.c (.str s)] H K:=by
 refine Qb Qai Qahv ?_;refine Qa ?_;simp only[go_sem];refine Qa ?_;simp only[go_sem];refine Qbix ?_;simp only[go_sem,Qn6];intro hl;have hle:decide ((s.length:Int)≤4)=decide (s.length≤4):=by rw[decide_eq_decide];omega
 have e0:Qdb s=((s.all Qc1&&decide (0<s.length))&&decide (s.length≤4)&&!keysL.contains s):=by
  unfold Qdb;have:decide (1≤s.length∧s.length≤4)=(decide (0<s.length)&&decide (s.length≤4)):=by
   rw[Jaa];simp only[decide_eq_true_eq,Ji];omega
  rw[this];cases s.all Qc1 <;> cases decide (0<s.length) <;> cases decide (s.length≤4) <;> rfl
 have e1:(bif (s.all Qc1&&decide (0<s.length))then decide ((s.length:Int)≤4)else false)=((s.all Qc1&&decide (0<s.length))&&decide (s.length≤4)):=by
  rw[hle];cases (s.all Qc1&&decide (0<s.length)) <;> rfl
 refine⟨fun hb=>?_,fun hb=>?_⟩
 ·refine Qbiy ?_;simp only[go_sem,Qew];refine Qi ?_;simp only[go_sem,Qs,Q6,Qer,Ja,forall_eq,RS.op];have:(bif (bif (s.all Qc1&&decide (0<s.length))then decide ((s.length:Int)≤4)else false)then !keysL.contains s else false)=Qdb s:=by
   rw[e1,e0];cases ((s.all Qc1&&decide (0<s.length))&&decide (s.length≤4)) <;> rfl
  first|(rw[this];exact hK)|(rw[e0,←e1,hb];exact hK)
 ·simp only[go_sem,Qew,hb];refine Qi ?_;simp only[go_sem,Qs,Q6,Qer,Ja,forall_eq,RS.op];have hf:Qdb s=false:=by
   rw[e0,←e1];have hb':=hb
   first|(rw[hb'];rfl)|(simp at hb';simp[hb'])
  rw[hf]at hK;exact hK
theorem Qbd8 {op:Int}(hK:K (.tup [.c (.int .i64 (Qec op)),.c (.int .i64 (Qdw op))]) H):Ql prog Q60 [.c (.int .i64 op)] H K:=by
 refine Qb Qai Qa7n ?_;refine Qa ?_;simp only[go_sem];refine Q4 ?_;refine Qa ?_;simp only[go_sem];have ret:∀(a b:Int) (e:Env),Qec op=a→Qdw op=b→lk 2 e=.c (.int .i64 a)→lk 3 e=.c (.int .i64 b)→Qs Qk0 K .ret e H:=by
  intro a b e h1 h2 h3 h4;simp only[go_sem,Qs,Q6,Qk0,Jas,RS.op,h3,h4];rw[h1,h2]at hK;exact hK
 refine Qf (Qd ?_);refine Q4 ?_;refine Qa ?_;simp only[go_sem];have r5:∀(b:Bool),b=decide (op=1∨op=2)→Q8 prog Qaay (X.inBlock 0 (X.sq prog Qo5 (Qs Qk0 K))) [(4,.c (.int .i64 op)),(5,.c (.bool b))] H:=by
  intro b hb;refine Qc rfl ?_ ?_
  ·intro hc;rw[hb,decide_eq_true_eq]at hc;refine Qa ?_;simp only[go_sem];refine Qi ?_;simp only[go_sem];exact ret 0 0 _ (by rw[Qec,if_pos (by omega)]) (by rw[Qdw,if_pos hc]) (by simp[lk]) (by simp[lk])
  intro hc;rw[hb,decide_eq_false_iff_not]at hc;refine Q4 ?_;refine Qa ?_;simp only[go_sem];have r8:∀(b:Bool),b=decide (op=11∨op=12)→Q8 prog Qaax (X.inBlock 0 (X.sq prog Qo5 (Qs Qk0 K))) [(4,.c (.int .i64 op)),(8,.c (.bool b))] H:=by
   intro b hb2;refine Qc rfl ?_ ?_
   ·intro hc2;rw[hb2,decide_eq_true_eq]at hc2;refine Qa ?_;simp only[go_sem];refine Qi ?_;simp only[go_sem];exact ret 1 1 _ (by rw[Qec,if_neg (by omega),if_pos hc2]) (by rw[Qdw,if_neg hc,if_pos hc2]) (by simp[lk]) (by simp[lk])
   intro hc2;rw[hb2,decide_eq_false_iff_not]at hc2;refine Qa ?_;simp only[go_sem];refine Qc rfl ?_ ?_
   ·intro hc3;have hc3:op=13:=(by simpa using hc3);refine Qa ?_;simp only[go_sem];refine Qi ?_;simp only[go_sem];exact ret 0 3 _ (by rw[Qec,if_pos (by omega)]) (by rw[Qdw,if_neg hc,if_neg hc2,if_pos hc3]) (by simp[lk]) (by simp[lk])
   ·intro hc3;have hc3:¬op=13:=(by simpa using hc3);refine Qe ?_;simp only[go_sem];refine Qa ?_;simp only[go_sem];refine Qi ?_;exact ret 2 2 _ (by rw[Qec,if_neg (by omega),if_neg hc2]) (by rw[Qdw,if_neg hc,if_neg hc2,if_neg hc3]) (by simp[lk]) (by simp[lk])
  refine Qf (Qc rfl ?_ ?_)
  ·intro hc2;have h11:op=11:=by simpa using hc2
   refine Qe ?_;simp only[go_sem];exact r8 _ (by rw[hc2];symm;rw[decide_eq_true_eq];exact .inl h11)
  ·intro hc2;have h11:¬op=11:=by simpa using hc2
   refine Qq ?_;simp only[go_sem];exact r8 _ (by rw[decide_eq_decide];omega)
 refine Qf (Qc rfl ?_ ?_)
 ·intro hc;have h1:op=1:=by simpa using hc
  refine Qe ?_;simp only[go_sem];exact r5 _ (by rw[hc];symm;rw[decide_eq_true_eq];exact .inl h1)
 ·intro hc;have h1:¬op=1:=by simpa using hc
  refine Qq ?_;simp only[go_sem];exact r5 _ (by rw[decide_eq_decide];omega)
def exA (op:Int)(k:Nat)(d:Int):Bool:=decide (1≤d)&&decide (1≤op∧op≤13)&&decide (Qec op≤(k:Int)∧(k:Int)≤Qdw op)
def exB (op n:Int)(name:List UInt8):Bool:=(decide (op=2∨op=13) == Qdb name)&&(decide (op=2∨op=13) || decide (name=[]))&&decide (0≤n∧n≤255)&&(decide (op=1) || decide (n=0))
theorem Qbmr (x:Ex)(d:Int):x.form d=(exA x.op x.kids.length d&&(exB x.op x.n x.name&&x.kids.all fun y=>y.form (d-1))):=by
 rw[x.form_eq,Qag1,exA,exB,Q4d];simp only[Jac]
theorem Qje (a b:Bool):(bif a then true else b)=(a || b):=by cases a <;> rfl
theorem Qed (a b:Bool):(bif a then b else false)=(a&&b):=by cases a <;> rfl
theorem Qa8m {a b:Int}:decide (a<b) = !decide (b≤a):=by
 rw[Jaa];simp only[decide_eq_true_eq,Jab,decide_eq_false_iff_not];omega
theorem Qbd7:∀(n:Nat) (x:Ex) {H:Heap} {K:V→Heap→Prop} (deep:Int),x.size≤n→deep≤100→K (.c (.bool (x.form deep))) H→Ql prog Quz [.ag x.cells,.c (.int .i64 deep)] H K:=by
 intro n
 induction n with
 |zero=>intro x _ _ _ h;have:=x.size_pos;omega
 |succ n ih=>
 intro x H K deep hn hd hK;rw[Qbmr]at hK;have hsz:=x.size_kids;refine Qb Qai Qa7m ?_;refine Qa ?_;simp only[go_sem,x.cells_eq];refine Qa ?_;simp only[go_sem];refine Qbd8 ?_;simp only[go_sem,Q5p,Jaw,Jav];refine Q4 ?_;refine Qa ?_;simp only[go_sem];have retf:∀(b:Bool) (e:Env),(exA x.op x.kids.length deep&&(exB x.op x.n x.name&&x.kids.all fun y=>y.form (deep-1)))=b→lk 4 e=.c (.bool b)→Qs Qm6 K .ret e H:=by
  intro b e h0 h1;simp only[go_sem,Qs,Q6,Qm6,Ja,forall_eq,RS.op,h1];rw[←h0];exact hK
 have rest:∀b:Bool,b = !exA x.op x.kids.length deep→Q8 prog (s_l2Form_3.seq Q5o) (Qs Qm6 K)
   [(1,.c (.int .i64 deep)),(2,.c (.pp [.int .i64 x.op,.int .i64 x.n,.str x.name,.sl false 4 (Qy x.kids)])),(31,.c (.bool b))] H:=by
  intro b hb;refine Qf (Qc rfl ?_ ?_)
  ·intro hc;refine Qa ?_;simp only[go_sem];refine Qi ?_;simp only[go_sem];have hA:exA x.op x.kids.length deep=false:=by rw[hc]at hb;simpa using hb.symm
   exact retf false _ (by rw[hA];rfl) (by simp[lk])
  intro hc;have hA:exA x.op x.kids.length deep=true:=by rw[hc]at hb;simpa using hb.symm
  have hdp:1≤deep:=by
   have:=hA;simp only[exA,Ji,decide_eq_true_eq]at this;exact this.1.1
  rw[hA,Jt]at retf;refine Qe ?_;simp only[go_sem];refine Qa ?_;simp only[go_sem];refine Q4 ?_;refine Qa ?_;simp only[go_sem];refine Q6x ?_;simp only[go_sem,Q5q];have rest2:∀b:Bool,b = !exB x.op x.n x.name→Q8 prog (s_l2Form_6.seq Q5n) (Qs Qm6 K)
    [(1,.c (.int .i64 deep)),(2,.c (.pp [.int .i64 x.op,.int .i64 x.n,.str x.name,.sl false 4 (Qy x.kids)])),(69,.c (.bool b))] H:=by
   intro b hb;refine Qf (Qc rfl ?_ ?_)
   ·intro hc;have hB:exB x.op x.n x.name=false:=(by rw[hc]at hb;simpa using hb.symm);refine Qa ?_;simp only[go_sem];refine Qi ?_;simp only[go_sem];exact retf false _ (by rw[hB];rfl) (by simp[lk])
   intro hc;have hB:exB x.op x.n x.name=true:=by rw[hc]at hb;simpa using hb.symm
   rw[hB,Jt]at retf;refine Qe ?_;simp only[go_sem];refine Q4 ?_;refine Qa ?_;simp only[go_sem];refine Qf (Qd (Qw (fun n e1 H1=>∃i:Nat,n=x.kids.length-i∧i≤x.kids.length∧H1=H∧((x.kids.take i).all fun y=>y.form (deep-1))=true∧e1=[(1,.c (.int .i64 deep)),(2,.c (.pp [.int .i64 x.op,.int .i64 x.n,.str x.name,.sl false 4 (Qy x.kids)])),(8,.c (.int .i64 i))]) x.kids.length ?_ ?_))
   ·exact⟨0,by omega,by omega,rfl,rfl,rfl⟩
   ·rintro n e1 H1 ⟨i,hn,hi,rfl,hall,rfl⟩;refine Q4 ?_;refine Qa ?_;simp only[go_sem,Qn];intro hl;simp only[LIM]at hl;refine Qf (Qc rfl ?_ ?_)
    ·intro hc;have hlt:i<x.kids.length:=(by simpa using hc);have hm:=Qan (Jc hlt);refine Qe ?_;simp only[go_sem];refine Qf (Qd ?_);refine Qa ?_;simp only[go_sem,hlt,Qn,Qap _ _ hlt,Ex.take4,Ex.allOw,Ex.cells_len];refine⟨Qo (by omega) (by omega),?_⟩;refine ih _ (deep-1) (by omega) (by omega) ?_;simp only[go_sem,Q5r];refine Qc rfl ?_ ?_
     ·intro hc2;refine Qa ?_;simp only[go_sem];refine Qi ?_;simp only[go_sem,X.next];exact retf false _ (Qfe hlt (Qi8 hc2)) (by simp[lk])
     ·intro hc2;refine Qe ?_;simp only[go_sem];refine Qq ?_;simp only[go_sem,X.next];exact⟨Qo (by omega) (by omega),x.kids.length-(i+1),by omega,i+1,rfl,by omega,by rw[Qdj hlt,hall,Qdx hc2];rfl,rfl⟩
    ·intro hc;have hge:x.kids.length≤i:=(by simpa using hc);rw[Jd hge]at hall;refine Qv ?_;simp only[go_sem,X.next];refine Qa ?_;simp only[go_sem];refine Qi ?_;exact retf true _ hall (by simp[lk])
  refine⟨fun hb1=>?_,fun hb1=>?_⟩
  ·refine Qdk ?_;simp only[go_sem,Qme];refine rest2 _ ?_;simp only[Qje,Qed,exB];by_cases h1:x.op=1 <;> by_cases h2:x.op=2 <;> by_cases h3:x.op=13 <;> cases Qdb x.name <;> by_cases h4:x.name=[] <;> by_cases h5:(0≤x.n∧x.n≤255) <;> by_cases h6:x.n=0 <;> simp[h1,h2,h3,h4,h5,h6]
  ·replace hb1:=Qdx hb1;simp only[go_sem,Qme,hb1];refine rest2 _ ?_;simp only[Qje,Qed,exB]at hb1⊢;revert hb1;by_cases h1:x.op=1 <;> by_cases h2:x.op=2 <;> by_cases h3:x.op=13 <;> cases Qdb x.name <;> by_cases h4:x.name=[] <;> by_cases h5:(0≤x.n∧x.n≤255) <;> by_cases h6:x.n=0 <;> simp[h1,h2,h3,h4,h5,h6]
 refine⟨fun hb1=>?_,fun hb1=>?_⟩
 ·replace hb1:=Qi8 hb1;have hdp:1≤deep:=by simp at hb1;omega
  refine Qdk ?_;simp only[go_sem,Qmd,hb1,Qn,cond_false];intro hl;refine⟨fun hb2=>?_,fun hb2=>?_⟩
  ·refine Qdk ?_;simp only[go_sem,Qe2];refine rest _ ?_;simp only[Qje,exA];have hd1:decide (1≤deep)=true:=decide_eq_true hdp;rw[hd1];cases decide (1≤x.op∧x.op≤13) <;> cases decide (Qec x.op≤(x.kids.length:Int)∧(x.kids.length:Int)≤Qdw x.op) <;> rfl
  ·replace hb2:=Qdx hb2;simp only[go_sem,Qe2,hb2];refine rest _ ?_;have hop:decide (1≤x.op∧x.op≤13)=false:=by
    cases h:decide (1≤x.op∧x.op≤13)with
    |false=>rfl
    |true=>rw[h]at hb2;simp at hb2
   simp only[exA,hop,Jbe,Jaj,Jak]
 ·replace hb1:=Qdx hb1;simp only[go_sem,Qmd,Qe2,hb1,Qn,cond_true];refine rest _ ?_;have hdp:decide (1≤deep)=false:=by
   rw[decide_eq_false_iff_not];simp at hb1;omega
  simp only[exA,hdp,Jaj,Jak]
theorem Qaw2 {x:Ex}(hx:x.size≤2^40)(hK:K (.c (.bool x.valid)) H):Ql prog Qfq [.ag x.cells] H K:=by
 refine Qb Qai Q3c ?_;refine Qa ?_;simp only[go_sem,Ex.ne_nil];refine Qa ?_;simp only[go_sem,Ex.take4,Ex.allOw,Ex.cells_len];refine Qbd7 x.size x 6 (Jk _) (by omega) ?_;simp only[go_sem,Qho,Ex.take4,Ex.allOw,Ex.cells_len];have e:decide ((x.size:Int)≤30)=decide (x.size≤30):=by rw[decide_eq_decide];omega
 refine⟨fun hb=>?_,fun hb=>?_⟩
 ·refine Qaxm x.size x (Jk _) hx ?_;simp only[go_sem,Qcv];refine Qi ?_;simp only[go_sem,Qs,Q6,Qer,Ja,forall_eq,RS.op];rw[Ex.valid,hb]at hK
  first|(rw[e];exact hK)|(rw[hb,e];exact hK)|(simp only[hb,e,cond_true];exact hK)
 ·simp only[go_sem,Qcv,hb];refine Qi ?_;simp only[go_sem,Qs,Q6,Qer,Ja,forall_eq,RS.op];rw[Ex.valid,hb]at hK;exact hK
mutual
theorem St.cnt_le:∀(x:St),x.cnt≤x.size
 |.mk op name args body els=>by
  have h1:=Qzy body;have h2:=Qzy els;simp only[St.cnt,St.size];omega
theorem Qzy:∀(l:List St),Qcp l≤Qh l
 |[]=>by simp[Qcp]
 |x::r=>by
  have h1:=St.cnt_le x;have h2:=Qzy r;simp only[Qcp,Qh];omega
end
theorem Qbcg (l:List St):Qcp l=l.length+(l.map fun x=>Qcp x.body+Qcp x.els).sum:=by
 induction l with
 |nil=>simp[Qcp]
 |cons x r ih=>simp only[Qcp,Jp,J5,List.sum_cons,ih,x.cnt_eq];omega
def inC (l:List St):Nat:=(l.map fun x=>Qcp x.body+Qcp x.els).sum
theorem Qbil {l:List St}{i:Nat}(h:i<l.length):inC (l.take (i+1))=inC (l.take i)+(Qcp (l[i]'h).body+Qcp (l[i]'h).els):=by
 rw[inC,inC,Jf h,Js,Jbc];simp
theorem Qbo5 (l:List St)(i:Nat):inC (l.take i)≤inC l:=by
 have:inC l=inC (l.take i)+inC (l.drop i):=by rw[inC,inC,inC,←Jbc,←Js,J0]
 omega
theorem Qa83:∀(n:Nat) (l:List St) {fl:Bool} {H:Heap} {K:V→Heap→Prop},Qh l≤n→Qh l≤2^40→K (.c (.int .i64 (Qcp l))) H→Ql prog Qlb [.c (.sl fl 5 (Qm l))] H K:=by
 intro n
 induction n using Nat.strongRecOn with
 |ind n ih=>
 intro l fl H K hn hb hK;have hlen:=Qb8 l;have htot:=Qbcg l;have hcl:=Qzy l;change Qcp l=l.length+inC l at htot;refine Qb Qai Qax2 ?_;refine Qa ?_;simp only[go_sem];refine Qa ?_;simp only[go_sem,Qu];intro hl;refine Q4 ?_;refine Qa ?_;simp only[go_sem];refine Qf (Qd (Qw (fun n e1 H1=>∃(i:Nat),n=l.length-i∧i≤l.length∧H1=H∧e1=[(0,.c (.sl fl 5 (Qm l))),(3,.c (.int .i64 ((l.length+inC (l.take i):Nat):Int))),(4,.c (.int .i64 i))]) l.length ?_ ?_))
 ·exact⟨0,by omega,by omega,rfl,rfl⟩
 ·rintro n e1 H1 ⟨i,hn1,hi,rfl,rfl⟩;refine Q4 ?_;refine Qa ?_;simp only[go_sem,Qu];simp only[LIM]at hl;refine fun _=>?_;refine Qf (Qc rfl ?_ ?_)
  ·intro hc;have hlt:i<l.length:=by simpa using hc
   have hm:=Qbg (Jc hlt);have hse:=(l[i]'hlt).size_eq;have hit:=Qbil hlt;have hil:=Qbo5 l (i+1);refine Qe ?_;simp only[go_sem];refine Qf (Qd (Qeb ?_));simp only[go_sem,hlt,Qu,Qbc _ _ hlt,St.cells_eq];refine ih (Qh l[i].body) (by omega) l[i].body (Jk _) (by omega) ?_;simp only[go_sem,Qxk,hlt,Qu,Qbc _ _ hlt,St.cells_eq];refine⟨Qo (by omega) (by omega),?_⟩;refine ih (Qh l[i].els) (by omega) l[i].els (Jk _) (by omega) ?_;simp only[go_sem,Qxj];refine⟨Qo (by omega) (by omega),?_⟩;refine Qq ?_;simp only[go_sem,X.next];refine⟨Qo (by omega) (by omega),l.length-(i+1),by omega,i+1,rfl,by omega,?_⟩;rw[hit];simp;omega
  ·intro hc;have hge:l.length≤i:=by simpa using hc
   refine Qv ?_;simp only[go_sem,X.next];refine Qa ?_;simp only[go_sem];refine Qi ?_;simp only[go_sem,Qs,Q6,Qer,Ja,forall_eq,RS.op];rw[Jd hge,←htot];exact hK
def stA (op:Int)(k:Nat)(d:Int):Bool:=decide (1≤d)&&decide (1≤op∧op≤8)&&decide (k=argN op)
def stB (op:Int)(name:List UInt8):Bool:=(decide (op=1∨op=2) == Qdb name)&&(decide (op=1∨op=2) || decide (name=[]))
def stD (op:Int)(nb ne:Nat):Bool:=(decide (op=5) || decide (ne=0))&&(decide (op=5∨op=6) || decide (nb=0))
theorem Qbrn (x:St)(d:Int):x.form d=(stA x.op x.args.length d&&(stB x.op x.name&&(x.args.all Ex.valid&&((!decide (x.op=8) || decide ((x.args.map Ex.op).getD 0 0=13))&&(stD x.op x.body.length x.els.length&&(Qay x.body (d-1)&&Qay x.els (d-1))))))):=by
 rw[x.form_eq,Qadt,stA,stB,stD];simp only[Jac]
def Qbom (n:Nat):Prop:=∀(x:St) (deep:Int) (H:Heap) (K:V→Heap→Prop),x.size≤n→x.size≤2^40→deep≤100→K (.c (.bool (x.form deep))) H→Ql prog Q62 [.ag x.cells,.c (.int .i64 deep)] H K
def Qbcu (n:Nat):Prop:=∀(l:List St) (deep:Int) (fl:Bool) (H:Heap) (K:V→Heap→Prop),Qh l≤n→Qh l≤2^40→deep≤100→K (.c (.bool (Qay l deep))) H→Ql prog Qlc [.c (.sl fl 5 (Qm l)),.c (.int .i64 deep)] H K
theorem Qbg7 {n:Nat}(hS:Qbom n):Qbcu n:=by
 intro l deep fl H K hn hb hd hK;rw[Q6v]at hK;refine Qb Qai Qax7 ?_;have retf:∀(b:Bool) (e:Env),(l.all fun x=>x.form deep)=b→lk 4 e=.c (.bool b)→Qs Qm6 K .ret e H:=by
  intro b e h0 h1;simp only[go_sem,Qs,Q6,Qm6,Ja,forall_eq,RS.op,h1];rw[←h0];exact hK
 refine Qa ?_;simp only[go_sem];refine Q4 ?_;refine Qa ?_;simp only[go_sem];refine Qf (Qd (Qw (fun n e1 H1=>∃(i:Nat),n=l.length-i∧i≤l.length∧H1=H∧((l.take i).all fun x=>x.form deep)=true∧e1=[(0,.c (.sl fl 5 (Qm l))),(1,.c (.int .i64 deep)),(5,.c (.int .i64 i))]) l.length ?_ ?_))
 ·exact⟨0,by omega,by omega,rfl,rfl,rfl⟩
 ·rintro n e1 H1 ⟨i,hn1,hi,rfl,hall,rfl⟩;refine Q4 ?_;refine Qa ?_;simp only[go_sem,Qu];intro hl;simp only[LIM]at hl;refine Qf (Qc rfl ?_ ?_)
  ·intro hc;have hlt:i<l.length:=by simpa using hc
   have hm:=Qbg (Jc hlt);refine Qe ?_;simp only[go_sem];refine Qf (Qd ?_);refine Qa ?_;simp only[go_sem,hlt,Qu,Qbc _ _ hlt,St.take5,St.allOw,St.cells_len];refine hS _ deep _ _ (by omega) (by omega) hd ?_;simp only[go_sem,Qyh];refine Qc rfl ?_ ?_
   ·intro hc2;refine Qa ?_;simp only[go_sem];refine Qi ?_;simp only[go_sem,X.next];exact retf false _ (Qfe hlt (Qi8 hc2)) (by simp[lk])
   ·intro hc2;refine Qe ?_;simp only[go_sem];refine Qq ?_;simp only[go_sem,X.next];exact⟨Qo (by omega) (by omega),l.length-(i+1),by omega,i+1,rfl,by omega,by rw[Qdj hlt,hall,Qdx hc2];rfl,rfl⟩
  ·intro hc;have hge:l.length≤i:=by simpa using hc
   rw[Jd hge]at hall;refine Qv ?_;simp only[go_sem,X.next];refine Qa ?_;simp only[go_sem];refine Qi ?_;exact retf true _ hall (by simp[lk])
theorem Qbku {n:Nat}(hS:∀m,m<n→Qbcu m):Qbom n:=by
 intro x deep H K hn hb hd hK;rw[Qbrn]at hK;have hsz:=x.size_eq;refine Qb Qai Qa7p ?_;have retf:∀(b:Bool) (e:Env),(stA x.op x.args.length deep&&(stB x.op x.name&&(x.args.all Ex.valid&&((!decide (x.op=8) || decide ((x.args.map Ex.op).getD 0 0=13))&&(stD x.op x.body.length x.els.length&&(Qay x.body (deep-1)&&Qay x.els (deep-1)))))))=b→
   lk 4 e=.c (.bool b)→Qs Qm6 K .ret e H:=by
  intro b e h0 h1;simp only[go_sem,Qs,Q6,Qm6,Ja,forall_eq,RS.op,h1];rw[←h0];exact hK
 refine Qa ?_;simp only[go_sem,x.cells_eq];refine Q4 ?_;refine Qag ?_;simp only[go_sem];have rest:∀b:Bool,b = !stA x.op x.args.length deep→Q8 prog (s_l3Stmt_2.seq Q5u) (Qs Qm6 K)
   [(1,.c (.int .i64 deep)),(2,.c (.pp [.int .i64 x.op,.str x.name,.sl false 4 (Qy x.args),.sl false 5 (Qm x.body),.sl false 5 (Qm x.els)])),(23,.c (.bool b))] H:=by
  intro b hb;refine Qf (Qc rfl ?_ ?_)
  ·intro hc;have hA:stA x.op x.args.length deep=false:=by rw[hc]at hb;simpa using hb.symm
   refine Qa ?_;simp only[go_sem];refine Qi ?_;simp only[go_sem];exact retf false _ (by rw[hA];rfl) (by simp[lk])
  intro hc;have hA:stA x.op x.args.length deep=true:=by rw[hc]at hb;simpa using hb.symm
  rw[hA,Jt]at retf;simp only[stA,Ji,decide_eq_true_eq]at hA;obtain⟨⟨hdp,_⟩,hal⟩:=hA;have hap:0<x.args.length:=by rw[hal,argN];split <;> omega
  refine Qe ?_;simp only[go_sem];refine Qa ?_;simp only[go_sem];refine Q4 ?_;refine Qa ?_;simp only[go_sem];refine Q6x ?_;simp only[go_sem,Q5v];refine Qf (Qc rfl ?_ ?_)
  ·intro hc;have hB:stB x.op x.name=false:=by
    simp only[Qje,Qed]at hc;simp only[stB];revert hc;by_cases h1:x.op=1 <;> by_cases h2:x.op=2 <;> cases Qdb x.name <;> by_cases h4:x.name=[] <;> simp[h1,h2,h4]
   refine Qa ?_;simp only[go_sem];refine Qi ?_;simp only[go_sem];exact retf false _ (by rw[hB];rfl) (by simp[lk])
  intro hc;have hB:stB x.op x.name=true:=by
   simp only[Qje,Qed]at hc;simp only[stB];revert hc;by_cases h1:x.op=1 <;> by_cases h2:x.op=2 <;> cases Qdb x.name <;> by_cases h4:x.name=[] <;> simp[h1,h2,h4]
  rw[hB,Jt]at retf;refine Qe ?_;simp only[go_sem];refine Q4 ?_;refine Qa ?_;simp only[go_sem];refine Qf (Qd (Qw (fun n e1 H1=>∃(i:Nat),n=x.args.length-i∧i≤x.args.length∧H1=H∧(x.args.take i).all Ex.valid=true∧e1=[(1,.c (.int .i64 deep)),(2,.c (.pp [.int .i64 x.op,.str x.name,.sl false 4 (Qy x.args),.sl false 5 (Qm x.body),.sl false 5 (Qm x.els)])),(6,.c (.int .i64 i))]) x.args.length ?_ ?_))
  ·exact⟨0,by omega,by omega,rfl,rfl,rfl⟩
  ·rintro n e1 H1 ⟨i,hn1,hi,rfl,hall,rfl⟩;refine Q4 ?_;refine Qa ?_;simp only[go_sem,Qn];intro hl;simp only[LIM]at hl;refine Qf (Qc rfl ?_ ?_)
   ·intro hc;have hlt:i<x.args.length:=(by simpa using hc);have hm:=Qan (Jc hlt);refine Qe ?_;simp only[go_sem];refine Qf (Qd ?_);refine Qa ?_;simp only[go_sem,hlt,Qn,Qap _ _ hlt,Ex.take4,Ex.allOw,Ex.cells_len];refine Qaw2 (by omega) ?_;simp only[go_sem,Q5w];refine Qc rfl ?_ ?_
    ·intro hc2;refine Qa ?_;simp only[go_sem];refine Qi ?_;simp only[go_sem,X.next];exact retf false _ (by rw[Qfe hlt (Qi8 hc2)];rfl) (by simp[lk])
    ·intro hc2;refine Qe ?_;simp only[go_sem];refine Qq ?_;simp only[go_sem,X.next];exact⟨Qo (by omega) (by omega),x.args.length-(i+1),by omega,i+1,rfl,by omega,by rw[Qdj hlt,hall,Qdx hc2];rfl,rfl⟩
   ·intro hc;have hge:x.args.length≤i:=(by simpa using hc);rw[Jd hge]at hall;rw[hall,Jt]at retf;have hg0:(x.args.map Ex.op).getD 0 0=x.args[0].op:=(by simp[Jb,hap]);refine Qv ?_;simp only[go_sem,X.next];refine Q4 ?_;refine Qa ?_;simp only[go_sem,hap,Qn,Qap _ _ hap,Ex.cells_eq];refine⟨fun _=>Ja8 _,?_⟩;refine Qf (Qc rfl ?_ ?_)
    ·intro hc;have hC:(!decide (x.op=8) || decide ((x.args.map Ex.op).getD 0 0=13))=false:=by
      rw[hg0];simp only[Qed]at hc;revert hc;by_cases h1:x.op=8 <;> by_cases h2:x.args[0].op=13 <;> simp[h1,h2]
     refine Qa ?_;simp only[go_sem];refine Qi ?_;simp only[go_sem];exact retf false _ (by rw[hC];rfl) (by simp[lk])
    intro hc;have hC:(!decide (x.op=8) || decide ((x.args.map Ex.op).getD 0 0=13))=true:=by
     rw[hg0];simp only[Qed]at hc;revert hc;by_cases h1:x.op=8 <;> by_cases h2:x.args[0].op=13 <;> simp[h1,h2]
    rw[hC,Jt]at retf;refine Qe ?_;simp only[go_sem];refine Q4 ?_;refine Qa ?_;simp only[go_sem,Qu]
    intros
    have eb:decide ((0:Int)<(x.body.length:Int)) = !decide (x.body.length=0):=by
     rw[Jaa];simp only[decide_eq_true_eq,Jab,decide_eq_false_iff_not];omega
    have ee:decide ((0:Int)<(x.els.length:Int)) = !decide (x.els.length=0):=by
     rw[Jaa];simp only[decide_eq_true_eq,Jab,decide_eq_false_iff_not];omega
    refine Qf (Qc rfl ?_ ?_)
    ·intro hc;have hD:stD x.op x.body.length x.els.length=false:=by
      simp only[Qed,Qje,eb,ee]at hc;simp only[stD];revert hc;by_cases h1:x.op=5 <;> by_cases h2:x.op=6 <;> cases decide (x.body.length=0) <;> cases decide (x.els.length=0) <;> simp[h1,h2]
     refine Qa ?_;simp only[go_sem];refine Qi ?_;simp only[go_sem];exact retf false _ (by rw[hD];rfl) (by simp[lk])
    intro hc;have hD:stD x.op x.body.length x.els.length=true:=by
     simp only[Qed,Qje,eb,ee]at hc;simp only[stD];revert hc;by_cases h1:x.op=5 <;> by_cases h2:x.op=6 <;> cases decide (x.body.length=0) <;> cases decide (x.els.length=0) <;> simp[h1,h2]
    rw[hD,Jt]at retf;refine Qe ?_;simp only[go_sem];refine Qa ?_;simp only[go_sem];refine⟨Qo (by omega) (by omega),?_⟩;refine hS (Qh x.body) (by omega) _ _ _ _ _ (Jk _) (by omega) (by omega) ?_;simp only[go_sem,Qyg];refine⟨fun _=>Qo (by omega) (by omega),?_⟩;refine⟨fun hb1=>?_,fun hb1=>?_⟩
    ·refine hS (Qh x.els) (by omega) _ _ _ _ _ (Jk _) (by omega) (by omega) ?_;simp only[go_sem,Qiw,hb1];refine Qi ?_;exact retf _ _ (by rw[hb1,Jt]) (by simp[lk])
    ·simp only[go_sem,Qiw,hb1];refine Qi ?_;exact retf false _ (by rw[hb1];rfl) (by simp[lk])
 refine⟨fun hb1=>?_,fun hb1=>?_⟩
 ·replace hb1:=Qi8 hb1;have hdp:1≤deep:=by simp at hb1;omega
  have hd1:decide (1≤deep)=true:=decide_eq_true hdp;refine Qdk ?_;simp only[go_sem,Qmi,hb1,Qn,cond_false];refine⟨fun hb2=>?_,fun hb2=>?_⟩
  ·refine Qa7e ?_;simp only[go_sem,Qe3,Qn];refine rest _ ?_;have hln:decide ((x.args.length:Int)=if x.op=4 then 2 else 1)=decide (x.args.length=argN x.op):=by
    rw[decide_eq_decide,argN];split <;> omega
   simp only[stA,hd1,hln,Qje];cases decide (1≤x.op∧x.op≤8) <;> cases decide (x.args.length=argN x.op) <;> rfl
  ·replace hb2:=Qdx hb2;simp only[go_sem,Qe3,hb2,Qn];refine rest _ ?_;have hop:decide (1≤x.op∧x.op≤8)=false:=by
    cases h:decide (1≤x.op∧x.op≤8)with
    |false=>rfl
    |true=>rw[h]at hb2;simp at hb2
   simp only[stA,hop,Jbe,Jaj,Jak]
 ·replace hb1:=Qdx hb1;simp only[go_sem,Qmi,Qe3,hb1,Qn,cond_true];refine rest _ ?_;have hdp:decide (1≤deep)=false:=by
   rw[decide_eq_false_iff_not];simp at hb1;omega
  simp only[stA,hdp,Jaj,Jak]
theorem Qbkv (n:Nat):Qbcu n:=by
 induction n using Nat.strongRecOn with
 |ind n ih=>exact Qbg7 (Qbku ih)
theorem Qbm9 {f:Fn}(hf:Qh f.body≤2^40)(hK:K (.c (.bool f.form)) H):Ql prog Qat7 [.ag f.cells] H K:=by
 refine Qb Qai Qblh ?_;have e0:f.form=(f.params.all Qdb&&(Qdb f.name&&(decide (f.params.length≤3)&&Qay f.body 4))):=by simp only[Fn.form,Jac]
 rw[e0]at hK;have retf:∀(b:Bool) (e:Env),(f.params.all Qdb&&(Qdb f.name&&(decide (f.params.length≤3)&&Qay f.body 4)))=b→lk 2 e=.c (.bool b)→Qs Qer K .ret e H:=by
  intro b e h0 h1;simp only[go_sem,Qs,Q6,Qer,Ja,forall_eq,RS.op,h1];rw[←h0];exact hK
 refine Qa ?_;simp only[go_sem,Fn.cells];refine Q4 ?_;refine Qa ?_;simp only[go_sem];refine Qf (Qd (Qw (fun n e1 H1=>∃(i:Nat),n=f.params.length-i∧i≤f.params.length∧H1=H∧(f.params.take i).all Qdb=true∧e1=[(1,.c (.pp [.str f.name,.sl false 1 (Qab f.params),.sl false 5 (Qm f.body)])),(3,.c (.int .i64 i))]) f.params.length ?_ ?_))
 ·exact⟨0,by omega,by omega,rfl,rfl,rfl⟩
 ·rintro n e1 H1 ⟨i,hn1,hi,rfl,hall,rfl⟩;refine Q4 ?_;refine Qa ?_;simp only[go_sem,Qr];intro hl;simp only[LIM]at hl;refine Qf (Qc rfl ?_ ?_)
  ·intro hc;have hlt:i<f.params.length:=by simpa using hc
   have hg:f.params.getD i []=f.params[i]:=by simp[Jb,hlt]
   refine Qe ?_;simp only[go_sem];refine Qf (Qd ?_);refine Qa ?_;simp only[go_sem,hlt,Qr,Qbv _ _ hlt,hg];refine Q6x ?_;simp only[go_sem,Qaki];refine Qc rfl ?_ ?_
   ·intro hc2;refine Qa ?_;simp only[go_sem];refine Qi ?_;simp only[go_sem,X.next];exact retf false _ (by rw[Qfe hlt (Qi8 hc2)];rfl) (by simp[lk])
   ·intro hc2;refine Qe ?_;simp only[go_sem];refine Qq ?_;simp only[go_sem,X.next];exact⟨Qo (by omega) (by omega),f.params.length-(i+1),by omega,i+1,rfl,by omega,by rw[Qdj hlt,hall,Qdx hc2];rfl,rfl⟩
  ·intro hc;have hge:f.params.length≤i:=by simpa using hc
   rw[Jd hge]at hall;rw[hall,Jt]at retf;refine Qv ?_;simp only[go_sem,X.next];refine Qa ?_;simp only[go_sem];refine Q6x ?_;simp only[go_sem,Qakj,Qr]
   intros
   have e3:decide ((f.params.length:Int)≤3)=decide (f.params.length≤3):=by rw[decide_eq_decide];omega
   refine⟨fun hb1=>?_,fun hb1=>?_⟩
   ·refine Qbkv _ _ _ _ _ _ (Jk _) hf (by omega) ?_;simp only[go_sem,Qxl,hb1];rw[Qed,e3,Ji]at hb1;refine Qi ?_;exact retf _ _ (by rw[hb1.1,hb1.2,Jt,Jt]) (by simp[lk])
   ·simp only[go_sem,Qxl,hb1];rw[Qed,e3]at hb1;refine Qi ?_;exact retf false _ (by rw[←Jac,hb1];rfl) (by simp[lk])
theorem Qa61 (l:List Fn):Qex l≤Qt l:=by
 induction l with
 |nil=>simp[Qex]
 |cons f r ih=>have:=Qzy f.body;simp only[Qex,Qt];omega
theorem Qbi3 {l:List Fn}{fl:Bool}(hf:Qt l≤2^40)(hK:K (.c (.int .i64 (Qex l))) H):Ql prog Qagg [.ag [.sl fl 3 (Q1 l)]] H K:=by
 refine Qb Qai Qbet ?_;refine Qa ?_;simp only[go_sem];refine Qa ?_;simp only[go_sem];refine Q4 ?_;refine Qa ?_;simp only[go_sem];refine Qf (Qd (Qw (fun n e1 H1=>∃(i:Nat),n=l.length-i∧i≤l.length∧H1=H∧e1=[(1,.c (.pp [.sl fl 3 (Q1 l)])),(3,.c (.int .i64 (Qex (l.take i):Nat))),(4,.c (.int .i64 i))]) l.length ?_ ?_))
 ·exact⟨0,by omega,by omega,rfl,rfl⟩
 ·rintro n e1 H1 ⟨i,hn1,hi,rfl,rfl⟩;refine Q4 ?_;refine Qa ?_;simp only[go_sem,Qz];intro hl;simp only[LIM]at hl;refine Qf (Qc rfl ?_ ?_)
  ·intro hc;have hlt:i<l.length:=by simpa using hc
   have hm:=Qbb (Jc hlt);have htk:=Q83 hlt;have htl:=Qi9 l (i+1);have hct:=Qa61 (l.take (i+1));refine Qe ?_;simp only[go_sem];refine Qf (Qd (Qq ?_));simp only[go_sem,hlt,Qz,Qat _ _ hlt,Fn.cells];refine Qa83 _ _ (Jk _) (by omega) ?_;simp only[go_sem,Qaa0];refine⟨Qo (by omega) (by omega),?_⟩;refine Qq ?_;simp only[go_sem,X.next];refine⟨Qo (by omega) (by omega),l.length-(i+1),by omega,i+1,rfl,by omega,?_⟩;rw[htk];simp
  ·intro hc;have hge:l.length≤i:=by simpa using hc
   refine Qv ?_;simp only[go_sem,X.next];refine Qa ?_;simp only[go_sem];refine Qi ?_;simp only[go_sem,Qs,Q6,Qer,Ja,forall_eq,RS.op];rw[Jd hge];exact hK
theorem Qags {l:List Fn}{fl:Bool}(hf:Qt l≤2^40)(hK:K (.c (.bool (Qqa l))) H):Ql prog Qcg [.ag [.sl fl 3 (Q1 l)]] H K:=by
 refine Qb Qai Qog ?_;have e0:Qqa l=(decide (1≤l.length∧l.length≤4)&&(l.all Fn.form&&decide (Qex l≤40))):=by simp only[Qqa,Jac]
 rw[e0]at hK;have retf:∀(b:Bool) (e:Env),(decide (1≤l.length∧l.length≤4)&&(l.all Fn.form&&decide (Qex l≤40)))=b→lk 2 e=.c (.bool b)→Qs Qer K .ret e H:=by
  intro b e h0 h1;simp only[go_sem,Qs,Q6,Qer,Ja,forall_eq,RS.op,h1];rw[←h0];exact hK
 refine Qa ?_;simp only[go_sem];refine Q4 ?_;refine Qa ?_;simp only[go_sem,Qz];intro hl;simp only[LIM]at hl;refine Qdk ?_;simp only[go_sem,Qek];have e1:decide ((1:Int)≤(l.length:Int)∧(l.length:Int)≤4)=decide (1≤l.length∧l.length≤4):=by rw[decide_eq_decide];omega
 refine Qf (Qc rfl ?_ ?_)
 ·intro hc;have hA:=Qi8 hc;rw[e1]at hA;refine Qa ?_;simp only[go_sem];refine Qi ?_;simp only[go_sem];exact retf false _ (by rw[hA];rfl) (by simp[lk])
 intro hc;have hA:=Qdx hc;rw[e1]at hA;rw[hA,Jt]at retf;refine Qe ?_;simp only[go_sem];refine Q4 ?_;refine Qa ?_;simp only[go_sem];refine Qf (Qd (Qw (fun n e1 H1=>∃(i:Nat),n=l.length-i∧i≤l.length∧H1=H∧(l.take i).all Fn.form=true∧e1=[(1,.c (.pp [.sl fl 3 (Q1 l)])),(3,.c (.int .i64 i))]) l.length ?_ ?_))
 ·exact⟨0,by omega,by omega,rfl,rfl,rfl⟩
 ·rintro n e1 H1 ⟨i,hn1,hi,rfl,hall,rfl⟩;refine Q4 ?_;refine Qa ?_;simp only[go_sem,Qz];refine fun _=>?_;refine Qf (Qc rfl ?_ ?_)
  ·intro hc;have hlt:i<l.length:=by simpa using hc
   have hm:=Qbb (Jc hlt);refine Qe ?_;simp only[go_sem];refine Qf (Qd ?_);refine Qa ?_;simp only[go_sem,hlt,Qz,Qat _ _ hlt,Fn.take3,Fn.allOw,Fn.cells_len];refine Qbm9 (by omega) ?_;simp only[go_sem,Qel];refine Qc rfl ?_ ?_
   ·intro hc2;refine Qa ?_;simp only[go_sem];refine Qi ?_;simp only[go_sem,X.next];exact retf false _ (by rw[Qfe hlt (Qi8 hc2)];rfl) (by simp[lk])
   ·intro hc2;refine Qe ?_;simp only[go_sem];refine Qq ?_;simp only[go_sem,X.next];exact⟨Qo (by omega) (by omega),l.length-(i+1),by omega,i+1,rfl,by omega,by rw[Qdj hlt,hall,Qdx hc2];rfl,rfl⟩
  ·intro hc;have hge:l.length≤i:=by simpa using hc
   rw[Jd hge]at hall;rw[hall,Jt]at retf;refine Qv ?_;simp only[go_sem,X.next];refine Qa ?_;simp only[go_sem];refine Qbi3 hf ?_;simp only[go_sem,Qem];refine Qi ?_;exact retf (decide ((Qex l:Int)≤40)) _ (by rw[decide_eq_decide];omega) (by simp[lk])
end Go.AE.Y
