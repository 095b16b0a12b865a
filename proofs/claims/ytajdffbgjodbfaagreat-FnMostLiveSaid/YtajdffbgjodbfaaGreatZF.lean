/- Part 6 of the proof: the engine, codes, walks and plain laws, each named where it stands. -/
import Derived.Test.YtajdffbgjodbfaaGreatZE
import Derived.Below
import Derived.OpenShut
import Derived.ProofKit
open Nat (reduceEqDiff reduceAdd reduceLeDiff reduceLT)
set_option linter.unusedVariables false
set_option linter.unusedSimpArgs false
set_option maxRecDepth 4000
namespace Go.AE.Y
open Go.Proofs.Tryz
variable {H H0 : Heap} {K : V → Heap → Prop} {E B Lg : List (Nat × Obj)}
def Gw (Lg : List (Nat × Obj)) (sz : Nat) (rows : List (List C)) (c : C) : Prop :=
 (c = .sl true sz [] ∧ rows = [] ∧ Lg = []) ∨ ∃ y R, c = .vsl y sz 0 rows.length ∧ Lg = [(y, .vec sz R)] ∧ R.take rows.length = rows
end Go.AE.Y
namespace Go.AE
open Go.AE.Y
open Go.Proofs.Tryz
variable {H H0 : Heap} {K : V → Heap → Prop} {E B Lg : List (Nat × Obj)}
theorem Gr.gw {sz : Nat} {rows : List (List C)} {c : C} (h : Gr Lg sz rows c) : Gw Lg sz rows c := by
 rcases h with h | ⟨y, h1, h2⟩
 ·exact .inl h
 ·exact .inr ⟨y, rows, h1, h2, List.take_length⟩
end Go.AE
namespace Go.AE.Y
open Go.Proofs.Tryz
variable {H H0 : Heap} {K : V → Heap → Prop} {E B Lg : List (Nat × Obj)}
theorem Gw.isOw {sz : Nat} {rows : List (List C)} {c : C} (h : Gw Lg sz rows c) : c.isOw = false := by rcases h with ⟨rfl, _⟩ | ⟨y, R, rfl, _⟩ <;> rfl
theorem Gw.frz {ns : List Int} {c : C} (h : Gw Lg 1 (Qh ns) c) (kn : Kn H0 H E (B ++ Lg)) : FrzC H (un H0) c (.sl false 1 (Qh ns)) := by
 rcases h with ⟨rfl, h2, _⟩ | ⟨y, R, rfl, rfl, hR⟩
 ·rw [h2]; exact FrzR.nil.sl
 ·have hle : (Qh ns).length ≤ R.length := by
   have := congrArg List.length hR
   rw [List.length_take] at this
   omega
  have h := FrzR.same (H := H) (S := un H0) (Q6 ns)
  exact .vsl y 1 0 _ R (Qh ns) (Qh ns) (Qlo (kn.loc (y, .vec 1 R) (by simp))) (kn.get (y, .vec 1 R) (by simp)).1 (by omega) (by simpa using hR.symm) h.spec.1 (fun i r r' h1 h2 => (h.spec.2 i r r' h1 h2).spec.1) fun i r r' j c c' h1 h2 h3 h4 => (h.spec.2 i r r' h1 h2).spec.2 j c c' h3 h4
theorem Qa83 {fl : Bool} {ns : List Int} {L : List (Nat × Obj)} (kn : Kn H0 H E L) (hl : ns.length ≤ LIM) (hK : ∀ t Lg H', Gr Lg 1 (Qh ns) t → t.isOw = false → Kn H0 H' E (L ++ Lg) → K (.c t) H') :
  Qo prog Qtb [.c (.sl fl 1 (Qh ns))] H K := by
 refine Qb Qas Qaze ?_
 refine Qa ?_
 simp only [go_sem]
 refine Q2 ?_
 refine Qa ?_
 simp only [go_sem]
 intro b hb
 refine Qg (Qd rfl ?_ ?_)
 ·intro hbt
  have hn := hb hbt
  refine Qa ?_
  simp only [go_sem]
  refine Qj ?_
  simp only [go_sem, Qz, Q9, Qyl, List.mem_singleton, forall_eq, RS.op]
  refine hK _ [] H ?_ rfl (by simpa using kn)
  rw [hn]; exact .nil 1
 ·intro hbf
  refine Qf ?_
  simp only [go_sem]
  refine Qa ?_
  simp only [go_sem, Qe]
  refine ⟨.inl trivial, Q6 _, by omega, fun z hz H1 h1 => ?_⟩
  have kn := kn.al hz h1
  simp only [go_sem, Qxj]
  refine Qj ?_
  simp only [go_sem, Qz, Q9, Qyl, List.mem_singleton, forall_eq, RS.op]
  exact hK _ _ H1 (.mk z 1 _ (by rw [Qe]; omega)) rfl kn
theorem Qay4 (ns : List Int) (i : Nat) (x : Int) : (Qh ns).set i [.int .i64 x] = Qh (ns.set i x) := by simp [Qh, List.map_set]
theorem Qark (ns : List Int) (k : Nat) : (Qh ns).take k = Qh (ns.take k) := by simp [Qh, List.map_take]
set_option maxHeartbeats 2000000 in
theorem Qa1p {c : C} {ns : List Int} (kn : Kn H0 H E (B ++ Lg)) (hgr : Gr Lg 1 (Qh ns) c) (hs : ns.Pairwise (· ≤ ·)) (hL : ns.length ≤ 2 ^ 38)
  (hK : ∀ t Lg' ns' H', Gw Lg' 1 (Qh ns') t → t.isOw = false → Kn H0 H' E (B ++ Lg') → ns'.Pairwise (· < ·) → (∀ x, x ∈ ns' ↔ x ∈ ns) → ns'.length ≤ ns.length → K (.c t) H') :
  Qo prog Qku [.c c] H K := by
 have how := hgr.isOw
 have hok := eq_true (hgr.okSl kn)
 have hlen := hgr.lenC
 have hrw := hgr.rowsOf kn
 have hsz := hgr.elemSz
 refine Qb Qas Qana ?_
 refine Qa ?_
 simp only [go_sem, how]
 refine Q2 ?_
 refine Qa ?_
 simp only [go_sem, how, hok, hlen, Qe]
 intro _
 refine Qg (Qd rfl ?_ ?_)
 ·intro hc
  have h2 : ns.length < 2 := by have := of_decide_eq_true hc; omega
  refine Qa ?_
  simp only [go_sem, how]
  refine Qj ?_
  simp only [go_sem, Qz, Q9, Qhb, List.mem_singleton, forall_eq, RS.op, how]
  exact hK c Lg ns H hgr.gw how kn (Qamf hs fun i h0 hi => by omega) (fun _ => Iff.rfl) (Nat.le_refl _)
 ·intro hc
  have h2 : 2 ≤ ns.length := by have := of_decide_eq_false hc; omega
  obtain ⟨z, rfl, rfl⟩ : ∃ z, c = .vsl z 1 0 ns.length ∧ Lg = [(z, .vec 1 (Qh ns))] := by
   rcases hgr with ⟨_, h, _⟩ | ⟨y, h1, h2⟩
   ·have : ns.length = 0 := by rw [← Qe, h]; rfl
    omega
   ·exact ⟨y, by rw [h1, Qe], h2⟩
  have hz := kn.l B.length (l := z) (o := .vec 1 (Qh ns)) (by simp)
  refine Qf ?_
  simp only [go_sem]
  refine Q2 ?_
  refine Qa ?_
  simp only [go_sem]
  refine Qg (Qc (Qt (fun m e1 H1 => ∃ (k : Nat), m = ns.length - k ∧ 0 < k ∧ k ≤ ns.length ∧ H1 = H ∧ (∀ i, 0 < i → i < k → ns.getD i 0 ≠ ns.getD (i - 1) 0) ∧ e1 = [(0, .c (.vsl z 1 0 ns.length)), (3, .c (.int .i64 k))]) (ns.length - 1) ?_ ?_))
  ·exact ⟨1, rfl, by omega, by omega, rfl, fun i h0 h1 => by omega, rfl⟩
  ·rintro m e1 H1 ⟨k, hm, hk0, hk, rfl, hne, rfl⟩
   refine Q2 ?_
   refine Qa ?_
   simp only [go_sem, hz, Qe, Nat.zero_add, Nat.le_refl]
   intro hlim
   simp only [LIM] at hlim
   refine Qg (Qd rfl ?_ ?_)
   ·intro hc2
    have hlt : k < ns.length := by simpa using hc2
    have hlt1 : k - 1 < ns.length := by omega
    have e1 : ((k : Int) - 1) = ((k - 1 : Nat) : Int) := by omega
    have htk : (Qh ns).take ns.length = Qh ns := List.take_of_length_le (by rw [Qe]; exact Nat.le_refl _)
    refine Qf ?_
    simp only [go_sem]
    refine Qg (Qc ?_)
    refine Qar ?_
    simp only [go_sem, hz, e1, hlt, hlt1, htk, Qe, Qx _ _ hlt, Qx _ _ hlt1, Nat.zero_add, Nat.le_refl]
    refine ⟨Qn (by omega) (by omega), ?_⟩
    refine Qd rfl ?_ ?_
    ·intro hc3
     have heq : ns.getD k 0 = ns.getD (k - 1) 0 := by simpa using hc3
     refine Qa ?_
     simp only [go_sem, hz, hlt, Qe, Nat.zero_add, Nat.le_refl]
     refine ⟨by omega, ?_⟩
     refine Q2 ?_
     refine Qa ?_
     simp only [go_sem]
     refine Qg (Qc (Qt (fun m e1 H2 => ∃ (j kk : Nat) (R : List Int), m = ns.length - j ∧ k < j ∧ j ≤ ns.length ∧ Cmp ns R kk j ∧ Kn H0 H2 E (B ++ [(z, .vec 1 (Qh R))]) ∧
      e1 = [(0, .c (.vsl z 1 0 ns.length)), (3, .c (.int .i64 kk)), (4, .c (.vsl z 1 k (ns.length - k))), (5, .c (.int .i64 ((j - k : Nat) : Int)))]) (ns.length - (k + 1)) ?_ ?_))
     ·refine ⟨k + 1, k, ns, rfl, by omega, by omega, .start hs hk0 hlt hne heq, kn, ?_⟩
      have : k + 1 - k = 1 := by omega
      rw [this]; rfl
     ·rintro m2 e1 H2 ⟨j, kk, R, hm2, hkj, hj, hcm, kn, rfl⟩
      have hz := kn.l B.length (l := z) (o := .vec 1 (Qh R)) (by simp)
      have hRl := hcm.len
      have hkkj := hcm.kj
      refine Q2 ?_
      refine Qa ?_
      have e3 : k + (ns.length - k) = ns.length := by omega
      simp only [go_sem, hz, Qe, hRl, e3, Nat.zero_add, Nat.le_refl]
      intro _
      refine Qg (Qd rfl ?_ ?_)
      ·intro hc4
       have hjl : j < ns.length := by have := of_decide_eq_true hc4; omega
       have hjR : j < R.length := by omega
       have hjR1 : j - 1 < R.length := by omega
       have hjk : j - k < ns.length - k := by omega
       have hjk1 : j - k - 1 < ns.length - k := by omega
       have e4 : (((j - k : Nat) : Int) - 1) = ((j - k - 1 : Nat) : Int) := by omega
       have hr1 : (((Qh R).drop k).take (ns.length - k)).getD (j - k) [] = [.int .i64 (ns.getD j 0)] := by
        rw [← hcm.same j (by omega), ← Qx _ _ hjR]
        simp only [List.getD_eq_getElem?_getD, List.getElem?_take, List.getElem?_drop]
        rw [if_pos hjk]
        have : k + (j - k) = j := by omega
        rw [this]
       have hr2 : (((Qh R).drop k).take (ns.length - k)).getD (j - k - 1) [] = [.int .i64 (ns.getD (j - 1) 0)] := by
        rw [← hcm.same (j - 1) (by omega), ← Qx _ _ hjR1]
        simp only [List.getD_eq_getElem?_getD, List.getElem?_take, List.getElem?_drop]
        rw [if_pos hjk1]
        have : k + (j - k - 1) = j - 1 := by omega
        rw [this]
       refine Qf ?_
       simp only [go_sem]
       refine Qc9 (fun e2 H3 => ∃ (kk : Nat) (R : List Int), Cmp ns R kk (j + 1) ∧ Kn H0 H3 E (B ++ [(z, .vec 1 (Qh R))]) ∧
        lk 0 e2 = .c (.vsl z 1 0 ns.length) ∧ lk 3 e2 = .c (.int .i64 kk) ∧ lk 4 e2 = .c (.vsl z 1 k (ns.length - k)) ∧ lk 5 e2 = .c (.int .i64 ((j - k : Nat) : Int))) ?_ ?_
       ·intro Q hnr _ _
        refine Qc ?_
        refine Qar ?_
        simp only [go_sem, hz, e3, e4, hr1, hr2, hjk, hjk1, Qe, hRl, Nat.le_refl]
        refine ⟨Qn (by omega) (by omega), ?_⟩
        refine Qd rfl ?_ ?_
        ·intro hc5
         have hne5 : ns.getD j 0 ≠ ns.getD (j - 1) 0 := by simpa using hc5
         have hkkl : kk < ns.length := by omega
         have hkkR : kk < R.length := by omega
         have htk : (Qh R).take ns.length = Qh R := List.take_of_length_le (by rw [Qe]; omega)
         refine Qa ?_
         simp only [go_sem, hz, e3, hr1, hjk, hkkl, htk, Qx _ _ hkkR, Qay4, Qe, hRl, Nat.zero_add, Nat.le_refl]
         intro H3 h3
         have kn3 := kn.stL B.length (x := z) (o := .vec 1 (Qh R)) (by simp) h3
         have kn : Kn H0 H3 E (B ++ [(z, .vec 1 (Qh (R.set kk (ns.getD j 0))))]) := by simpa using kn3
         refine Qp ?_
         simp only [go_sem]
         refine ⟨Qn (by omega) (by omega), ?_⟩
         exact hnr _ _ ⟨kk + 1, _, hcm.ne hs hjl hne5, kn, rfl, rfl, rfl, rfl⟩
        ·intro hc5
         have heq5 : ns.getD j 0 = ns.getD (j - 1) 0 := by simpa using hc5
         refine Qf ?_
         simp only [go_sem]
         exact hnr _ _ ⟨kk, R, hcm.eq hjl heq5, kn, rfl, rfl, rfl, rfl⟩
       ·rintro e2 H3 ⟨kk, R, hcm, kn, l0, l3, l4, l5⟩
        refine Qp ?_
        simp only [go_sem, X.next, l0, l3, l4, l5]
        refine ⟨Qn (by omega) (by omega), ns.length - (j + 1), by omega, j + 1, kk, R, rfl, by omega, by omega, hcm, kn, ?_⟩
        have : (((j - k : Nat) : Int) + 1) = ((j + 1 - k : Nat) : Int) := by omega
        rw [this]
      ·intro hc4
       have hje : j = ns.length := by have := of_decide_eq_false hc4; omega
       subst hje
       have hkkl : kk ≤ R.length := by omega
       refine Qs ?_
       simp only [go_sem, X.next]
       refine Qa ?_
       have e5 : kk + (ns.length - kk) = ns.length := by omega
       simp only [go_sem, hz, e5, Qe, hRl, Nat.zero_add, Nat.le_refl]
       refine ⟨by omega, fun H3 h3 => ?_⟩
       have kn3 := kn.stL B.length (x := z) (o := .vec 1 (Qh R)) (by simp) h3
       have htk2 : ((Qh R).take kk ++ List.replicate (ns.length - kk) [C.int .i64 0] ++ (Qh R).drop ns.length).take kk = Qh (R.take kk) := by
        rw [List.append_assoc, List.take_append_of_le_length (by rw [List.length_take, Qe]; omega), List.take_take, Nat.min_self, Qark]
       have hl2 : ns.length ≤ ((Qh R).take kk ++ List.replicate (ns.length - kk) [C.int .i64 0] ++ (Qh R).drop ns.length).length := by
        simp only [List.length_append, List.length_take, List.length_replicate, List.length_drop, Qe]; omega
       generalize (Qh R).take kk ++ List.replicate (ns.length - kk) [C.int .i64 0] ++ (Qh R).drop ns.length = R2 at *
       have kn : Kn H0 H3 E (B ++ [(z, .vec 1 R2)]) := by simpa using kn3
       have hz3 := kn.l B.length (l := z) (o := .vec 1 R2) (by simp)
       refine Qa ?_
       simp only [go_sem, hz3, hl2, Nat.zero_add, Nat.sub_zero]
       refine ⟨by omega, ?_⟩
       refine Qj ?_
       simp only [go_sem, X.next, Qz, Q9, Qhb, List.mem_singleton, forall_eq, RS.op]
       have hrl : (Qh (R.take kk)).length = kk := by rw [Qe, List.length_take]; omega
       refine hK (.vsl z 1 0 kk) _ (R.take kk) H3 (.inr ⟨z, R2, ?_, rfl, ?_⟩) rfl kn hcm.asc (fun x => ?_) (by rw [List.length_take]; omega)
       ·rw [hrl]
       ·rw [hrl]; exact htk2
       ·rw [hcm.mem, List.take_length]
    ·intro hc3
     have hneq : ¬ ns.getD k 0 = ns.getD (k - 1) 0 := by simpa using hc3
     refine Qf ?_
     simp only [go_sem]
     refine Qp ?_
     simp only [go_sem, X.next]
     refine ⟨Qn (by omega) (by omega), ns.length - (k + 1), by omega, k + 1, rfl, by omega, by omega, fun i h0 h1 => ?_, rfl⟩
     by_cases h : i < k
     ·exact hne i h0 h
     ·have : i = k := by omega
      subst this; exact hneq
   ·intro hc2
    have hge : ns.length ≤ k := by simpa using hc2
    refine Qs ?_
    simp only [go_sem, X.next]
    refine Qa ?_
    simp only [go_sem]
    refine Qj ?_
    simp only [go_sem, Qz, Q9, Qhb, List.mem_singleton, forall_eq, RS.op]
    exact hK _ _ ns H1 hgr.gw rfl kn (Qamf hs fun i h0 hi => hne i h0 (by omega)) (fun _ => Iff.rfl) (Nat.le_refl _)
theorem Qa8z {fl : Bool} {ns : List Int} (hL : ns.length ≤ 2 ^ 38) (hK : ∀ ns' H', Upd H H' [] → ns'.Pairwise (· < ·) → (∀ x, x ∈ ns' ↔ x ∈ ns) → ns'.length ≤ ns.length → K (.c (.sl false 1 (Qh ns'))) H') :
  Qo prog Qra [.c (.sl fl 1 (Qh ns))] H K := by
 refine Q0 ?_
 refine Qb Qas Qa21 ?_
 refine Qa ?_
 simp only [go_sem]
 refine Qa ?_
 simp only [go_sem]
 refine Qa83 (Kn.start0 H) (by simp only [LIM]; omega) fun t Lg H1 hgr how kn => ?_
 simp only [go_sem, Q1h]
 refine Qa ?_
 simp only [go_sem, how]
 refine Qa8v kn hgr fun Lg H2 hgr kn => ?_
 refine Qa ?_
 simp only [go_sem, how]
 refine Qa1p kn hgr (Qaim ns) (by rw [Qaxd]; exact hL) fun t2 Lg2 ns' H3 hgw how2 kn h1 h2 h3 => ?_
 simp only [go_sem, Q1i, how2]
 refine Qj ?_
 simp only [go_sem, Qz, Q9, Qang, List.mem_singleton, forall_eq, RS.op, how2]
 exact ⟨_, .c _ _ (hgw.frz kn), hK ns' _ kn.fin h1 (fun x => by rw [h2, Qada]) (by rw [Qaxd] at h3; exact h3)⟩
end Go.AE.Y

namespace Go.AE.Y
attribute [local go_sem] cond_true cond_false Bool.not_true Bool.not_false
open Go.Proofs.Tryz
variable {H H0 F : Heap} {K : V → Heap → Prop} {E L : List (Nat × Obj)}
theorem Qxt (ks : List Nat) (b : Nat) : updE (.int .i64 (b : Int)) (.c (.bool true)) (Qal ks) = Qal (addK ks b) := by
 by_cases h : b ∈ ks
 ·rw [addK, if_pos h]
  induction ks with
  | nil => simp at h
  | cons k ks ih =>
   by_cases hk : b = k
   ·subst hk; simp [Qal, updE, Qdv]
   ·have hk' : ¬ (b : Int) = (k : Int) := by omega
    have ih := ih (by simpa [hk] using h)
    simp only [Qal, List.map_cons, updE, Qdv, hk', decide_false, Bool.false_eq_true, if_false] at ih ⊢
    rw [ih]
 ·rw [addK, if_neg h]; exact Qa1n ks b h
theorem Qahj (ks : List Nat) (b : Nat) : delE (.int .i64 (b : Int)) (Qal ks) = Qal (ks.erase b) := by
 induction ks with
 | nil => simp [Qal, delE]
 | cons k ks ih =>
  by_cases hk : b = k
  ·subst hk; simp [Qal, delE, Qdv]
  ·have hk' : ¬ (b : Int) = (k : Int) := by omega
   have hk2 : (k == b) = false := by simp; omega
   simp only [Qal, List.map_cons, delE, Qdv, hk', decide_false, Bool.false_eq_true, if_false, List.erase_cons, hk2] at ih ⊢
   rw [ih]
theorem Qaiq {ks : List Nat} {b R : Nat} (h : ∀ x ∈ ks, x < R) (hb : b < R) : ∀ x ∈ addK ks b, x < R := fun x hx => by
 rcases addK_mem.1 hx with h1 | h1
 ·exact h x h1
 ·omega
theorem Qbcn {M ver R : Nat} {ks : List Nat} {args : List Int} {fl : Bool} (hM : H M = .map ver (Qal ks)) (hnd : ks.Nodup) (hlt : ∀ x ∈ ks, x < R) (hR : R ≤ 300) (hargs : ∀ v ∈ args, 0 ≤ v ∧ v.toNat < R)
  (hK : ∀ ver' ks' H', Upd H H' [(M, .map ver' (Qal ks'))] → ks'.Nodup → (∀ r, r ∈ ks' ↔ r ∈ ks ∨ r ∈ toN args) → K (.c (.mp M)) H') :
  Qo prog Qd0 [.c (.mp M), .c (.sl fl 1 (Qh args))] H K := by
 refine Q0 ?_
 refine Qb Qas Q3h ?_
 have kn := Kn.start1 hM (by simp)
 refine Qa ?_
 simp only [go_sem]
 refine Q2 ?_
 refine Qa ?_
 simp only [go_sem, Qe]
 intro hal
 simp only [LIM] at hal
 refine Qg (Qc (Qt (fun m e1 H1 => ∃ (i ver1 : Nat) (ks1 : List Nat), m = args.length - i ∧ i ≤ args.length ∧ ks1.Nodup ∧ (∀ x ∈ ks1, x < R) ∧ (∀ r, r ∈ ks1 ↔ r ∈ ks ∨ r ∈ (toN args).take i) ∧ Kn H H1 [(M, .map ver1 (Qal ks1))] [] ∧
  e1 = [(0, .c (.mp M)), (7, .c (.sl fl 1 (Qh args))), (8, .c (.int .i64 args.length)), (9, .c (.int .i64 i))]) args.length ?_ ?_))
 ·exact ⟨0, ver, ks, by omega, by omega, hnd, hlt, by simp, kn, rfl⟩
 ·clear hM kn
  rintro m e1 H1 ⟨i, ver1, ks1, hm, hi, hnd1, hlt1, hmem, kn, rfl⟩
  have hM := kn.e 0 rfl
  have hkl := Qbc hnd1 hlt1
  refine Qa ?_
  simp only [go_sem]
  refine Qg (Qd rfl ?_ ?_)
  ·intro hc
   have hl : i < args.length := by simpa using hc
   have hv := hargs _ (Qen hl)
   have htk := Qayg hl
   have hve : args.getD i 0 = ((args.getD i 0).toNat : Int) := by omega
   generalize hr : (args.getD i 0).toNat = r at *
   refine Qf ?_
   try simp only [go_sem]
   refine Qg (Qc ?_)
   refine Qa ?_
   simp only [go_sem, hl, Qe, Qx _ _ hl, hve]
   refine Qp ?_
   simp only [go_sem, hM, Qd3, Qeo, Qxt]
   refine ⟨by simp only [LIM]; omega, fun H2 h2 => ?_⟩
   have kn := kn.stE 0 rfl h2
   refine Qp ?_
   simp only [go_sem, X.next]
   refine ⟨Qn (by omega) (by omega), args.length - (i + 1), by omega, i + 1, ver1 + 1, addK ks1 r, rfl, by omega, Qq9 hnd1, Qaiq hlt1 hv.2, fun x => ?_, kn, rfl⟩
   rw [addK_mem, hmem, htk, List.mem_append, List.mem_singleton, or_assoc]
  ·intro hc
   have hge : args.length ≤ i := by simpa using hc
   refine Qs ?_
   simp only [go_sem, X.next]
   refine Qa ?_
   simp only [go_sem]
   refine Qj ?_
   simp only [go_sem, Qz, Q9, Qlu, List.mem_singleton, forall_eq, RS.op]
   refine ⟨_, .c _ _ (.same _ rfl), hK ver1 ks1 _ kn.fin hnd1 fun r => ?_⟩
   rw [hmem, List.take_of_length_le (by simpa [toN] using hge)]
structure SetO where
 c : C
 lg : List (Nat × Obj)
 ks : List Nat
structure SetO.ok (R : Nat) (s : SetO) : Prop where
 nd : s.ks.Nodup
 lt : ∀ x ∈ s.ks, x < R
 m : (s.c = .mnil ∧ s.lg = [] ∧ s.ks = []) ∨ ∃ M ver, s.c = .mp M ∧ s.lg = [(M, .map ver (Qal s.ks))]
def Qlk (ss : List SetO) : List (List C) := ss.map fun s => [s.c]
theorem Qdu (ss : List SetO) : (Qlk ss).length = ss.length := by simp [Qlk]
theorem Qkd (ss : List SetO) (i : Nat) (h : i < ss.length) : (Qlk ss).getD i [] = [ss[i].c] := by simp [Qlk, List.getD_eq_getElem?_getD, h]
theorem SetO.ok.isOw {R : Nat} {s : SetO} (h : s.ok R) : s.c.isOw = false := by rcases h.m with ⟨h, _⟩ | ⟨M, ver, h, _⟩ <;> rw [h] <;> rfl
theorem SetO.ok.len {R : Nat} {s : SetO} (h : s.ok R) : s.ks.length ≤ R := Qbc h.nd h.lt
def imE (q : CodeD) (fl : Bool) (l yi yp : Nat) (ss : List SetO) (pr : List (List C)) : List (Nat × Obj) :=
 [(l, .st [.int .i64 q.params, .int .i64 q.regs, .sl fl 5 (Qq q.blocks), .vsl yi 1 0 q.blocks.length, .vsl yp 1 0 q.blocks.length]), (yi, .vec 1 (Qlk ss)), (yp, .vec 1 pr)] ++ ss.flatMap SetO.lg
structure imOk (q : CodeD) (ss : List SetO) (pr : List (List C)) : Prop where
 l : ss.length = q.blocks.length
 s : ∀ s ∈ ss, s.ok q.regs.toNat
 pl : pr.length = q.blocks.length
 p : ∀ b, b < q.blocks.length → ∃ fl, pr.getD b [] = [.sl fl 1 (Qh (Qam (gnx q) (b : Int) q.blocks.length))]
def tabS (ss : List SetO) (b : Nat) : RS' := fun r => r ∈ ((ss[b]?.map SetO.ks).getD [])
theorem Qa5l {ss : List SetO} {b : Nat} (h : b < ss.length) (r : Nat) : tabS ss b r ↔ r ∈ ss[b].ks := by simp [tabS, h]
variable {q : CodeD} {fl : Bool} {l yi yp : Nat} {ss : List SetO} {pr : List (List C)}
theorem Qou (kn : Kn F H (imE q fl l yi yp ss pr) L) : H l = .st [.int .i64 q.params, .int .i64 q.regs, .sl fl 5 (Qq q.blocks), .vsl yi 1 0 q.blocks.length, .vsl yp 1 0 q.blocks.length] ∧ H yi = .vec 1 (Qlk ss) ∧ H yp = .vec 1 pr :=
 ⟨kn.e 0 rfl, kn.e 1 rfl, kn.e 2 rfl⟩
theorem Qx8 (kn : Kn F H (imE q fl l yi yp ss pr) L) {s : SetO} (hs : s ∈ ss) {M ver : Nat} (hl : s.lg = [(M, .map ver (Qal s.ks))]) : H M = .map ver (Qal s.ks) :=
 (kn.get (M, .map ver (Qal s.ks)) (List.mem_append_left _ (List.mem_append_right _ (List.mem_flatMap.2 ⟨s, hs, by rw [hl]; simp⟩)))).1
set_option maxHeartbeats 4000000 in
theorem Qa80 {b : Nat} (ho : q.ok) (hb : b < q.blocks.length) (him : imOk q ss pr) (kn : Kn F H (imE q fl l yi yp ss pr) [])
  (hK : ∀ M ver ks H', ks.Nodup → (∀ x ∈ ks, x < q.regs.toNat) → (∀ r, r ∈ ks ↔ (Qu q).outT (tabS ss) b r) → Kn F H' (imE q fl l yi yp ss pr) [(M, .map ver (Qal ks))] → K (.c (.mp M)) H') :
  Qo prog Qde [.c (.ptr l 0), .c (.int .i64 b)] H K := by
 have hr0 := ho.r0
 have hr1 := ho.r1
 have hb1 := ho.b1
 have hFn : (Qu q).n = q.blocks.length := rfl
 have hsl := him.l
 have hpl := him.pl
 have hbd := ho.bdF
 obtain ⟨y, hy⟩ : ∃ y, q.blocks[b] = y := ⟨_, rfl⟩
 have hyo : y.ok q b := by rw [← hy]; exact ho.bs b hb
 have hnx : (Qu q).nx b = y.next.map Int.toNat := by rw [← hy, ← Q04 hb]; rfl
 have hnl := hyo.nxl
 have htks : (Qlk ss).take q.blocks.length = Qlk ss := List.take_of_length_le (by rw [Qdu]; omega)
 have htkp : pr.take q.blocks.length = pr := List.take_of_length_le (by omega)
 refine Qb Qas Qadu ?_
 refine Qa ?_
 simp only [go_sem]
 refine Qa ?_
 simp only [go_sem]
 intro M hM H1 h1
 have kn : Kn F H1 (imE q fl l yi yp ss pr) [(M, .map 0 (Qal []))] := kn.al hM h1
 obtain ⟨hl, hyi, hyp⟩ := Qou kn
 simp only [go_sem, Qjv]
 refine Q2 ?_
 refine Qa ?_
 simp only [go_sem, hl, hb, Qk, Q3 _ _ hb, BlkD.cells, hy]
 refine Qa8z (by omega) fun ns H2 hu hasc hmem hlen => ?_
 have kn := kn.call0 hu
 simp only [go_sem, Qjw, Qe]
 intro _
 have hns : ∀ v ∈ ns, ∃ m : Nat, v = (m : Int) ∧ m < q.blocks.length ∧ m ∈ (Qu q).nx b ∧ (m : Int) ∈ gnx q b := fun v hv => by
  have hv' := (hmem v).1 hv
  have := hyo.nx v hv'
  refine ⟨v.toNat, by omega, by omega, ?_, ?_⟩
  ·rw [hnx]; exact List.mem_map.2 ⟨v, hv', rfl⟩
  ·rw [Q04 hb, hy]
   have : ((v.toNat : Nat) : Int) = v := by omega
   rw [this]; exact hv'
 clear hl hyi hyp hM h1
 refine Qg (Qc (Qt (fun m e1 H1 => ∃ (i ver : Nat) (ks : List Nat), m = ns.length - i ∧ i ≤ ns.length ∧ ks.Nodup ∧ (∀ x ∈ ks, x < q.regs.toNat) ∧ (∀ r, r ∈ ks ↔ ∃ v ∈ ns.take i, tabS ss v.toNat r ∨ r ∈ (Qu q).ea b v.toNat) ∧
  Kn F H1 (imE q fl l yi yp ss pr) [(M, .map ver (Qal ks))] ∧
  e1 = [(0, .c (.ptr l 0)), (1, .c (.int .i64 b)), (5, .c (.mp M)), (22, .c (.sl false 1 (Qh ns))), (23, .c (.int .i64 ns.length)), (24, .c (.int .i64 i))]) ns.length ?_ ?_))
 ·exact ⟨0, 0, [], by omega, by omega, by simp, by simp, by simp, kn, rfl⟩
 ·clear kn hu
  rintro m e1 H3 ⟨i, ver, ks, hm, hi, hnd, hlt, hks, kn, rfl⟩
  refine Qa ?_
  simp only [go_sem]
  refine Qg (Qd rfl ?_ ?_)
  ·intro hc
   have hil : i < ns.length := by simpa using hc
   obtain ⟨d, hd, hdb, hdF, hdx⟩ := hns _ (Qen hil)
   have htk : ns.take (i + 1) = ns.take i ++ [(d : Int)] := by
    rw [List.take_succ_eq_append_getElem hil, ← hd]; simp [List.getD_eq_getElem?_getD, hil]
   have hdss : d < ss.length := by omega
   obtain ⟨s, hs⟩ : ∃ s, ss[d] = s := ⟨_, rfl⟩
   have hsm : s ∈ ss := by rw [← hs]; exact List.getElem_mem hdss
   have hso := him.s s hsm
   have hsw := hso.isOw
   have htabd : ∀ r, tabS ss d r ↔ r ∈ s.ks := fun r => by rw [Qa5l hdss, hs]
   obtain ⟨flp, hpr⟩ := him.p d hdb
   obtain ⟨z, hz⟩ : ∃ z, q.blocks[d] = z := ⟨_, rfl⟩
   have hzo : z.ok q d := by rw [← hz]; exact ho.bs d hdb
   have hea : (Qu q).ea b d = z.phis.map fun p => (p.args.getD ((Qam (gnx q) (d : Int) q.blocks.length).idxOf (b : Int)) 0).toNat := by rw [Q5v hdb, hz]
   have hix := ho.ix hb hdx
   have hpe : (b : Int) ∈ Qam (gnx q) (d : Int) q.blocks.length := List.idxOf_lt_length_iff.1 hix
   generalize hat : (Qam (gnx q) (d : Int) q.blocks.length).idxOf (b : Int) = at_ at *
   refine Qf ?_
   try simp only [go_sem]
   refine Qc9 (fun e2 H2 => ∃ (ver : Nat) (ks : List Nat), ks.Nodup ∧ (∀ x ∈ ks, x < q.regs.toNat) ∧ (∀ r, r ∈ ks ↔ ∃ v ∈ ns.take (i + 1), tabS ss v.toNat r ∨ r ∈ (Qu q).ea b v.toNat) ∧
    Kn F H2 (imE q fl l yi yp ss pr) [(M, .map ver (Qal ks))] ∧
    lk 0 e2 = .c (.ptr l 0) ∧ lk 1 e2 = .c (.int .i64 b) ∧ lk 5 e2 = .c (.mp M) ∧ lk 22 e2 = .c (.sl false 1 (Qh ns)) ∧ lk 23 e2 = .c (.int .i64 ns.length) ∧ lk 24 e2 = .c (.int .i64 i)) ?_ ?_
   ·intro Q hnr _ _
    refine Qc ?_
    refine Qa ?_
    simp only [go_sem, hil, Qe, Qx _ _ hil, hd]
    refine Qc9 (fun e2 H2 => ∃ (ver : Nat) (ks1 : List Nat), ks1.Nodup ∧ (∀ x ∈ ks1, x < q.regs.toNat) ∧ (∀ r, r ∈ ks1 ↔ r ∈ ks ∨ r ∈ s.ks) ∧
     Kn F H2 (imE q fl l yi yp ss pr) [(M, .map ver (Qal ks1))] ∧
     lk 0 e2 = .c (.ptr l 0) ∧ lk 1 e2 = .c (.int .i64 b) ∧ lk 5 e2 = .c (.mp M) ∧ lk 7 e2 = .c (.int .i64 d) ∧ lk 22 e2 = .c (.sl false 1 (Qh ns)) ∧ lk 23 e2 = .c (.int .i64 ns.length) ∧ lk 24 e2 = .c (.int .i64 i)) ?_ ?_
    ·intro Q hnr _ _
     obtain ⟨hl, hyi, hyp⟩ := Qou kn
     have hMk := kn.l 0 rfl
     refine Qa ?_
     rcases hso.m with ⟨hsc, _, hsk⟩ | ⟨N, verN, hsc, hslg⟩
     ·simp only [go_sem, hl, hyi, htks, Qdu, Qkd _ _ hdss, hs, hsc, hdb, hsl, Nat.zero_add, Nat.le_refl]
      intro it hit H4 h4
      have kn := kn.al hit h4
      have hit4 := kn.l 1 rfl
      refine Qc (Qt (fun m e1 H1 => H1 = H4 ∧ e1 = [(0, .c (.ptr l 0)), (1, .c (.int .i64 b)), (5, .c (.mp M)), (7, .c (.int .i64 d)), (22, .c (.sl false 1 (Qh ns))), (23, .c (.int .i64 ns.length)), (24, .c (.int .i64 i)), (35, .c (.itr it))]) 0 ⟨rfl, rfl⟩ ?_)
      rintro m e1 H5 ⟨rfl, rfl⟩
      refine Qa ?_
      simp only [go_sem, hit4, Qcj, List.getD_cons_zero]
      refine Qg (Qd rfl (fun h => by simp at h) fun _ => ?_)
      refine Qs ?_
      simp only [go_sem, X.next]
      exact hnr _ _ ⟨ver, ks, hnd, hlt, fun r => by rw [hsk]; simp, kn.drop (A := [_]), rfl, rfl, rfl, rfl, rfl, rfl, rfl⟩
     ·have hN := Qx8 kn hsm hslg
      have hkl2 := hso.len
      simp only [go_sem, hl, hyi, htks, Qdu, Qkd _ _ hdss, hs, hsc, hdb, hsl, hN, Nat.zero_add, Nat.le_refl]
      refine ⟨Qky hso.nd, fun it hit H4 h4 => ?_⟩
      have kn := kn.al hit h4
      refine Qc (Qt (fun m e1 H1 => ∃ (left : List (C × V)) (cur : Option (C × V)) (ver : Nat) (ks1 : List Nat), m = left.length ∧ (∀ y ∈ left, ∃ x ∈ s.ks, y = (C.int .i64 (x : Int), V.c (.bool true))) ∧ left.Nodup ∧ ks1.Nodup ∧ (∀ x ∈ ks1, x < q.regs.toNat) ∧
       (∀ r, r ∈ ks1 ↔ r ∈ ks ∨ (r ∈ s.ks ∧ (C.int .i64 (r : Int), V.c (.bool true)) ∉ left)) ∧
       Kn F H1 (imE q fl l yi yp ss pr) [(M, .map ver (Qal ks1)), (it, .iter (some (N, verN)) left cur)] ∧
       e1 = [(0, .c (.ptr l 0)), (1, .c (.int .i64 b)), (5, .c (.mp M)), (7, .c (.int .i64 d)), (22, .c (.sl false 1 (Qh ns))), (23, .c (.int .i64 ns.length)), (24, .c (.int .i64 i)), (35, .c (.itr it))]) (Qal s.ks).length ?_ ?_)
      ·refine ⟨Qal s.ks, none, ver, ks, rfl, fun y hy => ?_, Qky hso.nd, hnd, hlt, fun r => ?_, kn, rfl⟩
       ·obtain ⟨x, hx, rfl⟩ := List.mem_map.1 hy
        exact ⟨x, hx, rfl⟩
       ·constructor
        ·exact .inl
        ·rintro (h | ⟨h1, h2⟩)
         ·exact h
         ·exact absurd (List.mem_map.2 ⟨r, h1, rfl⟩) h2
      ·clear kn h4 hit
       rintro m e1 H5 ⟨left, cur, ver1, ks1, rfl, hleft, hlnd, hnd1, hlt1, hmem1, kn, rfl⟩
       have hN := Qx8 kn hsm hslg
       have hM5 := kn.l 0 rfl
       have hit5 := kn.l 1 rfl
       have hkl := Qbc hnd1 hlt1
       refine Qa ?_
       simp only [go_sem, hit5, hN]
       refine ⟨⟨_, rfl⟩, fun hnil => ?_, fun y left' hyl hl' hnd' hlen' H6 h6 => ?_⟩
       ·subst hnil
        simp only [go_sem, Qcj, List.getD_cons_zero]
        refine Qg (Qd rfl (fun h => by simp at h) fun _ => ?_)
        refine Qs ?_
        simp only [go_sem, X.next]
        exact hnr _ _ ⟨ver1, ks1, hnd1, hlt1, fun r => by rw [hmem1]; simp, kn.drop (A := [_]), rfl, rfl, rfl, rfl, rfl, rfl, rfl⟩
       ·obtain ⟨k, hk, rfl⟩ := hleft y hyl
        have kn := kn.stL 1 rfl h6
        have hN6 := Qx8 kn hsm hslg
        have hit6 := kn.l 1 rfl
        have hM6 := kn.l 0 rfl
        simp only [go_sem, Qcj, List.getD_cons_zero]
        refine Qg (Qd rfl (fun _ => ?_) (fun h => by simp at h))
        refine Qf ?_
        try simp only [go_sem]
        refine Qc ?_
        refine Qa ?_
        simp only [go_sem, hit6, hN6]
        refine ⟨⟨_, rfl⟩, ?_⟩
        simp only [go_sem, Qjx, List.getD_cons_zero]
        refine Qp ?_
        simp only [go_sem, hM6, Qd3, Qeo, Qxt]
        refine ⟨by simp only [LIM]; omega, fun H7 h7 => ?_⟩
        have kn := kn.stL 0 rfl h7
        simp only [X.next]
        refine ⟨left'.length, by omega, left', _, ver1 + 1, addK ks1 k, rfl, fun y hy => hleft y ((hl' y).1 hy).1, hnd', Qq9 hnd1, Qaiq hlt1 (hso.lt k hk), fun r => ?_, kn, by trivial⟩
        rw [addK_mem, hmem1, hl']
        simp only [ne_eq, Prod.mk.injEq, C.int.injEq, true_and, and_true, not_and, Classical.not_not]
        constructor
        ·rintro ((h | ⟨h1, h2⟩) | h)
         ·exact .inl h
         ·exact .inr ⟨h1, fun h3 => absurd h3 h2⟩
         ·subst h; exact .inr ⟨hk, fun _ => rfl⟩
        ·rintro (h | ⟨h1, h2⟩)
         ·exact .inl (.inl h)
         ·by_cases h3 : (C.int .i64 (r : Int), V.c (.bool true)) ∈ left
          ·have := h2 h3
           exact .inr (by omega)
          ·exact .inl (.inr ⟨h1, h3⟩)
    ·rintro e2 H4 ⟨ver1, ks1, hnd1, hlt1, hmem1, kn, l0, l1, l5, l7, l22, l23, l24⟩
     obtain ⟨hl, hyi, hyp⟩ := Qou kn
     refine Qa ?_
     simp only [go_sem, l0, l1, l5, l7, l22, l23, l24, hl, hyp, htkp, hpl, hdb, hpr, Nat.zero_add, Nat.le_refl]
     refine Qa1q (.mk' _ _ _ _) rfl fun r hr => ?_
     have hr := hr.idx hpe
     rw [hat] at hr
     subst hr
     simp only [go_sem, Qjy, l0, l1, l5, l7, l22, l23, l24]
     refine Qa ?_
     simp only [go_sem, hl, hdb, Qk, Q3 _ _ hdb, BlkD.cells, hz, Qah]
     intro hzl
     simp only [LIM] at hzl
     refine Qc (Qt (fun m e1 H1 => ∃ (i2 ver2 : Nat) (ks2 : List Nat), m = z.phis.length - i2 ∧ i2 ≤ z.phis.length ∧ ks2.Nodup ∧ (∀ x ∈ ks2, x < q.regs.toNat) ∧ (∀ r, r ∈ ks2 ↔ (r ∈ ks ∨ r ∈ s.ks) ∨ r ∈ ((Qu q).ea b d).take i2) ∧
      Kn F H1 (imE q fl l yi yp ss pr) [(M, .map ver2 (Qal ks2))] ∧
      e1 = [(0, .c (.ptr l 0)), (1, .c (.int .i64 b)), (5, .c (.mp M)), (9, .c (.int .i64 at_)), (22, .c (.sl false 1 (Qh ns))), (23, .c (.int .i64 ns.length)), (24, .c (.int .i64 i)), (59, .c (.sl false 2 (Qbi z.phis))), (60, .c (.int .i64 z.phis.length)), (61, .c (.int .i64 i2))]) z.phis.length ?_ ?_)
     ·exact ⟨0, ver1, ks1, by omega, by omega, hnd1, hlt1, fun r => by rw [hmem1]; simp, kn, rfl⟩
     ·clear kn hl hyi hyp
      rintro m e1 H5 ⟨i2, ver2, ks2, hm2, hi2, hnd2, hlt2, hmem2, kn, rfl⟩
      have hkl := Qbc hnd2 hlt2
      refine Qa ?_
      simp only [go_sem]
      refine Qg (Qd rfl ?_ ?_)
      ·intro hc2
       have hl2 : i2 < z.phis.length := by simpa using hc2
       obtain ⟨p, hp⟩ : ∃ p, z.phis[i2] = p := ⟨_, rfl⟩
       have hpm : p ∈ z.phis := by rw [← hp]; exact List.getElem_mem hl2
       have hpal := hzo.pal p hpm
       have hal : at_ < p.args.length := by omega
       obtain ⟨hv, hvl⟩ := (hzo.pargs p hpm _ (Qen hal)).nat
       have htk2 : ((Qu q).ea b d).take (i2 + 1) = ((Qu q).ea b d).take i2 ++ [(p.args.getD at_ 0).toNat] := by
        rw [List.take_succ_eq_append_getElem (by rw [hea, List.length_map]; exact hl2)]
        simp [hea, hp]
       generalize hr : (p.args.getD at_ 0).toNat = r at *
       refine Qf ?_
       try simp only [go_sem]
       refine Qg (Qc ?_)
       refine Qa ?_
       simp only [go_sem, hl2, Qah, Qbf _ _ hl2, PhiD.cells, hp]
       intro x11 hx11 H6 h6
       have kn := kn.al hx11 h6
       have hx11 := kn.l 1 rfl
       simp only [go_sem, Qjz, hx11]
       intro H7 h7
       have kn : Kn F H7 (imE q fl l yi yp ss pr) [(M, .map ver2 (Qal ks2)), (x11, .st [.int .i64 p.to, .sl false 1 (Qh p.args)])] := kn.stL 1 rfl h7
       have hx11 := kn.l 1 rfl
       have hM7 := kn.l 0 rfl
       refine Qp ?_
       simp only [go_sem, hx11, hM7, hal, Qe, Qx _ _ hal, hv, Qd3, Qeo, Qxt]
       refine ⟨by simp only [LIM]; omega, fun H8 h8 => ?_⟩
       have kn := kn.stL 0 rfl h8
       refine Qp ?_
       simp only [go_sem, X.next]
       refine ⟨Qn (by omega) (by omega), z.phis.length - (i2 + 1), by omega, i2 + 1, ver2 + 1, addK ks2 r, rfl, by omega, Qq9 hnd2, Qaiq hlt2 hvl, fun x => ?_, kn.drop (A := [_]), rfl⟩
       rw [addK_mem, hmem2, htk2, List.mem_append, List.mem_singleton, or_assoc]
      ·intro hc2
       have hge2 : z.phis.length ≤ i2 := by simpa using hc2
       refine Qs ?_
       simp only [go_sem, X.next]
       refine hnr _ _ ⟨ver2, ks2, hnd2, hlt2, fun r => ?_, kn, rfl, rfl, rfl, rfl, rfl, rfl⟩
       have hte : ((Qu q).ea b d).take i2 = (Qu q).ea b d := List.take_of_length_le (by rw [hea, List.length_map]; exact hge2)
       rw [hmem2, hks, htk, hte]
       constructor
       ·rintro ((⟨v, hv, h⟩ | h) | h)
        ·exact ⟨v, List.mem_append_left _ hv, h⟩
        ·exact ⟨(d : Int), List.mem_append_right _ (by simp), .inl ((htabd r).2 h)⟩
        ·exact ⟨(d : Int), List.mem_append_right _ (by simp), .inr h⟩
       ·rintro ⟨v, hv, h⟩
        rcases List.mem_append.1 hv with hv | hv
        ·exact .inl (.inl ⟨v, hv, h⟩)
        ·simp only [List.mem_singleton] at hv
         subst hv
         rcases h with h | h
         ·exact .inl (.inr ((htabd r).1 h))
         ·exact .inr h
   ·rintro e2 H4 ⟨ver1, ks1, hnd1, hlt1, hks1, kn, l0, l1, l5, l22, l23, l24⟩
    refine Qp ?_
    simp only [go_sem, X.next, l0, l1, l5, l22, l23, l24]
    exact ⟨Qn (by omega) (by omega), ns.length - (i + 1), by omega, i + 1, ver1, ks1, rfl, by omega, hnd1, hlt1, hks1, kn, rfl⟩
  ·intro hc
   have hge : ns.length ≤ i := by simpa using hc
   rw [List.take_of_length_le hge] at hks
   refine Qs ?_
   simp only [go_sem, X.next]
   refine Qa ?_
   simp only [go_sem]
   refine Qj ?_
   simp only [go_sem, Qz, Q9, Qr3, List.mem_singleton, forall_eq, RS.op]
   refine hK M ver ks H3 hnd hlt (fun r => ?_) kn
   rw [hks]
   constructor
   ·rintro ⟨v, hv, h⟩
    exact ⟨v.toNat, by rw [hnx]; exact List.mem_map.2 ⟨v, (hmem v).1 hv, rfl⟩, h⟩
   ·rintro ⟨d, hd, h⟩
    rw [hnx] at hd
    obtain ⟨v, hv, rfl⟩ := List.mem_map.1 hd
    exact ⟨v, (hmem v).2 hv, h⟩
end Go.AE.Y

namespace Go.AE.Y
attribute [local instance] Classical.propDecidable
def asS (S : Nat → List Nat) (b : Nat) : RS' := fun r => r ∈ S b
structure ImInv (F : Flo) (R : Nat) (S : Nat → List Nat) : Prop where
 below : F.Below (asS S)
 post : ∀ b, b < F.n → ∀ r, asS S b r → F.inT (asS S) b r
 nd : ∀ b, (S b).Nodup
 lt : ∀ b, ∀ r ∈ S b, r < R
variable {F : Flo} {R : Nat} {S : Nat → List Nat}
theorem ImInv.same {b : Nat} {ks : List Nat} (h : ImInv F R S) (hb : b < F.n) (hnd : ks.Nodup) (hks : ∀ r, r ∈ ks ↔ F.inT (asS S) b r) (hl : ks.length = (S b).length) : ∀ r, F.inT (asS S) b r → asS S b r := fun r hr =>
 Qand (h.nd b) (fun x hx => (hks x).2 (h.post b hb x hx)) (by omega) r ((hks r).2 hr)
theorem ImInv.step {b : Nat} {ks : List Nat} (h : ImInv F R S) (hf : F.fits) (hb : b < F.n) (hnd : ks.Nodup) (hlt : ∀ r ∈ ks, r < R) (hks : ∀ r, r ∈ ks ↔ F.inT (asS S) b r) (hl : ¬ ks.length = (S b).length) :
  ImInv F R (fun c => if c = b then ks else S c) ∧ tot F.n S < tot F.n (fun c => if c = b then ks else S c) := by
 have hsub : ∀ r, r ∈ S b → r ∈ ks := fun r hr => (hks r).2 (h.post b hb r hr)
 have hle := Qdn (h.nd b) hsub
 have hS : ∀ c, c < F.n → ∀ r, asS S c r → asS (fun c => if c = b then ks else S c) c r := fun c _ r hr => by
  simp only [asS]
  by_cases hc : c = b
  ·subst hc; rw [if_pos rfl]; exact hsub r hr
  ·rw [if_neg hc]; exact hr
 refine ⟨⟨fun c hc r hr => ?_, fun c hc r hr => ?_, fun c => ?_, fun c r hr => ?_⟩, Qbcm hb (fun c hc => ?_) ?_⟩
 ·simp only [asS] at hr
  by_cases hcb : c = b
  ·subst hcb; rw [if_pos rfl] at hr; exact h.below.inT hf hb r ((hks r).1 hr)
  ·rw [if_neg hcb] at hr; exact h.below c hc r hr
 ·have h1 : F.inT (asS S) c r := by
   simp only [asS] at hr
   by_cases hcb : c = b
   ·subst hcb; rw [if_pos rfl] at hr; exact (hks r).1 hr
   ·rw [if_neg hcb] at hr; exact h.post c hc r hr
  exact Flo.inT_mono hf hS hc r h1
 ·by_cases hcb : c = b
  ·subst hcb; simpa using hnd
  ·simpa [hcb] using h.nd c
 ·by_cases hcb : c = b
  ·subst hcb; exact hlt r (by simpa using hr)
  ·exact h.lt c r (by simpa [hcb] using hr)
 ·by_cases hcb : c = b
  ·subst hcb; simpa using hle
  ·simp [hcb]
 ·simp only [if_pos]; omega
theorem ImInv.done (h : ImInv F R S) (hc : ∀ b, b < F.n → ∀ r, F.inT (asS S) b r → asS S b r) {b : Nat} (hb : b < F.n) (r : Nat) : r ∈ S b ↔ F.LI b r :=
 Flo.is_least hc h.below hb r
theorem ImInv.bound (h : ImInv F R S) : tot F.n S ≤ F.n * R := Qbcl fun b _ => Qbc (h.nd b) (h.lt b)
theorem ImInv.start : ImInv F R fun _ => [] := ⟨fun b _ r hr => absurd hr (by simp [asS]), fun b _ r hr => absurd hr (by simp [asS]), fun _ => by simp, fun _ r hr => by simp at hr⟩
end Go.AE.Y

namespace Go.AE.Y
attribute [local go_sem] cond_true cond_false Bool.not_true Bool.not_false
open Go.Proofs.Tryz
variable {H H0 F : Heap} {K : V → Heap → Prop} {E L : List (Nat × Obj)}
variable {q : CodeD} {fl : Bool} {l yi yp : Nat} {ss : List SetO} {pr : List (List C)}
theorem Qaxp {ks : List Nat} {b R : Nat} (h : ∀ x ∈ ks, x < R) : ∀ x ∈ ks.erase b, x < R := fun x hx => h x (List.mem_of_mem_erase hx)
theorem Qahz {ks : List Nat} {b x : Nat} (h : ks.Nodup) : x ∈ ks.erase b ↔ x ∈ ks ∧ x ≠ b := by rw [List.Nodup.mem_erase_iff h, and_comm]
set_option maxHeartbeats 4000000 in
theorem Qais {b : Nat} {i : Int} (ho : q.ok) (hb : b < q.blocks.length) (hi : -1 ≤ i) (hi2 : i < q.blocks[b].ins.length) (him : imOk q ss pr) (kn : Kn F H (imE q fl l yi yp ss pr) [])
  (hK : ∀ M ver ks H', ks.Nodup → (∀ x ∈ ks, x < q.regs.toNat) → (∀ r, r ∈ ks ↔ (Qu q).beh ((Qu q).outT (tabS ss) b) b (i + 1).toNat r) → Kn F H' (imE q fl l yi yp ss pr) [(M, .map ver (Qal ks))] → K (.c (.mp M)) H') :
  Qo prog Qbt [.c (.ptr l 0), .c (.int .i64 b), .c (.int .i64 i)] H K := by
 have hr0 := ho.r0
 have hr1 := ho.r1
 obtain ⟨y, hy⟩ : ∃ y, q.blocks[b] = y := ⟨_, rfl⟩
 have hyo : y.ok q b := by rw [← hy]; exact ho.bs b hb
 have hil : y.ins.length ≤ 800 ∧ y.phis.length ≤ 800 := by rw [← hy]; exact ho.il b hb
 rw [hy] at hi2
 have hon : (Qu q).on b = if y.jump = 1 then [] else [y.on.toNat] := by rw [Q5w hb, hy]
 have hins : (Qu q).ins b = y.ins.map fun x => (Qgu x, toN x.args) := by rw [Qoh hb, hy]
 refine Qb Qas Q3g ?_
 refine Qa ?_
 simp only [go_sem]
 refine Qa ?_
 simp only [go_sem]
 refine Qa80 ho hb him kn fun M ver ks H1 hnd hlt hks kn => ?_
 generalize (Qu q).outT (tabS ss) b = W at *
 obtain ⟨hl, _, _⟩ := Qou kn
 simp only [go_sem, Qf7]
 refine Qa ?_
 simp only [go_sem, hl, hb, Qk, Q3 _ _ hb, BlkD.cells, hy]
 intro x8 hx8 H2 h2
 have kn := kn.al hx8 h2
 have hx8 := kn.l 1 rfl
 simp only [go_sem, Qf8, hx8]
 intro H3 h3
 have kn : Kn F H3 (imE q fl l yi yp ss pr) [(M, .map ver (Qal ks)), (x8, Q01 y)] := kn.stL 1 rfl h3
 refine Q2 ?_
 refine Qa ?_
 have hx8 : H3 x8 = .st [.sl false 2 (Qbi y.phis), .sl false 4 (Qbz y.ins), .int .i64 y.jump, .int .i64 y.on, .sl false 1 (Qh y.next)] := kn.l 1 rfl
 have hM := kn.l 0 rfl
 have hkl := Qbc hnd hlt
 simp only [go_sem, hx8]
 refine Q54 ?_
 refine Qc9 (fun e2 H4 => ∃ (ver : Nat) (ks1 : List Nat), ks1.Nodup ∧ (∀ x ∈ ks1, x < q.regs.toNat) ∧ (∀ r, r ∈ ks1 ↔ (Qu q).endS W b r) ∧ Kn F H4 (imE q fl l yi yp ss pr) [(M, .map ver (Qal ks1)), (x8, Q01 y)] ∧
  lk 2 e2 = .c (.int .i64 i) ∧ lk 7 e2 = .c (.mp M) ∧ lk 8 e2 = .c (.ptr x8 0)) ?_ ?_
 ·intro Q hnr _ _
  refine Qd rfl ?_ ?_
  ·intro hc
   have hj : ¬ y.jump = 1 := by simp at hc; omega
   obtain ⟨hv, hvl⟩ := (hyo.on hj).nat
   generalize hr : y.on.toNat = r at *
   refine Qp ?_
   simp only [go_sem, hx8, hM, hv, Qd3, Qeo, Qxt]
   refine ⟨by simp only [LIM]; omega, fun H4 h4 => ?_⟩
   have kn := kn.stL 0 rfl h4
   refine hnr _ _ ⟨_, addK ks r, Qq9 hnd, Qaiq hlt hvl, fun x => ?_, kn, rfl, rfl, rfl⟩
   rw [addK_mem, hks, Flo.endS, hon, if_neg hj, List.mem_singleton]
  ·intro hc
   have hj : y.jump = 1 := by
    have := hyo.jmp
    simp at hc; omega
   refine Qf ?_
   try simp only [go_sem]
   refine hnr _ _ ⟨ver, ks, hnd, hlt, fun x => ?_, kn, rfl, rfl, rfl⟩
   rw [hks, Flo.endS, hon, if_pos hj]; simp
 ·clear hks hnd hlt kn hx8 hM hkl
  rintro e2 H4 ⟨ver, ks, hnd, hlt, hks, kn, l2, l7, l8⟩
  have hx8 : H4 x8 = .st [.sl false 2 (Qbi y.phis), .sl false 4 (Qbz y.ins), .int .i64 y.jump, .int .i64 y.on, .sl false 1 (Qh y.next)] := kn.l 1 rfl
  refine Q2 ?_
  refine Qa ?_
  simp only [go_sem, l2, l7, l8, hx8, Qaf]
  intro _
  refine ⟨Qn (by omega) (by omega), ?_⟩
  refine Qg (Qc (Qt (fun m e1 H1 => ∃ (k : Nat) (j : Int) (ver : Nat) (ks : List Nat), m = k ∧ k ≤ y.ins.length ∧ i + 1 ≤ k ∧ j = (k : Int) - 1 ∧ ks.Nodup ∧ (∀ x ∈ ks, x < q.regs.toNat) ∧ (∀ r, r ∈ ks ↔ (Qu q).beh W b k r) ∧ Kn F H1 (imE q fl l yi yp ss pr) [(M, .map ver (Qal ks)), (x8, Q01 y)] ∧
   lk 2 e1 = .c (.int .i64 i) ∧ lk 7 e1 = .c (.mp M) ∧ lk 8 e1 = .c (.ptr x8 0) ∧ lk 9 e1 = .c (.int .i64 j)) y.ins.length ?_ ?_))
  ·refine ⟨y.ins.length, _, ver, ks, rfl, Nat.le_refl _, by omega, rfl, hnd, hlt, fun r => ?_, kn, rfl, rfl, rfl, rfl⟩
   rw [hks, Flo.beh_end _ _ _ (by rw [hins, List.length_map]; exact Nat.le_refl _)]
  ·clear hks hnd hlt kn hx8 l2 l7 l8
   rintro m e1 H5 ⟨k, j, ver, ks, rfl, hk, hik, hjk, hnd, hlt, hks, kn, l2, l7, l8, l9⟩
   have hx8 : H5 x8 = .st [.sl false 2 (Qbi y.phis), .sl false 4 (Qbz y.ins), .int .i64 y.jump, .int .i64 y.on, .sl false 1 (Qh y.next)] := kn.l 1 rfl
   refine Q2 ?_
   refine Qa ?_
   simp only [go_sem, l2, l7, l8, l9]
   refine Qg (Qd rfl ?_ ?_)
   ·intro hc
    have hgt : i < j := by simpa using hc
    obtain ⟨k, rfl⟩ : ∃ k', m = k' + 1 := ⟨m - 1, by omega⟩
    have hj : j = (k : Int) := by omega
    subst hj
    have hkl : k < y.ins.length := by omega
    obtain ⟨x, hx⟩ : ∃ x, y.ins[k] = x := ⟨_, rfl⟩
    have hxm : x ∈ y.ins := by rw [← hx]; exact List.getElem_mem hkl
    have hstep : (Qu q).beh W b k = Qay3 (Qgu x, toN x.args) ((Qu q).beh W b (k + 1)) := by
     rw [Flo.beh_step _ _ _ (by rw [hins, List.length_map]; exact hkl)]
     simp only [hins, List.getElem_map, hx]
    refine Qf ?_
    try simp only [go_sem]
    refine Qc9 (fun e2 H6 => ∃ (ver : Nat) (ks : List Nat), ks.Nodup ∧ (∀ x ∈ ks, x < q.regs.toNat) ∧ (∀ r, r ∈ ks ↔ (Qu q).beh W b k r) ∧ Kn F H6 (imE q fl l yi yp ss pr) [(M, .map ver (Qal ks)), (x8, Q01 y)] ∧
     lk 2 e2 = .c (.int .i64 i) ∧ lk 7 e2 = .c (.mp M) ∧ lk 8 e2 = .c (.ptr x8 0) ∧ lk 9 e2 = .c (.int .i64 k)) ?_ ?_
    ·intro Q hnr _ _
     refine Qc ?_
     refine Q2 ?_
     refine Qa ?_
     simp only [go_sem, hx8, hkl, Qaf, Qcg _ _ hkl, InsD.take4, InsD.allOw, InsD.len4, hx]
     refine Qahq ?_
     simp only [go_sem, Qf9]
     refine Q2 ?_
     refine Qa ?_
     simp only [go_sem]
     refine Qc9 (fun e2 H6 => ∃ (ver : Nat) (ks1 : List Nat), ks1.Nodup ∧ (∀ x ∈ ks1, x < q.regs.toNat) ∧ (∀ r, r ∈ ks1 ↔ (Qu q).beh W b (k + 1) r ∧ Qgu x ≠ some r) ∧ Kn F H6 (imE q fl l yi yp ss pr) [(M, .map ver (Qal ks1)), (x8, Q01 y)] ∧
      lk 2 e2 = .c (.int .i64 i) ∧ lk 7 e2 = .c (.mp M) ∧ lk 8 e2 = .c (.ptr x8 0) ∧ lk 9 e2 = .c (.int .i64 k)) ?_ ?_
     ·intro Q hnr _ _
      refine Qd rfl ?_ ?_
      ·intro hc2
       have hmk : Qdl x.op = true := by
        cases hmk : Qdl x.op with
        | true => rfl
        | false => simp [Qnj, hmk] at hc2
       obtain ⟨hv, hvl⟩ := (hyo.to x hxm hmk).nat
       have hmi : Qnj x = x.to := by rw [Qnj, hmk]; rfl
       have hmo : Qgu x = some x.to.toNat := by rw [Qgu, hmk]; rfl
       have hM := kn.l 0 rfl
       rw [hmi]
       rw [hmo] at hnr
       generalize hr : x.to.toNat = r at *
       refine Qp ?_
       simp only [go_sem, hM, hv, Qd3, Qeo, Qahj]
       intro H6 h6
       have kn := kn.stL 0 rfl h6
       refine hnr _ _ ⟨_, ks.erase r, hnd.erase _, Qaxp hlt, fun z => ?_, kn, rfl, rfl, rfl, rfl⟩
       rw [Qahz hnd, hks]
       simp [eq_comm]
      ·intro hc2
       have hmk : Qdl x.op = false := by
        cases hmk : Qdl x.op with
        | false => rfl
        | true =>
         have := (hyo.to x hxm hmk).1
         simp [Qnj, hmk] at hc2; omega
       have hmo : Qgu x = none := by rw [Qgu, hmk]; rfl
       rw [hmo] at hnr
       refine Qf ?_
       try simp only [go_sem]
       exact hnr _ _ ⟨ver, ks, hnd, hlt, fun z => by rw [hks]; simp, kn, rfl, rfl, rfl, rfl⟩
     ·clear hks hnd hlt kn hx8 l2 l7 l8 l9
      rintro e2 H6 ⟨ver, ks, hnd, hlt, hks, kn, l2, l7, l8, l9⟩
      have hx8 : H6 x8 = .st [.sl false 2 (Qbi y.phis), .sl false 4 (Qbz y.ins), .int .i64 y.jump, .int .i64 y.on, .sl false 1 (Qh y.next)] := kn.l 1 rfl
      have hM := kn.l 0 rfl
      refine Qp ?_
      simp only [go_sem, l2, l7, l8, l9, hx8, hkl, Qaf, Qcg _ _ hkl, InsD.cells, hx]
      refine Qbcn (R := q.regs.toNat) hM hnd hlt (by omega) (fun v hv => by have := (hyo.args x hxm v hv); exact ⟨this.1, this.nat.2⟩) fun ver' ks' H7 hu hnd' hks' => ?_
      have kn := kn.callL 0 rfl hu (by simp)
      refine hnr _ _ ⟨ver', ks', hnd', fun z hz => ?_, fun r => ?_, kn, rfl, rfl, rfl, rfl⟩
      ·rcases (hks' z).1 hz with h | h
       ·exact hlt z h
       ·obtain ⟨v, hv, rfl⟩ := List.mem_map.1 h
        exact (hyo.args x hxm v hv).nat.2
      ·rw [hks', hks, hstep]
       exact Or.comm
    ·clear hks hnd hlt kn hx8 l2 l7 l8 l9
     rintro e2 H6 ⟨ver, ks, hnd, hlt, hks, kn, l2, l7, l8, l9⟩
     refine Qp ?_
     simp only [go_sem, l2, l7, l8, l9]
     refine ⟨Qn (by omega) (by omega), ?_⟩
     show ∃ m, _
     exact ⟨k, by omega, k, (k : Int) - 1, ver, ks, rfl, by omega, by omega, rfl, hnd, hlt, hks, kn, rfl, rfl, rfl, rfl⟩
   ·intro hc
    have hle : ¬ i < j := by simpa using hc
    refine Qs ?_
    try simp only [go_sem, X.next]
    refine Qa ?_
    simp only [go_sem, l7]
    refine Qj ?_
    simp only [go_sem, Qz, Q9, Qlt, List.mem_singleton, forall_eq, RS.op]
    have e1 : (i + 1).toNat = m := by omega
    exact hK M ver ks H5 hnd hlt (fun r => by rw [e1]; exact hks r) (kn.drop (A := [_]))
end Go.AE.Y

namespace Go.AE.Y
attribute [local go_sem] cond_true cond_false Bool.not_true Bool.not_false
open Go.Proofs.Tryz
variable {H H0 F : Heap} {K : V → Heap → Prop} {E L : List (Nat × Obj)}
def Qre (ss : List SetO) (b : Nat) : List Nat := (ss[b]?.map SetO.ks).getD []
theorem Qa96 {ss : List SetO} {b : Nat} (h : b < ss.length) : Qre ss b = ss[b].ks := by simp [Qre, h]
theorem Qa6m {ss : List SetO} {b : Nat} {s : SetO} (h : b < ss.length) : Qre (ss.set b s) = fun c => if c = b then s.ks else Qre ss c := by
 funext c
 by_cases hc : c = b
 ·subst hc; simp [Qre, h]
 ·simp only [Qre, hc, if_false]; rw [List.getElem?_set_ne (fun e => hc e.symm)]
set_option maxHeartbeats 4000000 in
theorem Q5y {q : CodeD} {fl : Bool} (ho : q.ok) (kn : Kn H0 H E L)
  (hK : ∀ l yi yp ss pr H', imOk q ss pr → (∀ b, b < q.blocks.length → ∀ r, tabS ss b r ↔ (Qu q).LI b r) → Kn H0 H' E (imE q fl l yi yp ss pr ++ L) → K (.c (.ptr l 0)) H') :
  Qo prog Qc3 [.ag [.int .i64 q.params, .int .i64 q.regs, .sl fl 5 (Qq q.blocks)]] H K := by
 have hr0 := ho.r0
 have hr1 := ho.r1
 have hb0 := ho.b0
 have hb1 := ho.b1
 have hfit := ho.fitsF
 have hFn : (Qu q).n = q.blocks.length := rfl
 obtain ⟨n, hn⟩ : ∃ n, q.blocks.length = n := ⟨_, rfl⟩
 refine Qb Qas Qarr ?_
 refine Qa ?_
 simp only [go_sem]
 refine Qar ?_
 simp only [go_sem, Qk, hn]
 refine ⟨by simp only [LIM]; omega, fun yi hyi H1 h1 => ?_⟩
 have kn := kn.al hyi h1
 simp only [go_sem, Qsj]
 intro l hl H2 h2
 have kn := kn.al hl h2
 simp only [go_sem, Qsi]
 refine Q2 ?_
 refine Qa ?_
 simp only [go_sem, Qk, hn]
 intro _
 refine Qg (Qc (Qt (fun m e1 H1 => ∃ (i : Nat) (cp : C) (Lg : List (Nat × Obj)) (pr : List (List C)), m = n - i ∧ i ≤ n ∧ pr.length = i ∧ (∀ b, b < i → ∃ fl, pr.getD b [] = [.sl fl 1 (Qh (Qam (gnx q) (b : Int) n))]) ∧ (∀ r ∈ pr, noOw r = true) ∧ Gr Lg 1 pr cp ∧
  Kn H0 H1 E (([(l, .st [.int .i64 q.params, .int .i64 q.regs, .sl fl 5 (Qq q.blocks), .vsl yi 1 0 n, cp]), (yi, .vec 1 (List.replicate n [.mnil]))] ++ L) ++ Lg) ∧
  e1 = [(1, .c (.pp [.int .i64 q.params, .int .i64 q.regs, .sl fl 5 (Qq q.blocks)])), (3, .c (.ptr l 0)), (19, .c (.int .i64 n)), (20, .c (.int .i64 i))]) n ?_ ?_))
 ·refine ⟨0, _, [], [], by omega, by omega, rfl, fun b hb => by omega, by simp, .nil 1, ?_, rfl⟩
  refine kn.perm (Q8 fun f hf h0 hc hp => ?_)
  have e1 := hc (l, .st [.int .i64 q.params, .int .i64 q.regs, .sl fl 5 (Qq q.blocks), .vsl yi 1 0 n, .sl true 1 []]) [(yi, .vec 1 (List.replicate n [.mnil]))]
  simp only [hf, e1, h0]; omega
 ·clear kn h1 h2 hl hyi
  rintro m e1 H3 ⟨i, cp, Lg, pr, hm, hi, hpl, hpr, hpo, hgr, kn, rfl⟩
  have hcw := hgr.isOw
  refine Qa ?_
  simp only [go_sem]
  refine Qg (Qd rfl ?_ ?_)
  ·intro hc
   have hlt : i < n := by simpa using hc
   have hltq : i < q.blocks.length := by omega
   have hl := kn.l 0 rfl
   refine Qf ?_
   try simp only [go_sem]
   refine Qg (Qc ?_)
   refine Qa ?_
   simp only [go_sem]
   refine Qb4 ?_
   simp only [go_sem, hl, hcw]
   refine Q58 (rows := Qq q.blocks) (nx := gnx q) (Qus _ q fl) fun fl' H4 hu => ?_
   have kn := kn.call0 hu
   have hl := kn.l 0 rfl
   have hin : (decide (0 ≤ (i : Int)) && decide ((i : Int) ≤ ((Qq q.blocks).length : Int) - 1)) = true := by rw [Qk]; simp; omega
   rw [Qyg, if_pos hin, Qk, hn]
   simp only [go_sem, Qsl, hl, hcw]
   refine kn.growR hgr (.mk' _ _ _ _) (by intro r hr; simp at hr; subst hr; rfl) (by simp only [LIM, List.length_cons, List.length_nil]; omega) fun cp2 Lg2 H5 hgr2 hcw2 kn => ?_
   have hl := kn.l 0 rfl
   simp only [go_sem, Qsk, hl, hcw2]
   intro H6 h6
   have kn := kn.stL 0 rfl h6
   refine Qp ?_
   simp only [go_sem, X.next]
   refine ⟨Qn (by omega) (by omega), n - (i + 1), by omega, i + 1, cp2, Lg2, pr ++ [[.sl fl' 1 (Qh (Qam (gnx q) (i : Int) n))]], rfl, by omega, by simp [hpl], fun b hb => ?_, ?_, hgr2, kn, rfl⟩
   ·by_cases hbi : b < i
    ·obtain ⟨fl2, h⟩ := hpr b hbi
     refine ⟨fl2, ?_⟩
     rw [← h]
     simp [List.getD_eq_getElem?_getD, List.getElem?_append_left (show b < pr.length by omega)]
    ·have : b = i := by omega
     subst this
     refine ⟨fl', ?_⟩
     rw [List.getD_eq_getElem?_getD, List.getElem?_append_right (by omega)]
     simp [hpl]
   ·intro r hr
    rcases List.mem_append.1 hr with hr | hr
    ·exact hpo r hr
    ·simp at hr; subst hr; rfl
  ·intro hc
   have hin : i = n := by have : n ≤ i := (by simpa using hc); omega
   subst hin
   obtain ⟨yp, hyp, hLg⟩ : ∃ yp, cp = .vsl yp 1 0 i ∧ Lg = [(yp, .vec 1 pr)] := by
    rcases hgr with ⟨_, h, _⟩ | ⟨y, h1, h2⟩
    ·rw [h] at hpl; simp at hpl; omega
    ·exact ⟨y, by rw [h1, hpl], h2⟩
   have hset0 : Qlk (List.replicate i (SetO.mk .mnil [] [])) = List.replicate i [.mnil] := by simp [Qlk]
   have hfm0 : (List.replicate i (SetO.mk .mnil [] [])).flatMap SetO.lg = [] := by
    rw [List.flatMap_eq_nil_iff]; intro x hx; rw [List.eq_of_mem_replicate hx]
   have kn : Kn H0 H3 E (imE q fl l yi yp (List.replicate i (SetO.mk .mnil [] [])) pr ++ L) := by
    refine kn.perm (Q8 fun f hf h0 hc hp => ?_)
    rw [hLg, hyp]
    simp only [imE, hset0, hfm0, hn, hf, h0]
    have e1 := hc (l, .st [.int .i64 q.params, .int .i64 q.regs, .sl fl 5 (Qq q.blocks), .vsl yi 1 0 i, .vsl yp 1 0 i]) [(yi, .vec 1 (List.replicate i [.mnil])), (yp, .vec 1 pr)]
    have e2 := hc (l, .st [.int .i64 q.params, .int .i64 q.regs, .sl fl 5 (Qq q.blocks), .vsl yi 1 0 i, .vsl yp 1 0 i]) [(yi, .vec 1 (List.replicate i [.mnil]))]
    have e3 := hc (yi, .vec 1 (List.replicate i [.mnil])) [(yp, .vec 1 pr)]
    omega
   have hks0 : Qre (List.replicate i (SetO.mk .mnil [] [])) = fun _ => [] := by
    funext b
    simp only [Qre]
    rw [List.getElem?_replicate]; split <;> rfl
   have hinv : ImInv (Qu q) q.regs.toNat (Qre (List.replicate i (SetO.mk .mnil [] []))) := by rw [hks0]; exact .start
   have him : imOk q (List.replicate i (SetO.mk .mnil [] [])) pr := by
    refine ⟨by simp [hn], fun s hs => ?_, by omega, fun b hb => by rw [hn]; exact hpr b (by omega)⟩
    rw [List.eq_of_mem_replicate hs]
    exact ⟨by simp, by simp, .inl ⟨rfl, rfl, rfl⟩⟩
   generalize List.replicate i (SetO.mk .mnil [] []) = ss at kn hinv him
   clear hset0 hfm0 hks0 hLg hyp hgr hcw hpr hpl hpo hc hm hi
   refine Qs ?_
   simp only [go_sem, X.next]
   refine Q2 ?_
   refine Qa ?_
   simp only [go_sem]
   refine Qg (Qc (Qt (fun m e1 H1 => ∃ (ss : List SetO) (a : Bool), m = (if a = true then i * q.regs.toNat + 1 - tot i (Qre ss) else 0) ∧ imOk q ss pr ∧ ImInv (Qu q) q.regs.toNat (Qre ss) ∧ (a = false → ∀ b, b < i → ∀ r, (Qu q).inT (asS (Qre ss)) b r → asS (Qre ss) b r) ∧
    Kn H0 H1 E (imE q fl l yi yp ss pr ++ L) ∧
    lk 1 e1 = .c (.pp [.int .i64 q.params, .int .i64 q.regs, .sl fl 5 (Qq q.blocks)]) ∧ lk 3 e1 = .c (.ptr l 0) ∧ lk 5 e1 = .c (.bool a)) (i * q.regs.toNat + 1 - tot i (Qre ss)) ?_ ?_))
   ·exact ⟨ss, true, rfl, him, hinv, fun h => by simp at h, kn, rfl, rfl, rfl⟩
   ·clear hinv him kn
    clear ss
    rintro m e1 H4 ⟨ss, a, hm, him, hinv, hcl, kn, l1, l3, l5⟩
    have htb := hinv.bound
    rw [hFn, hn] at htb
    refine Q2 ?_
    refine Qa ?_
    simp only [go_sem, l1, l3, l5]
    refine Qg (Qd rfl ?_ ?_)
    ·intro hat
     rw [hat, if_pos rfl] at hm
     refine Qf ?_
     try simp only [go_sem]
     refine Qc ?_
     refine Qa ?_
     simp only [go_sem]
     refine Qa ?_
     simp only [go_sem, Qk, hn]
     intro _
     refine ⟨Qn (by omega) (by omega), ?_⟩
     clear hcl
     refine Qc (Qt (fun m1 e1 H1 => ∃ (k : Nat) (j : Int) (ss1 : List SetO) (a : Bool), m1 = k ∧ k ≤ i ∧ j = (k : Int) - 1 ∧ imOk q ss1 pr ∧ ImInv (Qu q) q.regs.toNat (Qre ss1) ∧ tot i (Qre ss) ≤ tot i (Qre ss1) ∧
      (a = true → tot i (Qre ss) < tot i (Qre ss1)) ∧ (a = false → ∀ b, k ≤ b → b < i → ∀ r, (Qu q).inT (asS (Qre ss1)) b r → asS (Qre ss1) b r) ∧
      Kn H0 H1 E (imE q fl l yi yp ss1 pr ++ L) ∧
      e1 = [(1, .c (.pp [.int .i64 q.params, .int .i64 q.regs, .sl fl 5 (Qq q.blocks)])), (3, .c (.ptr l 0)), (5, .c (.bool a)), (6, .c (.int .i64 j))]) i ?_ ?_)
     ·exact ⟨i, _, ss, false, rfl, Nat.le_refl _, rfl, him, hinv, Nat.le_refl _, fun h => by simp at h, fun _ b h1 h2 => by omega, kn, rfl⟩
     ·generalize hT0 : tot i (Qre ss) = T0 at *
      clear hinv him kn hT0
      clear ss
      rintro m1 e1 H5 ⟨k, j, ss, a, rfl, hk, hjk, him, hinv, htot, htt, htf, kn, rfl⟩
      have htb2 := hinv.bound
      rw [hFn, hn] at htb2
      refine Q2 ?_
      refine Qa ?_
      simp only [go_sem]
      refine Qg (Qd rfl ?_ ?_)
      ·intro hc
       have hge : 0 ≤ j := by simpa using hc
       obtain ⟨b, rfl⟩ : ∃ b, m1 = b + 1 := ⟨m1 - 1, by omega⟩
       have hj : j = (b : Int) := by omega
       subst hj
       have hbn : b < i := by omega
       have hbq : b < q.blocks.length := by omega
       have hsl := him.l
       have hbs : b < ss.length := by omega
       obtain ⟨s, hs⟩ : ∃ s, ss[b] = s := ⟨_, rfl⟩
       have hsm : s ∈ ss := by rw [← hs]; exact List.getElem_mem hbs
       have hso := him.s s hsm
       obtain ⟨y, hy⟩ : ∃ y, q.blocks[b] = y := ⟨_, rfl⟩
       have hyo : y.ok q b := by rw [← hy]; exact ho.bs b hbq
       have hil : y.ins.length ≤ 800 ∧ y.phis.length ≤ 800 := by rw [← hy]; exact ho.il b hbq
       have hph : (Qu q).ph b = y.phis.map fun p => p.to.toNat := by rw [Qaxs hbq, hy]
       have hbF : b < (Qu q).n := hbq
       refine Qf ?_
       try simp only [go_sem]
       refine Qc9 (fun e2 H2 => ∃ (ss2 : List SetO) (a2 : Bool), imOk q ss2 pr ∧ ImInv (Qu q) q.regs.toNat (Qre ss2) ∧ tot i (Qre ss) ≤ tot i (Qre ss2) ∧
        (a2 = true → a = true ∨ tot i (Qre ss) < tot i (Qre ss2)) ∧ (a2 = false → a = false ∧ ss2 = ss ∧ ∀ r, (Qu q).inT (asS (Qre ss)) b r → asS (Qre ss) b r) ∧
        Kn H0 H2 E (imE q fl l yi yp ss2 pr ++ L) ∧
        lk 1 e2 = .c (.pp [.int .i64 q.params, .int .i64 q.regs, .sl fl 5 (Qq q.blocks)]) ∧ lk 3 e2 = .c (.ptr l 0) ∧ lk 5 e2 = .c (.bool a2) ∧ lk 6 e2 = .c (.int .i64 b)) ?_ ?_
       ·intro Q hnr _ _
        refine Qc ?_
        refine Qa ?_
        simp only [go_sem]
        refine Qais (F := H5) (i := -1) ho hbq (by omega) (by omega) him kn.mid fun M ver ks H6 hnd hlt hks k2 => ?_
        have kn := kn.comp k2 rfl
        simp only [go_sem, Qsm]
        refine Q2 ?_
        refine Qa ?_
        simp only [go_sem, hbq, Qk, Q3 _ _ hbq, hy, BlkD.cells, Qah]
        intro hpl
        simp only [LIM] at hpl
        obtain ⟨B, hB⟩ : ∃ B, imE q fl l yi yp ss pr ++ L = B := ⟨_, rfl⟩
        rw [hB] at kn
        refine Qg (Qc (Qt (fun m2 e1 H1 => ∃ (i2 ver : Nat) (ks2 : List Nat), m2 = y.phis.length - i2 ∧ i2 ≤ y.phis.length ∧ ks2.Nodup ∧ (∀ x ∈ ks2, x < q.regs.toNat) ∧ (∀ r, r ∈ ks2 ↔ r ∈ ks ∧ r ∉ ((Qu q).ph b).take i2) ∧ Kn H0 H1 E (B ++ [(M, .map ver (Qal ks2))]) ∧
         e1 = [(1, .c (.pp [.int .i64 q.params, .int .i64 q.regs, .sl fl 5 (Qq q.blocks)])), (3, .c (.ptr l 0)), (5, .c (.bool a)), (6, .c (.int .i64 b)), (7, .c (.mp M)), (53, .c (.sl false 2 (Qbi y.phis))), (54, .c (.int .i64 y.phis.length)), (55, .c (.int .i64 i2))]) y.phis.length ?_ ?_))
        ·exact ⟨0, ver, ks, by omega, by omega, hnd, hlt, fun r => by simp, kn, rfl⟩
        ·clear kn
         rintro m2 e1 H7 ⟨i2, ver2, ks2, hm2, hi2, hnd2, hlt2, hks2, kn, rfl⟩
         refine Qa ?_
         simp only [go_sem]
         refine Qg (Qd rfl ?_ ?_)
         ·intro hc2
          have hl2 : i2 < y.phis.length := by simpa using hc2
          obtain ⟨p, hp⟩ : ∃ p, y.phis[i2] = p := ⟨_, rfl⟩
          have hpm : p ∈ y.phis := by rw [← hp]; exact List.getElem_mem hl2
          obtain ⟨hv, hvl⟩ := (hyo.pto p hpm).nat
          have htk3 : ((Qu q).ph b).take (i2 + 1) = ((Qu q).ph b).take i2 ++ [p.to.toNat] := by
           rw [List.take_succ_eq_append_getElem (by rw [hph, List.length_map]; exact hl2)]
           simp [hph, hp]
          generalize hr : p.to.toNat = r at *
          refine Qf ?_
          try simp only [go_sem]
          refine Qg (Qc ?_)
          refine Qa ?_
          simp only [go_sem, hl2, Qah, Qbf _ _ hl2, PhiD.cells, hp]
          intro x9 hx9 H8 h8
          have kn := kn.al hx9 h8
          have hx9 : H8 x9 = .st [.int .i64 0, .sl true 1 []] := (kn.get (x9, .st [.int .i64 0, .sl true 1 []]) (by simp)).1
          simp only [go_sem, Qsn, hx9]
          intro H9 h9
          have kn : Kn H0 H9 E ((B ++ [(M, .map ver2 (Qal ks2))]) ++ [(x9, .st [.int .i64 p.to, .sl false 1 (Qh p.args)])]) := by
           have := kn.stL (B ++ [(M, Obj.map ver2 (Qal ks2))]).length (x := x9) (o := .st [.int .i64 0, .sl true 1 []]) (by simp) h9
           simpa using this
          have hx9 : H9 x9 = .st [.int .i64 p.to, .sl false 1 (Qh p.args)] := (kn.get (x9, .st [.int .i64 p.to, .sl false 1 (Qh p.args)]) (by simp)).1
          have kn := kn.drop
          have hM : H9 M = .map ver2 (Qal ks2) := (kn.get (M, .map ver2 (Qal ks2)) (by simp)).1
          refine Qp ?_
          simp only [go_sem, hx9, hM, hv, Qd3, Qeo, Qahj]
          intro H10 h10
          have kn : Kn H0 H10 E (B ++ [(M, .map (ver2 + 1) (Qal (ks2.erase r)))]) := by
           have := kn.stL B.length (x := M) (o := .map ver2 (Qal ks2)) (by simp) h10
           simpa using this
          refine Qp ?_
          simp only [go_sem, X.next]
          refine ⟨Qn (by omega) (by omega), y.phis.length - (i2 + 1), by omega, i2 + 1, ver2 + 1, ks2.erase r, rfl, by omega, hnd2.erase _, Qaxp hlt2, fun z => ?_, kn, rfl⟩
          rw [Qahz hnd2, hks2, htk3]
          simp only [List.mem_append, List.mem_singleton, not_or, and_assoc]
         ·intro hc2
          have hge2 : y.phis.length ≤ i2 := by simpa using hc2
          have hks3 : ∀ r, r ∈ ks2 ↔ (Qu q).inT (asS (Qre ss)) b r := fun r => by
           rw [hks2, hks, List.take_of_length_le (by rw [hph, List.length_map]; exact hge2)]; rfl
          have hkl := Qbc hnd2 hlt2
          subst hB
          obtain ⟨hl, hyi, hyp⟩ := Qou (kn.drop).mid
          have hM : H7 M = .map ver2 (Qal ks2) := (kn.get (M, .map ver2 (Qal ks2)) (by simp)).1
          have htks : (Qlk ss).take i = Qlk ss := List.take_of_length_le (by rw [Qdu]; omega)
          have hkb : Qre ss b = s.ks := by rw [Qa96 hbs, hs]
          have hsi : ss.length = i := by omega
          refine Qs ?_
          simp only [go_sem, X.next]
          have hsc : Qyf H7 s.c ∧ Qau H7 s.c = Qal s.ks ∧ s.c.isOw = false := by
           refine ⟨?_, ?_, hso.isOw⟩ <;> rcases hso.m with ⟨h1, _, h2⟩ | ⟨N, v, h1, h2⟩
           ·rw [h1]; trivial
           ·have := Qx8 (kn.drop).mid hsm h2
            rw [h1]; simp only [Qyf, this]
           ·rw [h1, h2]; rfl
           ·have := Qx8 (kn.drop).mid hsm h2
            rw [h1]; simp only [Qau, this]
          obtain ⟨hok1, hen1, hcw1⟩ := hsc
          have hok1 := eq_true hok1
          have hslen := hso.len
          have hokM : Qyf H7 (.mp M) = True := by simp only [Qyf, hM]
          have henM : Qau H7 (.mp M) = Qal ks2 := by simp only [Qau, hM]
          refine Qar ?_
          simp only [go_sem, hl, hyi, hM, htks, Qdu, Qkd _ _ hbs, hs, hbn, hn, hsi, hok1, hen1, hcw1, hokM, henM, Qeo, Nat.zero_add, Nat.le_refl]
          refine Qd rfl ?_ ?_
          ·intro hc3
           have hne : ¬ ks2.length = (Qre ss b).length := by rw [hkb]; simp at hc3; omega
           obtain ⟨g1, g2⟩ := hinv.step hfit hbF hnd2 hlt2 hks3 hne
           rw [hFn, hn] at g2
           have hks' := Qa6m (s := ⟨.mp M, [(M, .map ver2 (Qal ks2))], ks2⟩) hbs
           refine Qp ?_
           simp only [go_sem, hl, hyi, htks, Qdu, Qkd _ _ hbs, hs, hbn, hn, hsi, Nat.zero_add, Nat.le_refl]
           intro H8 h8
           have hrow : (Qlk ss).set b [.mp M] = Qlk (ss.set b ⟨.mp M, [(M, .map ver2 (Qal ks2))], ks2⟩) := by simp [Qlk, List.map_set]
           rw [hrow] at h8
           have k5 : Kn H0 H8 E (((([(l, .st [.int .i64 q.params, .int .i64 q.regs, .sl fl 5 (Qq q.blocks), .vsl yi 1 0 q.blocks.length, .vsl yp 1 0 q.blocks.length]), (yi, .vec 1 (Qlk (ss.set b ⟨.mp M, [(M, .map ver2 (Qal ks2))], ks2⟩))), (yp, .vec 1 pr)] ++ ss.flatMap SetO.lg) ++ L) ++ [(M, .map ver2 (Qal ks2))])) := kn.stL 1 (x := yi) (o := .vec 1 (Qlk ss)) rfl h8
           have kn : Kn H0 H8 E ((imE q fl l yi yp (ss.set b ⟨.mp M, [(M, .map ver2 (Qal ks2))], ks2⟩) pr ++ L) ++ ss[b].lg) := by
            refine k5.perm (Q8 fun f hf h0 hc hp => ?_)
            have e1 := hp _ _ (Qfn SetO.lg ss b hbs)
            have e2 := hp _ _ (Qec SetO.lg ss b ⟨.mp M, [(M, .map ver2 (Qal ks2))], ks2⟩ hbs)
            simp only [hf] at e1 e2
            simp only [imE, hf]
            omega
           have kn := kn.drop
           simp only [go_sem, Qpe]
           refine hnr _ _ ⟨ss.set b ⟨.mp M, [(M, .map ver2 (Qal ks2))], ks2⟩, true, ⟨by rw [List.length_set]; exact hsl, fun s2 hs2 => ?_, him.pl, him.p⟩, by rw [hks']; exact g1, by rw [hks']; exact Nat.le_of_lt g2, fun _ => .inr (by rw [hks']; exact g2), fun h => by simp at h, kn, rfl, rfl, rfl, rfl⟩
           rcases List.mem_or_eq_of_mem_set hs2 with h | rfl
           ·exact him.s s2 h
           ·exact ⟨hnd2, hlt2, .inr ⟨M, ver2, rfl, rfl⟩⟩
          ·intro hc3
           have heq : ks2.length = (Qre ss b).length := by rw [hkb]; simp at hc3; omega
           refine Qf ?_
           try simp only [go_sem]
           exact hnr _ _ ⟨ss, a, him, hinv, Nat.le_refl _, fun h => .inl h, fun h => ⟨h, rfl, hinv.same hbF hnd2 hks3 heq⟩, kn.drop, rfl, rfl, rfl, rfl⟩
       ·rintro e2 H6 ⟨ss2, a2, him2, hinv2, t1, t2, t3, kn, l1, l3, l5, l6⟩
        refine Qp ?_
        simp only [go_sem, X.next, l1, l3, l5, l6]
        refine ⟨Qn (by omega) (by omega), b, by omega, b, (b : Int) - 1, ss2, a2, rfl, by omega, rfl, him2, hinv2, by omega, fun ha => ?_, fun ha c hbc hci => ?_, kn, rfl⟩
        ·rcases t2 ha with h | h
         ·have := htt h; omega
         ·omega
        ·obtain ⟨u1, u2, u3⟩ := t3 ha
         rw [u2]
         by_cases hcb : c = b
         ·subst hcb; exact u3
         ·exact htf u1 c (by omega) hci
      ·intro hc
       have hlt0 : ¬ 0 ≤ j := by simpa using hc
       have hk0 : m1 = 0 := by omega
       subst hk0
       refine Qs ?_
       try simp only [go_sem, X.next]
       refine ⟨if a = true then i * q.regs.toNat + 1 - tot i (Qre ss) else 0, ?_, ss, a, rfl, him, hinv, fun ha b hb => htf ha b (by omega) hb, kn, by first | exact ⟨rfl, rfl⟩ | exact rfl | trivial⟩
       split
       ·have := htt ‹_›; omega
       ·omega
    ·intro haf
     have hcl := hcl haf
     refine Qs ?_
     simp only [go_sem, X.next]
     refine Qa ?_
     simp only [go_sem]
     refine Qj ?_
     simp only [go_sem, Qz, Q9, Q7i, List.mem_singleton, forall_eq, RS.op]
     exact hK l yi yp ss pr H4 him (fun b hb r => hinv.done (fun b hb => hcl b (by omega)) hb r) kn
end Go.AE.Y

namespace Go.AE.Y
attribute [local go_sem] cond_true cond_false Bool.not_true Bool.not_false
open Go.Proofs.Tryz
variable {H H0 F : Heap} {K : V → Heap → Prop} {E L : List (Nat × Obj)}
variable {q : CodeD} {fl : Bool} {l yi yp : Nat} {ss : List SetO} {pr : List (List C)}
theorem Qal8 (hK : ∀ H', Upd H H' [] → K (.c (.sl false 1 (Qa0 []))) H') : Qo prog Qap [.c .mnil] H K := by
 refine Q0 ?_
 refine Qb Qas Qet ?_
 refine Qa ?_
 simp only [go_sem]
 refine Qa ?_
 simp only [go_sem]
 refine Q2 ?_
 refine Qa ?_
 simp only [go_sem]
 intro it hit H1 h1
 have kn := (Kn.start0 H).al hit h1
 have hit1 := kn.l 0 rfl
 refine Qg (Qc (Qt (fun m e1 H2 => H2 = H1 ∧ e1 = [(3, .c (.sl true 1 [])), (6, .c (.itr it))]) 0 ⟨rfl, rfl⟩ ?_))
 rintro m e1 H2 ⟨rfl, rfl⟩
 refine Qa ?_
 simp only [go_sem, hit1, Qbb, List.getD_cons_zero]
 refine Qg (Qd rfl (fun h => by simp at h) fun _ => ?_)
 refine Qs ?_
 simp only [go_sem, X.next]
 refine Qa ?_
 simp only [go_sem]
 refine Qa1r trivial rfl rfl ?_
 refine Qa ?_
 simp only [go_sem]
 refine Qj ?_
 simp only [go_sem, Qz, Q9, Qcp, List.mem_singleton, forall_eq, RS.op]
 exact ⟨_, .c _ _ FrzR.nil.sl, hK _ kn.fin⟩
theorem Qaxb {R : Nat} {s : SetO} (hso : s.ok R) (hR : R ≤ 300) (hm : ∀ M ver, s.lg = [(M, .map ver (Qal s.ks))] → H M = .map ver (Qal s.ks)) (hK : ∀ H', Upd H H' [] → K (.c (.sl false 1 (Qa0 (Q00 R (fun r => r ∈ s.ks))))) H') :
  Qo prog Qap [.c s.c] H K := by
 have hkl := hso.len
 rcases hso.m with ⟨h1, _, h2⟩ | ⟨M, ver, h1, h2⟩
 ·rw [h1]
  refine Qal8 fun H' hu => ?_
  have e : Q00 R (fun r => r ∈ s.ks) = [] := by rw [h2]; simp [Q00]
  have := hK H' hu
  rw [e] at this; exact this
 ·rw [h1]
  refine Qll (hm M ver h2) hso.nd (by simp only [LIM]; omega) fun lst H' hu hasc hmem => ?_
  have e : lst = Q00 R (fun r => r ∈ s.ks) := Qahf hasc Q5s fun x => by
   rw [hmem, ascL_mem]; exact ⟨fun h => ⟨hso.lt x h, h⟩, fun h => h.2⟩
  rw [e]; exact hK H' hu
theorem Qa7i (ho : q.ok) (him : imOk q ss pr) (kn : Kn F H (imE q fl l yi yp ss pr) [])
  (hK : ∀ t Lg H', Gr Lg 1 (Q1 ((List.range q.blocks.length).map fun b => Q00 q.regs.toNat (tabS ss b))) t → Kn F H' (imE q fl l yi yp ss pr) Lg → K (.c t) H') :
  Qo prog Qbu [.c (.vsl yi 1 0 q.blocks.length), .c (.fn Qcw [])] H K := by
 have hb1 := ho.b1
 have hr1 := ho.r1
 have hsl := him.l
 have htks : (Qlk ss).take q.blocks.length = Qlk ss := List.take_of_length_le (by rw [Qdu]; omega)
 refine Qb Qas Qkx ?_
 refine Qa ?_
 simp only [go_sem]
 refine Qa ?_
 simp only [go_sem]
 refine Q2 ?_
 refine Qa ?_
 obtain ⟨hl, hyi, _⟩ := Qou kn
 simp only [go_sem, hyi, Qdu, hsl, Nat.zero_add, Nat.le_refl]
 intro _
 refine Qg (Qc (Qt (fun m e1 H1 => ∃ (i : Nat) (t : C) (Lg : List (Nat × Obj)), m = q.blocks.length - i ∧ i ≤ q.blocks.length ∧ Gr Lg 1 (Q1 ((List.range i).map fun b => Q00 q.regs.toNat (tabS ss b))) t ∧ Kn F H1 (imE q fl l yi yp ss pr) ([] ++ Lg) ∧
  e1 = [(1, .c (.fn Qcw [])), (5, .c t), (8, .c (.vsl yi 1 0 q.blocks.length)), (9, .c (.int .i64 q.blocks.length)), (10, .c (.int .i64 i))]) q.blocks.length ?_ ?_))
 ·exact ⟨0, _, [], by omega, by omega, .nil 1, kn, rfl⟩
 ·clear kn hl hyi
  rintro m e1 H1 ⟨i, t, Lg, hm, hi, hgr, kn, rfl⟩
  have htw := hgr.isOw
  refine Qa ?_
  simp only [go_sem, htw]
  refine Qg (Qd rfl ?_ ?_)
  ·intro hc
   have hlt : i < q.blocks.length := by simpa using hc
   have hls : i < ss.length := by omega
   obtain ⟨s, hs⟩ : ∃ s, ss[i] = s := ⟨_, rfl⟩
   have hsm : s ∈ ss := by rw [← hs]; exact List.getElem_mem hls
   have hso := him.s s hsm
   have hsw := hso.isOw
   obtain ⟨_, hyi, _⟩ := Qou kn
   refine Qf ?_
   try simp only [go_sem]
   refine Qg (Qc ?_)
   refine Qa ?_
   simp only [go_sem, htw, hyi, htks, Qdu, Qkd _ _ hls, hs, hsw, hlt, hsl, Nat.zero_add, Nat.le_refl]
   refine Qp ?_
   simp only [go_sem, htw, hsw, List.append_nil, List.map_nil]
   refine Qb Qas Q68 ?_
   refine Qa ?_
   simp only [go_sem, hsw]
   refine Qa ?_
   simp only [go_sem, hsw]
   refine Qaxb hso (by omega) (fun M ver h => Qx8 kn hsm h) fun H2 hu => ?_
   have kn := kn.call0 hu
   simp only [go_sem, Qhj]
   refine Qj ?_
   simp only [go_sem, Qz, Q9, Qo0, List.mem_singleton, forall_eq, RS.op]
   simp only [go_sem, Qco, htw]
   refine kn.growR (B := []) hgr (.mk' _ _ _ _) (by intro r hr; simp at hr; subst hr; rfl) (by simp only [Qa7, List.length_map, List.length_range, LIM, List.length_cons, List.length_nil]; omega) fun t2 Lg2 H3 hgr2 ht2 kn => ?_
   simp only [go_sem, Qcn, ht2]
   refine Qp ?_
   simp only [go_sem, X.next, ht2]
   refine ⟨Qn (by omega) (by omega), q.blocks.length - (i + 1), by omega, i + 1, t2, Lg2, rfl, by omega, ?_, kn, rfl⟩
   have e : tabS ss i = fun r => r ∈ s.ks := by funext r; rw [← hs]; exact propext (Qa5l hls r)
   rw [List.range_succ, List.map_append, List.map_singleton, ← Qtc, e]
   exact hgr2
  ·intro hc
   have hge : i = q.blocks.length := by have : q.blocks.length ≤ i := (by simpa using hc); omega
   subst hge
   refine Qs ?_
   simp only [go_sem, X.next]
   refine Qa ?_
   simp only [go_sem, htw]
   refine Qj ?_
   simp only [go_sem, Qz, Q9, Qdo, List.mem_singleton, forall_eq, RS.op, htw]
   exact hK t Lg H1 hgr kn
theorem Qamv (ho : q.ok) (h : ∀ b, b < q.blocks.length → ∀ r, tabS ss b r ↔ (Qu q).LI b r) {b : Nat} (hb : b < q.blocks.length) (r : Nat) : (Qu q).outT (tabS ss) b r ↔ (Qu q).LO b r :=
 Flo.outT_congr ho.fitsF h hb r
theorem Qaxx (ho : q.ok) (h : ∀ b, b < q.blocks.length → ∀ r, tabS ss b r ↔ (Qu q).LI b r) {b : Nat} (hb : b < q.blocks.length) (k r : Nat) : (Qu q).beh ((Qu q).outT (tabS ss) b) b k r ↔ (Qu q).LB b k r :=
 Flo.beh_congr (Qamv ho h hb) b k r
theorem Qarj {cs : List CodeD} {fl : Bool} {k : Int} (hfit : ∀ c ∈ cs, c.fits) (hK : ∀ (H' : Heap), Upd H H' [] → K (.c (.sl false 1 (Q1 (Qbp cs k Quw)))) H') :
  Qo prog Qkk [.ag [.sl fl 3 (Qm cs)], .c (.int .i64 k)] H K := by
 refine Q0 ?_
 refine Qb Qas Qamx ?_
 refine Qa ?_
 simp only [go_sem]
 refine Q2 ?_
 refine Qa ?_
 simp only [go_sem]
 refine Q5u hfit fun H1 hu => ?_
 have kn := (Kn.start0 H).call0 hu
 simp only [go_sem, Qo6]
 refine Qg (Qd rfl ?_ ?_)
 ·intro hc
  have hc := Qnl hc
  refine Qa ?_
  simp only [go_sem]
  refine Qj ?_
  simp only [go_sem, X.next, Qz, Q9, Qoz, List.mem_singleton, forall_eq, RS.op]
  have hK := hK _ kn.fin
  rw [Qbp, hc] at hK
  exact ⟨_, .c _ _ FrzR.nil.sl, hK⟩
 ·intro hc
  have hc := Qeq hc
  obtain ⟨m, hm, rfl, hok⟩ := Qdj hc
  have hcode : Qbp cs m Quw = Quw cs[m] := by rw [Qbp, if_pos hc]; simp [hm]
  rw [hcode] at hK
  refine Qf ?_
  try simp only [go_sem]
  refine Qa ?_
  simp only [go_sem, hm, Qr, Qy _ _ hm, CodeD.cells]
  refine Q5y hok kn fun l yi yp ss pr H2 him hlv kn => ?_
  obtain ⟨hl, _, _⟩ := Qou kn.mid
  simp only [go_sem, Qo8, hl]
  refine Qa7i (F := H2) hok him kn.mid fun t Lg H3 hgr k2 => ?_
  have kn := kn.comp k2 rfl
  simp only [go_sem, Qo7, hgr.isOw]
  refine Qj ?_
  simp only [go_sem, X.next, Qz, Q9, Qoz, List.mem_singleton, forall_eq, RS.op, hgr.isOw]
  have e : ((List.range cs[m].blocks.length).map fun b => Q00 cs[m].regs.toNat (tabS ss b)) = Quw cs[m] :=
   List.map_congr_left fun b hb => Qayo (hlv b (List.mem_range.1 hb))
  rw [e] at hgr
  exact ⟨_, .c _ _ (hgr.frz kn (Qfy _)), hK _ kn.fin⟩
set_option maxHeartbeats 1000000 in
theorem Q05 {cs : List CodeD} {fl : Bool} {k : Int} (hfit : ∀ c ∈ cs, c.fits) (hK : ∀ (H' : Heap), Upd H H' [] → K (.c (.sl false 1 (Q1 (Qbp cs k Qeu)))) H') :
  Qo prog Qed [.ag [.sl fl 3 (Qm cs)], .c (.int .i64 k)] H K := by
 refine Q0 ?_
 refine Qb Qas Qajd ?_
 refine Qa ?_
 simp only [go_sem]
 refine Q2 ?_
 refine Qa ?_
 simp only [go_sem]
 refine Q5u hfit fun H1 hu => ?_
 have kn := (Kn.start0 H).call0 hu
 simp only [go_sem, Qlw]
 refine Qg (Qd rfl ?_ ?_)
 ·intro hc
  have hc := Qnl hc
  refine Qa ?_
  simp only [go_sem]
  refine Qj ?_
  simp only [go_sem, X.next, Qz, Q9, Qk1, List.mem_singleton, forall_eq, RS.op]
  have hK := hK _ kn.fin
  rw [Qbp, hc] at hK
  exact ⟨_, .c _ _ FrzR.nil.sl, hK⟩
 ·intro hc
  have hc := Qeq hc
  obtain ⟨m, hm, rfl, hok⟩ := Qdj hc
  have hcode : Qbp cs m Qeu = Qeu cs[m] := by rw [Qbp, if_pos hc]; simp [hm]
  rw [hcode] at hK
  obtain ⟨q, hq⟩ : ∃ q, cs[m] = q := ⟨_, rfl⟩
  rw [hq] at hok hK
  have hb1 := hok.b1
  have hr1 := hok.r1
  refine Qf ?_
  try simp only [go_sem]
  refine Qa ?_
  simp only [go_sem, hm, Qr, Qy _ _ hm, CodeD.cells, hq]
  refine Q5y hok kn fun l yi yp ss pr H2 him hlv kn => ?_
  simp only [go_sem, Qlx]
  refine Qa ?_
  simp only [go_sem]
  refine Q2 ?_
  refine Qa ?_
  simp only [go_sem, hm, Qr, Qy _ _ hm, CodeD.cells, hq, Qk]
  intro _
  refine Qg (Qc (Qt (fun mm e1 H1 => ∃ (i : Nat) (t : C) (Lg : List (Nat × Obj)), mm = q.blocks.length - i ∧ i ≤ q.blocks.length ∧ Gr Lg 1 (Q1 ((List.range i).map fun b => Q00 q.regs.toNat ((Qu q).LO b))) t ∧ Kn H H1 [] (imE q false l yi yp ss pr ++ Lg) ∧
   e1 = [(5, .c (.ptr l 0)), (6, .c t), (24, .c (.int .i64 q.blocks.length)), (25, .c (.int .i64 i))]) q.blocks.length ?_ ?_))
  ·exact ⟨0, _, [], by omega, by omega, .nil 1, kn, rfl⟩
  ·clear kn
   rintro mm e1 H3 ⟨i, t, Lg, hmm, hi, hgr, kn, rfl⟩
   have htw := hgr.isOw
   refine Qa ?_
   simp only [go_sem, htw]
   refine Qg (Qd rfl ?_ ?_)
   ·intro hc2
    have hlt : i < q.blocks.length := by simpa using hc2
    refine Qf ?_
    try simp only [go_sem]
    refine Qg (Qc ?_)
    refine Qa ?_
    simp only [go_sem, htw]
    refine Qp ?_
    simp only [go_sem, htw]
    refine Qa80 (F := H3) hok hlt him kn.mid fun M ver ks H4 hnd hlt2 hks k2 => ?_
    have kn := kn.comp k2 rfl
    have hkl := Qbc hnd hlt2
    have hM : H4 M = .map ver (Qal ks) := (kn.get (M, .map ver (Qal ks)) (by simp)).1
    simp only [go_sem, Ql0, htw]
    refine Qll hM hnd (by simp only [LIM]; omega) fun lst H5 hu hasc hmem => ?_
    have kn := (kn.call0 hu).drop
    have e : lst = Q00 q.regs.toNat ((Qu q).LO i) := Qahf hasc Q5s fun x => by
     rw [hmem, hks, Qamv hok hlv hlt, ascL_mem]
     exact ⟨fun h => ⟨Flo.LO_lt hok.fitsF hok.bdF hlt x h, h⟩, fun h => h.2⟩
    rw [e]
    simp only [go_sem, Qlz, htw]
    refine kn.growR hgr (.mk' _ _ _ _) (by intro r hr; simp at hr; subst hr; rfl) (by simp only [Qa7, List.length_map, List.length_range, LIM, List.length_cons, List.length_nil]; omega) fun t2 Lg2 H6 hgr2 ht2 kn => ?_
    simp only [go_sem, Qly, ht2]
    refine Qp ?_
    simp only [go_sem, X.next, ht2]
    refine ⟨Qn (by omega) (by omega), q.blocks.length - (i + 1), by omega, i + 1, t2, Lg2, rfl, by omega, ?_, kn, rfl⟩
    rw [List.range_succ, List.map_append, List.map_singleton, ← Qtc]
    exact hgr2
   ·intro hc2
    have hge : i = q.blocks.length := by have : q.blocks.length ≤ i := (by simpa using hc2); omega
    subst hge
    refine Qs ?_
    simp only [go_sem, X.next]
    refine Qa ?_
    simp only [go_sem, htw]
    refine Qj ?_
    simp only [go_sem, X.next, Qz, Q9, Qk1, List.mem_singleton, forall_eq, RS.op, htw]
    exact ⟨_, .c _ _ (hgr.frz kn (Qfy _)), hK _ kn.fin⟩
theorem Qef {cs : List CodeD} {fl : Bool} {m b : Nat} {i : Int} (hfit : ∀ c ∈ cs, c.fits) (hg : Qxs cs = true) (hm : m < cs.length) (hb : b < cs[m].blocks.length) (hi : -1 ≤ i) (hi2 : i < cs[m].blocks[b].ins.length)
  (hK : ∀ (H' : Heap), Upd H H' [] → K (.c (.sl false 1 (Qa0 (Qdw cs[m] b (i + 1).toNat)))) H') :
  Qo prog Qbl [.ag [.sl fl 3 (Qm cs)], .c (.int .i64 m), .c (.int .i64 b), .c (.int .i64 i)] H K := by
 have hok := Qa5q hg hm
 have hhas : hasG cs m = true := by simp only [hasG, hg, Bool.true_and, decide_eq_true_eq]; omega
 obtain ⟨q, hq⟩ : ∃ q, cs[m] = q := ⟨_, rfl⟩
 obtain ⟨y, hy⟩ : ∃ y, cs[m].blocks[b] = y := ⟨_, rfl⟩
 rw [hy] at hi2
 subst hq
 have hb1 := hok.b1
 have hr1 := hok.r1
 have hil := (hok.il b hb).1
 rw [hy] at hil
 refine Q0 ?_
 refine Qb Qas Q67 ?_
 refine Qa ?_
 simp only [go_sem]
 refine Q2 ?_
 refine Qa ?_
 simp only [go_sem]
 refine Q5u hfit fun H1 hu => ?_
 have kn := (Kn.start0 H).call0 hu
 rw [hhas]
 simp only [go_sem, Qhf, hm, Qr, Qy _ _ hm, CodeD.cells, Qk]
 intro _
 refine ⟨Qn (by omega) (by omega), ?_⟩
 refine Qca ?_
 have h1 : (decide (0 ≤ (b : Int)) && decide ((b : Int) ≤ (cs[m].blocks.length : Int) - 1)) = true := by simp; omega
 rw [h1]
 simp only [go_sem, Qhe, hm, Qr, Qy _ _ hm, CodeD.cells, hb, Qk, Q3 _ _ hb, BlkD.cells, hy, Qaf]
 intro _
 refine ⟨Qn (by omega) (by omega), ?_⟩
 refine Qca ?_
 have h2 : (decide (-1 ≤ i) && decide (i ≤ (y.ins.length : Int) - 1)) = true := by simp; omega
 rw [h2]
 simp only [go_sem, Qhd]
 refine Qg (Qd rfl (fun h => by simp at h) fun _ => ?_)
 refine Qf ?_
 try simp only [go_sem]
 refine Qa ?_
 simp only [go_sem, hm, Qr, Qy _ _ hm, CodeD.cells]
 refine Q5y hok kn fun l yi yp ss pr H2 him hlv kn => ?_
 simp only [go_sem, Qhi]
 refine Qais (F := H2) hok hb hi (by rw [hy]; exact hi2) him kn.mid fun M ver ks H3 hnd hlt hks k2 => ?_
 have kn := kn.comp k2 rfl
 have hkl := Qbc hnd hlt
 have hM : H3 M = .map ver (Qal ks) := (kn.get (M, .map ver (Qal ks)) (by simp)).1
 simp only [go_sem, Qhh]
 refine Qll hM hnd (by simp only [LIM]; omega) fun lst H4 hu hasc hmem => ?_
 have kn := kn.call0 hu
 have e : lst = Qdw cs[m] b (i + 1).toNat := Qahf hasc Q5s fun x => by
  rw [hmem, hks, Qaxx hok hlv hb, Qdw, ascL_mem]
  exact ⟨fun h => ⟨Flo.LB_lt hok.fitsF hok.bdF hb _ x h, h⟩, fun h => h.2⟩
 rw [e]
 simp only [go_sem, Qhg]
 refine Qj ?_
 simp only [go_sem, X.next, Qz, Q9, Qoy, List.mem_singleton, forall_eq, RS.op]
 exact ⟨_, .c _ _ (Q6u (Qg4 (Qkz _))), hK _ kn.fin⟩
end Go.AE.Y

namespace Go.AE.Y
attribute [local go_sem] cond_true cond_false Bool.not_true Bool.not_false
open Go.Proofs.Tryz
variable {H H0 F : Heap} {K : V → Heap → Prop} {E L : List (Nat × Obj)}
set_option maxHeartbeats 2000000 in
theorem Qams {cs : List CodeD} {fl : Bool} {k : Int} (hfit : ∀ c ∈ cs, c.fits) (hK : ∀ (H' : Heap), Upd H H' [] → K (.c (.int .i64 (Q3j cs k))) H') :
  Qo prog Qh6 [.ag [.sl fl 3 (Qm cs)], .c (.int .i64 k)] H K := by
 refine Q0 ?_
 refine Qb Qas Qaje ?_
 refine Qa ?_
 simp only [go_sem]
 refine Q2 ?_
 refine Qa ?_
 simp only [go_sem]
 refine Q5u hfit fun H1 hu => ?_
 have kn := (Kn.start0 H).call0 hu
 simp only [go_sem, Ql1]
 refine Qg (Qd rfl ?_ ?_)
 ·intro hc
  have hc := Qnl hc
  refine Qa ?_
  simp only [go_sem]
  refine Qj ?_
  simp only [go_sem, X.next, Qz, Q9, Qk2, List.mem_singleton, forall_eq, RS.op]
  have hK := hK _ kn.fin
  rw [Q3j, hc] at hK
  exact ⟨_, .c _ _ (Qi rfl), hK⟩
 ·intro hc
  have hc := Qeq hc
  obtain ⟨m, hm, rfl, hok⟩ := Qdj hc
  have hcode : Q3j cs m = (Qad0 cs[m] : Nat) := by rw [Q3j, if_pos hc]; simp [hm]
  rw [hcode] at hK
  obtain ⟨q, hq⟩ : ∃ q, cs[m] = q := ⟨_, rfl⟩
  rw [hq] at hok hK
  have hr1 := hok.r1
  have hb1 := hok.b1
  refine Qf ?_
  try simp only [go_sem]
  refine Qa ?_
  simp only [go_sem, hm, Qr, Qy _ _ hm, CodeD.cells, hq]
  refine Q5y hok kn fun l yi yp ss pr H2 him hlv kn => ?_
  simp only [go_sem, Ql2]
  refine Q2 ?_
  refine Qa ?_
  simp only [go_sem, hm, Qr, Qy _ _ hm, CodeD.cells, hq, Qk]
  intro _
  refine Qg (Qc (Qt (fun mm e1 H1 => ∃ (b : Nat), mm = q.blocks.length - b ∧ b ≤ q.blocks.length ∧ Kn H H1 [] (imE q false l yi yp ss pr ++ []) ∧
   e1 = [(5, .c (.ptr l 0)), (6, .c (.int .i64 (mxF (Quk q) b : Nat))), (25, .c (.sl false 5 (Qq q.blocks))), (26, .c (.int .i64 q.blocks.length)), (27, .c (.int .i64 b))]) q.blocks.length ?_ ?_))
  ·exact ⟨0, by omega, by omega, kn, rfl⟩
  ·clear kn
   rintro mm e1 H3 ⟨b, hmm, hb, kn, rfl⟩
   have hup := Q08 (Qul q) b
   refine Qa ?_
   simp only [go_sem]
   refine Qg (Qd rfl ?_ ?_)
   ·intro hc2
    have hlt : b < q.blocks.length := by simpa using hc2
    have hil := (hok.il b hlt).1
    obtain ⟨y, hy⟩ : ∃ y, q.blocks[b] = y := ⟨_, rfl⟩
    rw [hy] at hil
    refine Qf ?_
    try simp only [go_sem]
    refine Qg (Qc ?_)
    refine Qa ?_
    simp only [go_sem, hlt, Qk, Q3 _ _ hlt, BlkD.cells, hy]
    intro x8 hx8 H4 h4
    have kn := kn.al hx8 h4
    have hx8 : H4 x8 = .st [.sl true 2 [], .sl true 4 [], .int .i64 0, .int .i64 0, .sl true 1 []] := (kn.get (x8, .st [.sl true 2 [], .sl true 4 [], .int .i64 0, .int .i64 0, .sl true 1 []]) (by simp)).1
    simp only [go_sem, Ql3, hx8]
    intro H5 h5
    have kn : Kn H H5 [] (imE q false l yi yp ss pr ++ [(x8, Q01 y)]) := by
     have := kn.stL (imE q false l yi yp ss pr ++ []).length (x := x8) (o := .st [.sl true 2 [], .sl true 4 [], .int .i64 0, .int .i64 0, .sl true 1 []]) (by simp) h5
     simpa [Q01] using this
    refine Qa ?_
    simp only [go_sem]
    refine Qc (Qt (fun m2 e1 H1 => ∃ (k : Nat), m2 = y.ins.length + 1 - k ∧ k ≤ y.ins.length + 1 ∧ Kn H H1 [] (imE q false l yi yp ss pr ++ [(x8, Q01 y)]) ∧
     e1 = [(5, .c (.ptr l 0)), (6, .c (.int .i64 (upTo q b k : Nat))), (7, .c (.int .i64 b)), (8, .c (.ptr x8 0)), (9, .c (.int .i64 ((k : Int) - 1))), (25, .c (.sl false 5 (Qq q.blocks))), (26, .c (.int .i64 q.blocks.length)), (27, .c (.int .i64 b))]) (y.ins.length + 1) ?_ ?_)
    ·exact ⟨0, by omega, by omega, kn, by rw [Qadh]; rfl⟩
    ·clear kn hx8
     rintro m2 e1 H6 ⟨k, hm2, hk, kn, rfl⟩
     have hx8 : H6 x8 = .st [.sl false 2 (Qbi y.phis), .sl false 4 (Qbz y.ins), .int .i64 y.jump, .int .i64 y.on, .sl false 1 (Qh y.next)] := (kn.get (x8, Q01 y) (by simp)).1
     have hup := Qaxh q b k
     refine Q2 ?_
     refine Qa ?_
     simp only [go_sem, hx8, Qaf]
     intro _
     refine Qg (Qd rfl ?_ ?_)
     ·intro hc3
      have hlt2 : (k : Int) - 1 < y.ins.length := by simpa using hc3
      refine Qf ?_
      try simp only [go_sem]
      refine Qg (Qc ?_)
      refine Qp ?_
      simp only [go_sem]
      refine Qais (F := H6) hok hlt (by omega) (by rw [hy]; exact hlt2) him kn.mid fun M ver ks H7 hnd hlt3 hks k2 => ?_
      have kn := kn.comp k2 rfl
      have hkl := Qbc hnd hlt3
      have hM : H7 M = .map ver (Qal ks) := (kn.get (M, .map ver (Qal ks)) (by simp)).1
      have ek : ((k : Int) - 1 + 1).toNat = k := by omega
      rw [ek] at hks
      have hcount : ks.length = (Qdw q b k).length := Qad1 hnd (Qa1v Q5s) fun x => by
       rw [hks, Qaxx hok hlv hlt, Qdw, ascL_mem]
       exact ⟨fun h => ⟨Flo.LB_lt hok.fitsF hok.bdF hlt _ x h, h⟩, fun h => h.2⟩
      have hokM : Qyf H7 (.mp M) = True := by simp only [Qyf, hM]
      have henM : Qau H7 (.mp M) = Qal ks := by simp only [Qau, hM]
      simp only [go_sem, Ql4, hokM, henM, Qeo, hcount, Qa3l]
      have hbn := Quj q b k
      try intro _
      refine Qp ?_
      simp only [go_sem, X.next]
      refine ⟨Qn (by omega) (by omega), y.ins.length + 1 - (k + 1), by omega, k + 1, rfl, by omega, kn.drop, ?_⟩
      rw [Qadg]
      have : (k : Int) - 1 + 1 = ((k + 1 : Nat) : Int) - 1 := by omega
      rw [this]
     ·intro hc3
      have hk2 : k = y.ins.length + 1 := by have : ¬ (k : Int) - 1 < y.ins.length := (by simpa using hc3); omega
      subst hk2
      have hue := Qama hlt
      rw [hy] at hue
      rw [hue]
      refine Qs ?_
      simp only [go_sem, X.next]
      refine Qp ?_
      simp only [go_sem, X.next]
      exact ⟨Qn (by omega) (by omega), q.blocks.length - (b + 1), by omega, b + 1, rfl, by omega, by simpa using kn.drop, rfl⟩
   ·intro hc2
    have hbe : b = q.blocks.length := by have : q.blocks.length ≤ b := (by simpa using hc2); omega
    subst hbe
    refine Qs ?_
    simp only [go_sem, X.next]
    refine Qa ?_
    simp only [go_sem]
    refine Qj ?_
    simp only [go_sem, X.next, Qz, Q9, Qk2, List.mem_singleton, forall_eq, RS.op]
    exact ⟨_, .c _ _ (Qi rfl), hK _ kn.fin⟩
end Go.AE.Y

namespace Go.AE.Y
attribute [local go_sem] cond_true cond_false Bool.not_true Bool.not_false
open Go.Proofs.Tryz
variable {H H0 : Heap} {K : V → Heap → Prop} {E B Lg : List (Nat × Obj)}
theorem Qai2 {S : Nat → Bool} {a b a' b' : V} (h : FrzV H S a a') (k : FrzV H S b b') : FrzV H S (.tup [a, b]) (.tup [a', b']) := by
 refine .tup _ _ rfl fun j x x' h1 h2 => ?_
 match j with
 | 0 => simp at h1 h2; subst h1; subst h2; exact h
 | 1 => simp at h1 h2; subst h1; subst h2; exact k
 | j + 2 => simp at h1
theorem Q53 {S : Nat → Bool} (cs : List CodeD) : FrzV H S (.ag [.sl false 3 (Qm cs)]) (.ag [.sl false 3 (Qm cs)]) := FrzL.ag (.cons (FrzR.same (Qc1 cs)).sl .nil)
theorem UnitOk.fits {cs : List CodeD} (h : UnitOk cs) : ∀ c ∈ cs, c.fits := fun c hc => (h.2.2 c hc).f
theorem Q6y {R : Rdr} {k : Nat} (hH : H R.l = R.o k) (hk : k + 7300000 ≤ 2^30)
  (hK : ∀ (cs : List CodeD) (n : Int) (H' : Heap) (k' : Nat), k < k' → k' ≤ k + 7200000 → Upd H H' [(R.l, R.o k')] → UnitOk cs → -1 ≤ n → n ≤ 4 → K (.tup [.ag [.sl false 3 (Qm cs)], .c (.int .i64 n)]) H') :
  Qo prog Qi3 [.c (.ptr R.l 0)] H K := by
 refine Q0 ?_
 refine Qb Qas Qa25 ?_
 refine Qa ?_
 simp only [go_sem]
 intro x2 hx2 H1 h1
 have kn := (Kn.start1 hH (R.o_ne k)).al hx2 h1
 simp only [go_sem, Q1s]
 refine Qa ?_
 simp only [go_sem]
 refine Qa2p (kn.e 0 rfl) (by omega) fun cs H3 k2 hk3 hk4 hu hok => ?_
 have kn := kn.callE 0 rfl hu (R.o_ne _)
 simp only [go_sem, Q1u]
 intro x4 hx4 H4 h4
 have kn := kn.al hx4 h4
 have hx4 := kn.l 1 rfl
 simp only [go_sem, Q1t, hx4]
 intro H5 h5
 have kn := kn.stL 1 rfl h5
 have hx4 := kn.l 1 rfl
 have hcl := hok.2.1
 have hcl0 := hok.1
 refine Qar ?_
 simp only [go_sem, hx4, Qr]
 refine ⟨Qn (by omega) (by omega), Qn (by omega) (by omega), ?_⟩
 refine Qig (ns := [(cs.length : Int) - 1, 0, (cs.length : Int) - 1, -1, (cs.length : Int)]) (kn.e 0 rfl) (by omega) (by simp) fun n H6 hn hu => ?_
 have kn := kn.callE 0 rfl hu (R.o_ne _)
 have hx4 := kn.l 1 rfl
 have hx2 := kn.l 0 rfl
 simp only [go_sem, Q1w, hx4, hx2]
 intro H7 h7
 have kn := kn.stL 0 rfl h7
 have hx2 := kn.l 0 rfl
 simp only [go_sem, Q1v]
 refine Qj ?_
 simp only [go_sem, Qz, Q9, Qani, List.forall_mem_cons, List.not_mem_nil, RS.op, hx2]
 have hb : -1 ≤ n ∧ n ≤ 4 := by
  simp only [List.mem_cons, List.not_mem_nil, or_false] at hn
  omega
 exact ⟨fun _ => trivial, _, Qai2 (Q53 cs) (.c _ _ (Qi rfl)), hK cs n _ _ (by omega) (by omega) kn.fin hok hb.1 hb.2⟩
theorem Qadj {fl : Bool} {bs : List UInt8} (hK : ∀ (cs : List CodeD) (n : Int) H', Upd H H' [] → UnitOk cs → -1 ≤ n → n ≤ 4 → K (.tup [.ag [.sl false 3 (Qm cs)], .c (.int .i64 n)]) H') :
  Qo prog Qdh [.c (.sl fl 1 (Qba bs))] H K := by
 refine Q0 ?_
 refine Qb Qas Qyd ?_
 refine Qa ?_
 simp only [go_sem]
 intro x2 hx2 H1 h1
 have kn := (Kn.start0 H).al hx2 h1
 simp only [go_sem, Qe0]
 refine Qa ?_
 simp only [go_sem]
 refine Q60 fun R H2 hR h2 => ?_
 have kn := kn.al hR h2 (R.o_ne 0)
 simp only [go_sem, Qe3]
 refine Q6y (kn.l 1 rfl) (by omega) fun cs n H3 k2 hk3 hk4 hu hok hn1 hn2 => ?_
 have kn := kn.callL 1 rfl hu (R.o_ne _)
 have hx2 := kn.l 0 rfl
 simp only [go_sem, Qe2, List.getD_cons_zero, List.getD_cons_succ, hx2]
 intro H4 h4
 have kn := kn.stL 0 rfl h4
 have hx2 := kn.l 0 rfl
 simp only [go_sem, Qe1]
 refine Qj ?_
 simp only [go_sem, Qz, Q9, Qjk, List.forall_mem_cons, List.not_mem_nil, RS.op, hx2]
 exact ⟨fun _ => trivial, _, Qai2 (Q53 cs) (.c _ _ (Qi rfl)), hK cs n _ kn.fin hok hn1 hn2⟩
set_option maxHeartbeats 2000000 in
theorem FnMostLive_c {bs : List UInt8} (hK : ∀ H', K (.c (.bool true)) H') : Qo prog Qlr [.c (.sl false 1 (Qba bs))] H K := by
 refine Qb Qas Q7a ?_
 have retT' : ∀ (e : Env) (H' : Heap), lk 2 e = .c (.bool true) → Qz Qf2 K .ret e H' := by
  intro e H' h2
  simp only [go_sem, Qz, Q9, Qf2, List.mem_singleton, forall_eq, RS.op, h2]
  exact hK H'
 refine Qa ?_
 simp only [go_sem]
 refine Q2 ?_
 refine Qa ?_
 simp only [go_sem, Qak]
 intro _
 refine Qg (Qd rfl (fun hc => ?_) (fun hc => ?_))
 ·refine Qa ?_
  simp only [go_sem]
  refine Qj ?_
  exact retT' _ _ rfl
 refine Qf ?_
 try simp only [go_sem]
 refine Qa ?_
 simp only [go_sem]
 refine Qadj fun cs n H1 hu hok hn1 hn2 => ?_
 have hfit := hok.fits
 have kn := (Kn.start0 H).call0 hu
 simp only [go_sem, Qh0, List.getD_cons_zero, List.getD_cons_succ]
 intro x3 hx3 H2 h2
 have kn := kn.al hx3 h2
 have hx3 := kn.l 0 rfl
 simp only [go_sem, Qhz, hx3]
 intro H3 h3
 have kn : Kn H H3 [] [(x3, .st [.sl false 3 (Qm cs)])] := kn.stL 0 rfl h3
 have hx3 := kn.l 0 rfl
 simp only [go_sem, Qhy]
 refine Qa ?_
 simp only [go_sem, hx3]
 refine Qams hfit fun H4 hu => ?_
 have kn := kn.call0 hu
 have hx3 := kn.l 0 rfl
 simp only [go_sem, Qh1]
 refine Q2 ?_
 refine Qa ?_
 simp only [go_sem, hx3]
 refine Q3e hfit fun H5 hu => ?_
 have kn := kn.call0 hu
 have hx3 := kn.l 0 rfl
 by_cases hhas : hasG cs n = true
 case neg =>
  have hm1 : Q3j cs n = -1 := by rw [Q3j, if_neg hhas]
  rw [hm1]
  have hn1 : decide ((-1 : Int) < 0) = true := rfl
  have he : decide ((-1 : Int) = -1) = true := rfl
  simp only [go_sem, Qdt, hn1, he]
  refine Qg (Qd rfl (fun _ => ?_) (fun h => by simp at h))
  refine Qa ?_
  simp only [go_sem, hx3]
  refine Q3e hfit fun H6 hu => ?_
  rw [hm1]
  simp only [go_sem, Qh2, hn1, he]
  refine Qj ?_
  exact retT' _ _ rfl
 case pos =>
  obtain ⟨m, hm, rfl, hqok⟩ := Qdj hhas
  have hg : Qxs cs = true := by simp only [hasG, Bool.and_eq_true] at hhas; exact hhas.1
  have hcode : Q3j cs m = (Qad0 cs[m] : Nat) := by rw [Q3j, if_pos hhas]; simp [hm]
  rw [hcode]
  obtain ⟨q, hq⟩ : ∃ q, cs[m] = q := ⟨_, rfl⟩
  have hqok' : q.ok := by rw [← hq]; exact hqok
  rw [hq]
  have hr1 := hqok'.r1
  have hr0 := hqok'.r0
  have hb1 := hqok'.b1
  have hmle := Qa7j q
  have hn0 : decide (((Qad0 q : Nat) : Int) < 0) = false := by simp
  simp only [go_sem, Qdt, hn0, not_true_eq_false, decide_false, decide_true]
  refine Qg (Qd rfl (fun h => by simp at h) (fun _ => ?_))
  refine Qf ?_
  try simp only [go_sem]
  refine Qa ?_
  simp only [go_sem]
  refine Q2 ?_
  refine Qa ?_
  simp only [go_sem, hx3, hm, Qr, Qy _ _ hm, CodeD.cells, hq, Qk]
  intro _
  refine Qg (Qc (Qt (fun mm e1 H1 => ∃ (b : Nat), mm = q.blocks.length - b ∧ b ≤ q.blocks.length ∧ Kn H H1 [] [(x3, .st [.sl false 3 (Qm cs)])] ∧
   e1 = [(3, .c (.ptr x3 0)), (4, .c (.int .i64 m)), (5, .c (.int .i64 (Qad0 q : Nat))), (6, .c (.int .i64 (mxF (Quk q) b : Nat))), (44, .c (.sl false 5 (Qq q.blocks))), (45, .c (.int .i64 q.blocks.length)), (46, .c (.int .i64 b))]) q.blocks.length ?_ ?_))
  ·exact ⟨0, by omega, by omega, kn, rfl⟩
  ·clear kn hx3
   rintro mm e1 H6 ⟨b, hmm, hb, kn, rfl⟩
   have hup := Q08 (Qul q) b
   refine Qa ?_
   simp only [go_sem]
   refine Qg (Qd rfl ?_ ?_)
   ·intro hc2
    have hlt : b < q.blocks.length := by simpa using hc2
    have hltc : b < cs[m].blocks.length := by rw [hq]; exact hlt
    have hil := (hqok'.il b hlt).1
    obtain ⟨y, hy⟩ : ∃ y, q.blocks[b] = y := ⟨_, rfl⟩
    have hyc : cs[m].blocks[b].ins.length = y.ins.length := by subst hq; rw [hy]
    rw [hy] at hil
    refine Qf ?_
    try simp only [go_sem]
    refine Qg (Qc ?_)
    refine Qa ?_
    simp only [go_sem, hlt, Qk, Q3 _ _ hlt, BlkD.cells, hy]
    intro x8 hx8 H7 h7
    have kn := kn.al hx8 h7
    have hx8 := kn.l 1 rfl
    simp only [go_sem, Qh3, hx8]
    intro H8 h8
    have kn : Kn H H8 [] ([(x3, .st [.sl false 3 (Qm cs)])] ++ [(x8, Q01 y)]) := kn.stL 1 rfl h8
    refine Qa ?_
    simp only [go_sem]
    refine Qc (Qt (fun m2 e1 H1 => ∃ (k : Nat), m2 = y.ins.length + 1 - k ∧ k ≤ y.ins.length + 1 ∧ Kn H H1 [] ([(x3, .st [.sl false 3 (Qm cs)])] ++ [(x8, Q01 y)]) ∧
     e1 = [(3, .c (.ptr x3 0)), (4, .c (.int .i64 m)), (5, .c (.int .i64 (Qad0 q : Nat))), (6, .c (.int .i64 (upTo q b k : Nat))), (7, .c (.int .i64 b)), (8, .c (.ptr x8 0)), (9, .c (.int .i64 ((k : Int) - 1))), (44, .c (.sl false 5 (Qq q.blocks))), (45, .c (.int .i64 q.blocks.length)), (46, .c (.int .i64 b))]) (y.ins.length + 1) ?_ ?_)
    ·exact ⟨0, by omega, by omega, kn, by rw [Qadh]; rfl⟩
    ·clear kn hx8
     rintro m2 e1 H9 ⟨k, hm2, hk, kn, rfl⟩
     have hx8 : H9 x8 = .st [.sl false 2 (Qbi y.phis), .sl false 4 (Qbz y.ins), .int .i64 y.jump, .int .i64 y.on, .sl false 1 (Qh y.next)] := kn.l 1 rfl
     have hx3 := kn.l 0 rfl
     have hup := Qaxh q b k
     refine Q2 ?_
     refine Qa ?_
     simp only [go_sem, hx8, Qaf]
     intro _
     refine Qg (Qd rfl ?_ ?_)
     ·intro hc3
      have hlt2 : (k : Int) - 1 < y.ins.length := by simpa using hc3
      refine Qf ?_
      try simp only [go_sem]
      refine Qg (Qc ?_)
      refine Qp ?_
      simp only [go_sem, hx3]
      refine Qef hfit hg hm hltc (by omega) (by rw [hyc]; exact hlt2) fun H10 hu => ?_
      have kn := kn.call0 hu
      have ek : ((k : Int) - 1 + 1).toNat = k := by omega
      have hbn := Quj q b k
      rw [ek, hq]
      simp only [go_sem, Qh4, Qb8, Qa3l]
      intro _
      refine Qp ?_
      simp only [go_sem, X.next]
      refine ⟨Qn (by omega) (by omega), y.ins.length + 1 - (k + 1), by omega, k + 1, rfl, by omega, kn, ?_⟩
      rw [Qadg]
      have : (k : Int) - 1 + 1 = ((k + 1 : Nat) : Int) - 1 := by omega
      rw [this]
     ·intro hc3
      have hk2 : k = y.ins.length + 1 := by have : ¬ (k : Int) - 1 < y.ins.length := (by simpa using hc3); omega
      subst hk2
      have hue := Qama hlt
      rw [hy] at hue
      rw [hue]
      refine Qs ?_
      simp only [go_sem, X.next]
      refine Qp ?_
      simp only [go_sem, X.next]
      exact ⟨Qn (by omega) (by omega), q.blocks.length - (b + 1), by omega, b + 1, rfl, by omega, kn.drop, rfl⟩
   ·intro hc2
    have hbe : b = q.blocks.length := by have : q.blocks.length ≤ b := (by simpa using hc2); omega
    subst hbe
    have hx3 := kn.l 0 rfl
    have hmn : mxF (Quk q) q.blocks.length = Qad0 q := rfl
    have hle : decide (((Qad0 q : Nat) : Int) ≤ q.regs) = true := by simp; omega
    rw [hmn]
    refine Qs ?_
    simp only [go_sem, X.next]
    refine Qa ?_
    simp only [go_sem, hx3, hm, Qr, Qy _ _ hm, CodeD.cells, hq, hle, decide_true]
    refine Qj ?_
    exact retT' _ _ rfl
end Go.AE.Y

namespace Go.AE.Y
attribute [local go_sem] cond_true cond_false Bool.not_true Bool.not_false
open Go.Proofs.Tryz
variable {H H0 : Heap} {K : V → Heap → Prop} {E B Lg : List (Nat × Obj)}
attribute [local instance] Classical.propDecidable
theorem Qa5t {x : InsD} (hl : x.args.length ≤ 2 ^ 38) (hK : ∀ ns H', Upd H H' [] → (∀ v, v ∈ ns ↔ v ∈ x.args) → K (.c (.sl false 1 (Qh ns))) H') : Qo prog Qoi [.ag x.cells] H K := by
 refine Qb Qas Qarn ?_
 refine Qa ?_
 simp only [go_sem, InsD.cells]
 refine Qa ?_
 simp only [go_sem]
 refine Qa8z hl fun ns H' hu _ hm _ => ?_
 simp only [go_sem, Qr7]
 refine Qj ?_
 simp only [go_sem, Qz, Q9, Q7g, List.mem_singleton, forall_eq, RS.op]
 exact hK ns H' hu hm
theorem Quu (l : List Nat) (r : Nat) : (l.map Int.ofNat).contains (r : Int) = decide (r ∈ l) := by
 rw [Bool.eq_iff_iff, List.contains_iff_mem, decide_eq_true_eq, List.mem_map]
 constructor
 ·rintro ⟨x, hx, he⟩
  have h2 : (x : Int) = (r : Int) := he
  have : x = r := by omega
  subst this; exact hx
 ·exact fun h => ⟨r, h, rfl⟩
theorem Qa58 {q : CodeD} {b : Nat} {y : BlkD} (hy : y.ok q b) {x : InsD} (hx : x ∈ y.ins) {ns : List Int} (hns : ∀ v, v ∈ ns ↔ v ∈ x.args) (r : Nat) : ns.contains (r : Int) = decide (r ∈ toN x.args) := by
 rw [Bool.eq_iff_iff, List.contains_iff_mem, decide_eq_true_eq, hns, toN, List.mem_map]
 constructor
 ·exact fun h => ⟨r, h, by simp⟩
 ·rintro ⟨v, hv, he⟩
  have := (hy.args x hx v hv).1
  have e : (r : Int) = v := by omega
  rw [e]; exact hv
theorem Qbao {q : CodeD} {b : Nat} {y : BlkD} (hy : y.ok q b) {x : InsD} (hx : x ∈ y.ins) (r : Nat) : decide (¬ Qnj x = (r : Int)) = decide (Qgu x ≠ some r) := by
 rw [decide_eq_decide]
 cases hm : Qdl x.op with
 | false => simp [Qnj, Qgu, hm]
 | true =>
  have := (hy.to x hx hm).1
  simp only [Qnj, Qgu, hm, if_true, ne_eq, Option.some.injEq]
  omega
theorem Qahi {cs : List CodeD} {n : Int} {f : CodeD → List (List Nat)} {b : Nat} (h : b < (Qbp cs n f).length) : hasG cs n = true := by
 cases hh : hasG cs n with
 | true => rfl
 | false => rw [Qbp, hh] at h; simp at h
theorem Qa1z {q : CodeD} (ho : q.ok) {b i : Nat} (hb : b < q.blocks.length) (hi : i < q.blocks[b].ins.length) {r : Nat} (hr : r < q.regs.toNat) :
  decide (r ∈ Qdw q b i) = (decide (r ∈ toN q.blocks[b].ins[i].args) || (decide (r ∈ Qdw q b (i + 1)) && decide (Qgu q.blocks[b].ins[i] ≠ some r))) := by
 have hins := Qoh hb
 have h1 : (Qu q).LB b i = Qay3 (Qgu q.blocks[b].ins[i], toN q.blocks[b].ins[i].args) ((Qu q).LB b (i + 1)) := by
  rw [Flo.LB, Flo.beh_step _ _ _ (by rw [hins, List.length_map]; exact hi)]
  simp only [hins, List.getElem_map]; rfl
 rw [Bool.eq_iff_iff]
 simp only [Qdw, ascL_mem, hr, true_and, h1, Qay3, decide_eq_true_eq, Bool.or_eq_true, Bool.and_eq_true]
theorem Qa1x {q : CodeD} (ho : q.ok) {b : Nat} (hb : b < q.blocks.length) {r : Nat} (hr : r ∈ Qdw q b q.blocks[b].ins.length) :
  r ∈ Q00 q.regs.toNat ((Qu q).LO b) ∨ (¬ q.blocks[b].jump = 1 ∧ q.blocks[b].on = (r : Int)) := by
 rw [Qdw, ascL_mem, Flo.LB, Flo.beh_end _ _ _ (by rw [Qoh hb, List.length_map]; exact Nat.le_refl _), Flo.endS, Q5w hb] at hr
 obtain ⟨h1, h2 | h2⟩ := hr
 ·exact .inl (ascL_mem.2 ⟨h1, h2⟩)
 ·split at h2
  ·simp at h2
  ·rename_i hj
   have := ((ho.bs b hb).on hj).1
   simp only [List.mem_singleton] at h2
   exact .inr ⟨hj, by omega⟩
theorem Qadi {fl : Bool} {bs : List UInt8} (hK : ∀ (cs : List CodeD) (n : Int) H', Upd H H' [] → UnitOk cs → -1 ≤ n → n ≤ 4 → K (.tup [.ag [.sl false 3 (Qm cs)], .c (.int .i64 n)]) H') :
  Qo prog Qdg [.c (.sl fl 1 (Qba bs))] H K := by
 refine Q0 ?_
 refine Qb Qas Qyc ?_
 refine Qa ?_
 simp only [go_sem]
 intro x2 hx2 H1 h1
 have kn := (Kn.start0 H).al hx2 h1
 simp only [go_sem, Qew]
 refine Qa ?_
 simp only [go_sem]
 refine Q60 fun R H2 hR h2 => ?_
 have kn := kn.al hR h2 (R.o_ne 0)
 simp only [go_sem, Qez]
 refine Q6y (kn.l 1 rfl) (by omega) fun cs n H3 k2 hk3 hk4 hu hok hn1 hn2 => ?_
 have kn := kn.callL 1 rfl hu (R.o_ne _)
 have hx2 := kn.l 0 rfl
 simp only [go_sem, Qey, List.getD_cons_zero, List.getD_cons_succ, hx2]
 intro H4 h4
 have kn := kn.stL 0 rfl h4
 have hx2 := kn.l 0 rfl
 simp only [go_sem, Qex]
 refine Qj ?_
 simp only [go_sem, Qz, Q9, Qjj, List.forall_mem_cons, List.not_mem_nil, RS.op, hx2]
 exact ⟨fun _ => trivial, _, Qai2 (Q53 cs) (.c _ _ (Qi rfl)), hK cs n _ kn.fin hok hn1 hn2⟩
set_option maxHeartbeats 4000000 in
theorem FnLiveOuts_c {bs : List UInt8} (hK : ∀ H', K (.c (.bool true)) H') : Qo prog Qlq [.c (.sl false 1 (Qba bs))] H K := by
 refine Qb Qas Q69 ?_
 have retT' : ∀ (e : Env) (H' : Heap), lk 2 e = .c (.bool true) → Qz Qf1 K .ret e H' := by
  intro e H' h2
  simp only [go_sem, Qz, Q9, Qf1, List.mem_singleton, forall_eq, RS.op, h2]
  exact hK H'
 refine Qa ?_
 simp only [go_sem]
 refine Q2 ?_
 refine Qa ?_
 simp only [go_sem, Qak]
 intro _
 refine Qg (Qd rfl (fun hc => ?_) (fun hc => ?_))
 ·refine Qa ?_
  simp only [go_sem]
  refine Qj ?_
  exact retT' _ _ rfl
 refine Qf ?_
 try simp only [go_sem]
 refine Qa ?_
 simp only [go_sem]
 refine Qadi fun cs n H1 hu hok hn1 hn2 => ?_
 have hfit := hok.fits
 have kn := (Kn.start0 H).call0 hu
 simp only [go_sem, Qht, List.getD_cons_zero, List.getD_cons_succ]
 intro x3 hx3 H2 h2
 have kn := kn.al hx3 h2
 have hx3 := kn.l 0 rfl
 simp only [go_sem, Qhs, hx3]
 intro H3 h3
 have kn : Kn H H3 [] [(x3, .st [.sl false 3 (Qm cs)])] := kn.stL 0 rfl h3
 have hx3 := kn.l 0 rfl
 simp only [go_sem, Qhr]
 refine Qa ?_
 simp only [go_sem, hx3]
 refine Q05 hfit fun H4 hu => ?_
 have kn := kn.call0 hu
 have hx3 := kn.l 0 rfl
 simp only [go_sem, Qhu]
 refine Qa ?_
 simp only [go_sem, hx3]
 refine Qaqt hfit fun H5 hu => ?_
 have kn := kn.call0 hu
 have hx3 := kn.l 0 rfl
 simp only [go_sem, Qhv]
 obtain ⟨Ls, hLs⟩ : ∃ Ls, Qbp cs n Qeu = Ls := ⟨_, rfl⟩
 rw [hLs]
 refine Q2 ?_
 refine Qa ?_
 simp only [go_sem, Qa7, not_true_eq_false, decide_false]
 intro hlim
 simp only [LIM] at hlim
 refine Qg (Qd rfl (fun h => by simp at h) (fun _ => ?_))
 refine Qf ?_
 try simp only [go_sem]
 refine Q2 ?_
 refine Qa ?_
 simp only [go_sem, Qa7]
 intro _
 refine Qg (Qc (Qt (fun mm e1 H1 => ∃ (b : Nat), mm = Ls.length - b ∧ b ≤ Ls.length ∧ Kn H H1 [] [(x3, .st [.sl false 3 (Qm cs)])] ∧
  e1 = [(3, .c (.ptr x3 0)), (4, .c (.int .i64 n)), (5, .c (.sl false 1 (Q1 Ls))), (6, .c (.sl false 1 (Q1 Ls))), (38, .c (.int .i64 Ls.length)), (39, .c (.int .i64 b))]) Ls.length ?_ ?_))
 ·exact ⟨0, by omega, by omega, kn, rfl⟩
 ·clear kn hx3
  rintro mm e1 H6 ⟨b, hmm, hb, kn, rfl⟩
  refine Qa ?_
  simp only [go_sem]
  refine Qg (Qd rfl ?_ ?_)
  ·intro hc2
   have hbL : b < Ls.length := by simpa using hc2
   have hhas := Qahi (cs := cs) (n := n) (f := Qeu) (b := b) (by rw [hLs]; exact hbL)
   obtain ⟨m, hm, rfl, hqok⟩ := Qdj hhas
   have hg : Qxs cs = true := by simp only [hasG, Bool.and_eq_true] at hhas; exact hhas.1
   have hcode : Ls = Qeu cs[m] := by rw [← hLs, Qbp, if_pos hhas]; simp [hm]
   obtain ⟨q, hq⟩ : ∃ q, cs[m] = q := ⟨_, rfl⟩
   rw [hq] at hqok hcode
   have hlt : b < q.blocks.length := by rw [hcode] at hbL; simpa [Qeu] using hbL
   have hLb : Ls[b] = Q00 q.regs.toNat ((Qu q).LO b) := by subst hcode; simp [Qeu]
   have hltc : b < cs[m].blocks.length := by rw [hq]; exact hlt
   have hr1 := hqok.r1
   have hr0 := hqok.r0
   have hb1 := hqok.b1
   have hil := (hqok.il b hlt).1
   obtain ⟨y, hy⟩ : ∃ y, q.blocks[b] = y := ⟨_, rfl⟩
   have hyo : y.ok q b := by rw [← hy]; exact hqok.bs b hlt
   have hyc : cs[m].blocks[b].ins.length = y.ins.length := by subst hq; rw [hy]
   rw [hy] at hil
   refine Qf ?_
   try simp only [go_sem]
   refine Qc9 (fun e2 H2 => Kn H H2 [] [(x3, .st [.sl false 3 (Qm cs)])] ∧ lk 3 e2 = .c (.ptr x3 0) ∧ lk 4 e2 = .c (.int .i64 m) ∧ lk 5 e2 = .c (.sl false 1 (Q1 Ls)) ∧ lk 6 e2 = .c (.sl false 1 (Q1 Ls)) ∧ lk 38 e2 = .c (.int .i64 Ls.length) ∧ lk 39 e2 = .c (.int .i64 b)) ?_ ?_
   ·intro Q hnr _ _
    refine Qc ?_
    refine Qa ?_
    simp only [go_sem]
    refine Q2 ?_
    refine Qar ?_
    simp only [go_sem, hbL, Qa7, Qcy _ _ hbL]
    refine Qayj (ns := Ls[b].map Int.ofNat) (ms := Ls[b].map Int.ofNat) (.mk' _ _ _ _) rfl (.mk' _ _ _ _) rfl ?_
    simp only [go_sem, Qhw, decide_true]
    refine Qg (Qd rfl (fun h => by simp at h) (fun _ => ?_))
    refine Qf ?_
    try simp only [go_sem]
    have hx3 := kn.l 0 rfl
    refine Qa ?_
    simp only [go_sem, hx3, hm, Qr, Qy _ _ hm, CodeD.cells, hq, hlt, Qk, Q3 _ _ hlt, BlkD.cells, hy]
    intro x8 hx8 H7 h7
    have kn := kn.al hx8 h7
    have hx8 := kn.l 1 rfl
    simp only [go_sem, Qhx, hx8]
    intro H8 h8
    have kn : Kn H H8 [] [(x3, .st [.sl false 3 (Qm cs)]), (x8, Q01 y)] := kn.stL 1 rfl h8
    have hx8 : H8 x8 = .st [.sl false 2 (Qbi y.phis), .sl false 4 (Qbz y.ins), .int .i64 y.jump, .int .i64 y.on, .sl false 1 (Qh y.next)] := kn.l 1 rfl
    have hx3 := kn.l 0 rfl
    refine Qa ?_
    simp only [go_sem, hx3, hx8, Qaf]
    intro _
    refine ⟨Qn (by omega) (by omega), ?_⟩
    refine Qef hfit hg hm hltc (by omega) (by rw [hyc]; omega) fun H9 hu => ?_
    have kn := kn.call0 hu
    have ek : ((y.ins.length : Int) - 1 + 1).toNat = y.ins.length := by omega
    rw [ek, hq]
    obtain ⟨last, hlast⟩ : ∃ last, Qdw q b y.ins.length = last := ⟨_, rfl⟩
    have hlastP : ∀ r ∈ last, r ∈ Ls[b] ∨ (¬ y.jump = 1 ∧ y.on = (r : Int)) := fun r hr => by
     rw [← hlast] at hr
     have := Qa1x hqok hlt (r := r) (by rw [hy]; exact hr)
     rw [hy] at this
     rw [hLb]; exact this
    rw [hlast]
    simp only [go_sem, Qgc]
    refine Q2 ?_
    refine Qa ?_
    simp only [go_sem, Qb8]
    intro hll
    simp only [LIM] at hll
    refine Qg (Qc (Qt (fun m2 e1 H1 => ∃ (j : Nat), m2 = last.length - j ∧ j ≤ last.length ∧ H1 = H9 ∧
     e1 = [(3, .c (.ptr x3 0)), (4, .c (.int .i64 m)), (5, .c (.sl false 1 (Q1 Ls))), (6, .c (.sl false 1 (Q1 Ls))), (7, .c (.int .i64 b)), (8, .c (.ptr x8 0)), (38, .c (.int .i64 Ls.length)), (39, .c (.int .i64 b)), (69, .c (.sl false 1 (Qa0 last))), (70, .c (.int .i64 last.length)), (71, .c (.int .i64 j))]) last.length ?_ ?_))
    ·exact ⟨0, by omega, by omega, rfl, rfl⟩
    ·rintro m2 e1 H10 ⟨j, hm2, hj, rfl, rfl⟩
     have hx8 : H10 x8 = .st [.sl false 2 (Qbi y.phis), .sl false 4 (Qbz y.ins), .int .i64 y.jump, .int .i64 y.on, .sl false 1 (Qh y.next)] := kn.l 1 rfl
     refine Qa ?_
     simp only [go_sem]
     refine Qg (Qd rfl ?_ ?_)
     ·intro hc3
      have hjl : j < last.length := by simpa using hc3
      obtain ⟨r, hr⟩ : ∃ r, last.getD j 0 = r := ⟨_, rfl⟩
      have hrm : r ∈ last := by rw [← hr, List.getD_eq_getElem?_getD, List.getElem?_eq_getElem hjl]; exact List.getElem_mem hjl
      refine Qf ?_
      try simp only [go_sem]
      refine Qc9 (fun e2 H2 => H2 = H10 ∧ lk 3 e2 = .c (.ptr x3 0) ∧ lk 4 e2 = .c (.int .i64 m) ∧ lk 5 e2 = .c (.sl false 1 (Q1 Ls)) ∧ lk 6 e2 = .c (.sl false 1 (Q1 Ls)) ∧ lk 7 e2 = .c (.int .i64 b) ∧ lk 8 e2 = .c (.ptr x8 0) ∧ lk 38 e2 = .c (.int .i64 Ls.length) ∧ lk 39 e2 = .c (.int .i64 b) ∧
       lk 69 e2 = .c (.sl false 1 (Qa0 last)) ∧ lk 70 e2 = .c (.int .i64 last.length) ∧ lk 71 e2 = .c (.int .i64 j)) ?_ ?_
      ·intro Q hnr _ _
       refine Qc ?_
       refine Qa ?_
       simp only [go_sem, hjl, Qb8, Qte _ _ hjl, hr]
       refine Qa ?_
       simp only [go_sem, hbL, Qa7, Qcy _ _ hbL]
       refine Q0x (ns := Ls[b].map Int.ofNat) (.mk' _ _ _ _) rfl ?_
       rw [Quu]
       rcases hlastP r hrm with h1 | ⟨h1, h2⟩
       ·rw [decide_eq_true h1]
        simp only [go_sem, Qb1, hx8]
        refine Qd rfl (fun h => by simp at h) (fun _ => ?_)
        refine Qf ?_
        try simp only [go_sem]
        exact hnr _ _ ⟨rfl, rfl, rfl, rfl, rfl, rfl, rfl, rfl, rfl, rfl, rfl, rfl⟩
       ·cases decide (r ∈ Ls[b]) with
        | true =>
         simp only [go_sem, Qb1, hx8]
         refine Qd rfl (fun h => by simp at h) (fun _ => ?_)
         refine Qf ?_
         try simp only [go_sem]
         exact hnr _ _ ⟨rfl, rfl, rfl, rfl, rfl, rfl, rfl, rfl, rfl, rfl, rfl, rfl⟩
        | false =>
         simp only [go_sem, Qb1, hx8, h1, h2, not_false_eq_true, decide_true]
         refine Qd rfl (fun h => by simp at h) (fun _ => ?_)
         refine Qf ?_
         try simp only [go_sem]
         exact hnr _ _ ⟨rfl, rfl, rfl, rfl, rfl, rfl, rfl, rfl, rfl, rfl, rfl, rfl⟩
      ·rintro e2 H11 ⟨rfl, l3, l4, l5, l6, l7, l8, l38, l39, l69, l70, l71⟩
       refine Qp ?_
       simp only [go_sem, X.next, l3, l4, l5, l6, l7, l8, l38, l39, l69, l70, l71]
       exact ⟨Qn (by omega) (by omega), last.length - (j + 1), by omega, j + 1, rfl, by omega, by trivial⟩
     ·intro hc3
      refine Qs ?_
      simp only [go_sem, X.next]
      refine Qa ?_
      simp only [go_sem, hx8, Qaf]
      intro _
      have kn := kn.drop (A := [_])
      refine Qc (Qt (fun m3 e1 H1 => ∃ (i : Nat), m3 = y.ins.length - i ∧ i ≤ y.ins.length ∧ Kn H H1 [] [(x3, .st [.sl false 3 (Qm cs)])] ∧
       e1 = [(3, .c (.ptr x3 0)), (4, .c (.int .i64 m)), (5, .c (.sl false 1 (Q1 Ls))), (6, .c (.sl false 1 (Q1 Ls))), (7, .c (.int .i64 b)), (38, .c (.int .i64 Ls.length)), (39, .c (.int .i64 b)), (96, .c (.sl false 4 (Qbz y.ins))), (97, .c (.int .i64 y.ins.length)), (98, .c (.int .i64 i))]) y.ins.length ?_ ?_)
      ·exact ⟨0, by omega, by omega, kn, rfl⟩
      ·clear kn hx8 hx3
       rintro m3 e1 H11 ⟨i, hm3, hi, kn, rfl⟩
       refine Qa ?_
       simp only [go_sem]
       refine Qg (Qd rfl ?_ ?_)
       ·intro hc4
        have hlti : i < y.ins.length := by simpa using hc4
        obtain ⟨x, hx⟩ : ∃ x, y.ins[i] = x := ⟨_, rfl⟩
        have hxm : x ∈ y.ins := by rw [← hx]; exact List.getElem_mem hlti
        refine Qf ?_
        try simp only [go_sem]
        refine Qc9 (fun e2 H2 => Kn H H2 [] [(x3, .st [.sl false 3 (Qm cs)])] ∧ lk 3 e2 = .c (.ptr x3 0) ∧ lk 4 e2 = .c (.int .i64 m) ∧ lk 5 e2 = .c (.sl false 1 (Q1 Ls)) ∧ lk 6 e2 = .c (.sl false 1 (Q1 Ls)) ∧ lk 7 e2 = .c (.int .i64 b) ∧ lk 38 e2 = .c (.int .i64 Ls.length) ∧ lk 39 e2 = .c (.int .i64 b) ∧
         lk 96 e2 = .c (.sl false 4 (Qbz y.ins)) ∧ lk 97 e2 = .c (.int .i64 y.ins.length) ∧ lk 98 e2 = .c (.int .i64 i)) ?_ ?_
        ·intro Q hnr _ _
         refine Qc ?_
         refine Qa ?_
         simp only [go_sem, hlti, Qaf, Qcg _ _ hlti, InsD.take4, InsD.allOw, InsD.len4, hx, InsD.cells]
         intro x13 hx13 H12 h12
         have kn := kn.al hx13 h12
         have hx13 := kn.l 1 rfl
         simp only [go_sem, Qgd, hx13]
         intro H13 h13
         have kn : Kn H H13 [] ([(x3, .st [.sl false 3 (Qm cs)])] ++ [(x13, .st x.cells)]) := kn.stL 1 rfl h13
         have hx3 := kn.l 0 rfl
         refine Qar ?_
         simp only [go_sem, hx3]
         refine ⟨Qn (by omega) (by omega), ?_⟩
         refine Qef hfit hg hm hltc (by omega) (by rw [hyc]; omega) fun H14 hu => ?_
         have kn := kn.call0 hu
         have hx3 := kn.l 0 rfl
         have e1 : ((i : Int) - 1 + 1).toNat = i := by omega
         rw [e1]
         simp only [go_sem, Qgf, hx3]
         refine Qef hfit hg hm hltc (by omega) (by rw [hyc]; omega) fun H15 hu => ?_
         have kn := kn.call0 hu
         have hx3 := kn.l 0 rfl
         have e2 : ((i : Int) + 1).toNat = i + 1 := by omega
         rw [e2, hq]
         simp only [go_sem, Qge]
         have hstep := fun (r : Nat) (hr : r < q.regs.toNat) => Qa1z hqok hlt (i := i) (by rw [hy]; exact hlti) hr
         simp only [hy, hx] at hstep
         refine Qa ?_
         simp only [go_sem, hx3, hm, Qr, Qy _ _ hm, CodeD.cells, hq]
         refine Qc (Qt (fun m4 e1 H1 => ∃ (r : Nat), m4 = q.regs.toNat - r ∧ r ≤ q.regs.toNat ∧ Kn H H1 [] ([(x3, .st [.sl false 3 (Qm cs)])] ++ [(x13, .st x.cells)]) ∧
          e1 = [(3, .c (.ptr x3 0)), (4, .c (.int .i64 m)), (5, .c (.sl false 1 (Q1 Ls))), (6, .c (.sl false 1 (Q1 Ls))), (7, .c (.int .i64 b)), (13, .c (.ptr x13 0)), (14, .c (.sl false 1 (Qa0 (Qdw q b i)))), (15, .c (.sl false 1 (Qa0 (Qdw q b (i + 1))))), (38, .c (.int .i64 Ls.length)), (39, .c (.int .i64 b)),
           (96, .c (.sl false 4 (Qbz y.ins))), (97, .c (.int .i64 y.ins.length)), (98, .c (.int .i64 i)), (119, .c (.int .i64 q.regs)), (120, .c (.int .i64 r))]) q.regs.toNat ?_ ?_)
         ·exact ⟨0, by omega, by omega, kn, rfl⟩
         ·clear kn hx3
          rintro m4 e1 H16 ⟨r, hm4, hr, kn, rfl⟩
          have hx13 : H16 x13 = .st [.int .i64 x.op, .int .i64 x.to, .sl false 1 (Qh x.args), .int .i64 x.n] := kn.l 1 rfl
          refine Qa ?_
          simp only [go_sem]
          refine Qg (Qd rfl ?_ ?_)
          ·intro hc5
           have hrl : r < q.regs.toNat := by have : (r : Int) < q.regs := (by simpa using hc5); omega
           have hst := hstep r hrl
           refine Qf ?_
           try simp only [go_sem]
           refine Qc9 (fun e2 H2 => Kn H H2 [] ([(x3, .st [.sl false 3 (Qm cs)])] ++ [(x13, .st x.cells)]) ∧ lk 3 e2 = .c (.ptr x3 0) ∧ lk 4 e2 = .c (.int .i64 m) ∧ lk 5 e2 = .c (.sl false 1 (Q1 Ls)) ∧ lk 6 e2 = .c (.sl false 1 (Q1 Ls)) ∧ lk 7 e2 = .c (.int .i64 b) ∧ lk 13 e2 = .c (.ptr x13 0) ∧ lk 14 e2 = .c (.sl false 1 (Qa0 (Qdw q b i))) ∧
            lk 15 e2 = .c (.sl false 1 (Qa0 (Qdw q b (i + 1)))) ∧ lk 38 e2 = .c (.int .i64 Ls.length) ∧ lk 39 e2 = .c (.int .i64 b) ∧ lk 96 e2 = .c (.sl false 4 (Qbz y.ins)) ∧ lk 97 e2 = .c (.int .i64 y.ins.length) ∧ lk 98 e2 = .c (.int .i64 i) ∧ lk 119 e2 = .c (.int .i64 q.regs) ∧ lk 120 e2 = .c (.int .i64 r)) ?_ ?_
           ·intro Q hnr _ _
            refine Qc ?_
            refine Qa ?_
            simp only [go_sem]
            refine Qa ?_
            simp only [go_sem, hx13]
            refine Qa5t (x := x) (by have := hyo.al x hxm; omega) fun ns H17 hu hns => ?_
            have kn := kn.call0 hu
            have hx13 : H17 x13 = .st [.int .i64 x.op, .int .i64 x.to, .sl false 1 (Qh x.args), .int .i64 x.n] := kn.l 1 rfl
            simp only [go_sem, Qgg]
            refine Q0x (.mk' _ _ _ _) rfl ?_
            rw [Qa58 hyo hxm hns]
            have fin : ∀ (E1 : Env) (due : Bool), decide (r ∈ Qdw q b i) = due → lk 3 E1 = .c (.ptr x3 0) → lk 4 E1 = .c (.int .i64 m) → lk 5 E1 = .c (.sl false 1 (Q1 Ls)) → lk 6 E1 = .c (.sl false 1 (Q1 Ls)) → lk 7 E1 = .c (.int .i64 b) → lk 13 E1 = .c (.ptr x13 0) → lk 14 E1 = .c (.sl false 1 (Qa0 (Qdw q b i))) →
              lk 15 E1 = .c (.sl false 1 (Qa0 (Qdw q b (i + 1)))) → lk 16 E1 = .c (.int .i64 r) → lk 17 E1 = .c (.bool due) → lk 38 E1 = .c (.int .i64 Ls.length) → lk 39 E1 = .c (.int .i64 b) → lk 96 E1 = .c (.sl false 4 (Qbz y.ins)) → lk 97 E1 = .c (.int .i64 y.ins.length) → lk 98 E1 = .c (.int .i64 i) → lk 119 E1 = .c (.int .i64 q.regs) → lk 120 E1 = .c (.int .i64 r) →
              Qae prog Qhq (X.inBlock 7 Q) E1 H17 := by
             intro E1 due hdue l3 l4 l5 l6 l7 l13 l14 l15 l16 l17 l38 l39 l96 l97 l98 l119 l120
             refine Qa ?_
             simp only [go_sem, l3, l4, l5, l6, l7, l13, l14, l15, l16, l17, l38, l39, l96, l97, l98, l119, l120]
             refine Q0x (ns := (Qdw q b i).map Int.ofNat) (.mk' _ _ _ _) rfl ?_
             rw [Quu, hdue]
             have hne : ∀ d : Bool, (d != d) = false := by decide
             cases due <;>
             ·simp only [go_sem, Qgh, l3, l4, l5, l6, l7, l13, l14, l15, l16, l17, l38, l39, l96, l97, l98, l119, l120]
              refine Qd rfl (fun h => by simp at h) (fun _ => ?_)
              refine Qf ?_
              try simp only [go_sem]
              exact hnr _ _ ⟨kn, rfl, rfl, rfl, rfl, rfl, rfl, rfl, rfl, rfl, rfl, rfl, rfl, rfl, rfl, rfl⟩
            cases hu1 : decide (r ∈ toN x.args) with
            | true =>
             rw [hu1] at hst
             simp only [go_sem, Qcz, Qb3, Qb2]
             exact fin _ true (by rw [hst]; rfl) rfl rfl rfl rfl rfl rfl rfl rfl rfl rfl rfl rfl rfl rfl rfl rfl rfl
            | false =>
             rw [hu1] at hst
             simp only [go_sem, Qcz]
             refine Q0x (ns := (Qdw q b (i + 1)).map Int.ofNat) (.mk' _ _ _ _) rfl ?_
             rw [Quu]
             cases hu2 : decide (r ∈ Qdw q b (i + 1)) with
             | true =>
              rw [hu2] at hst
              simp only [go_sem, Qb3, hx13]
              refine Qahq (x := x) ?_
              simp only [go_sem, Qb2]
              exact fin _ (!decide (Qnj x = (r : Int))) (by rw [hst, Bool.false_or, Bool.true_and, ← Qbao hyo hxm r, decide_not]) rfl rfl rfl rfl rfl rfl rfl rfl rfl rfl rfl rfl rfl rfl rfl rfl rfl
             | false =>
              rw [hu2] at hst
              simp only [go_sem, Qb3, Qb2]
              exact fin _ false (by rw [hst]; rfl) rfl rfl rfl rfl rfl rfl rfl rfl rfl rfl rfl rfl rfl rfl rfl rfl rfl
           ·rintro e2 H17 ⟨kn, l3, l4, l5, l6, l7, l13, l14, l15, l38, l39, l96, l97, l98, l119, l120⟩
            refine Qp ?_
            simp only [go_sem, X.next, l3, l4, l5, l6, l7, l13, l14, l15, l38, l39, l96, l97, l98, l119, l120]
            exact ⟨Qn (by omega) (by omega), q.regs.toNat - (r + 1), by omega, r + 1, rfl, by omega, kn, by trivial⟩
          ·intro hc5
           refine Qs ?_
           simp only [go_sem, X.next]
           exact hnr _ _ ⟨kn.drop, rfl, rfl, rfl, rfl, rfl, rfl, rfl, rfl, rfl, rfl⟩
        ·rintro e2 H12 ⟨kn, l3, l4, l5, l6, l7, l38, l39, l96, l97, l98⟩
         refine Qp ?_
         simp only [go_sem, X.next, l3, l4, l5, l6, l7, l38, l39, l96, l97, l98]
         exact ⟨Qn (by omega) (by omega), y.ins.length - (i + 1), by omega, i + 1, rfl, by omega, kn, by trivial⟩
       ·intro hc4
        refine Qs ?_
        simp only [go_sem, X.next]
        exact hnr _ _ ⟨kn, rfl, rfl, rfl, rfl, rfl, rfl⟩
   ·rintro e2 H7 ⟨kn, l3, l4, l5, l6, l38, l39⟩
    refine Qp ?_
    simp only [go_sem, X.next, l3, l4, l5, l6, l38, l39]
    exact ⟨Qn (by omega) (by omega), Ls.length - (b + 1), by omega, b + 1, rfl, by omega, kn, rfl⟩
  ·intro hc2
   refine Qs ?_
   simp only [go_sem, X.next]
   refine Qa ?_
   simp only [go_sem]
   refine Qj ?_
   exact retT' _ _ rfl
end Go.AE.Y

namespace Go.AE.Y
attribute [local go_sem] cond_true cond_false Bool.not_true Bool.not_false
open Go.Proofs.Tryz
variable {H H0 : Heap} {K : V → Heap → Prop} {E B Lg : List (Nat × Obj)}
attribute [local instance] Classical.propDecidable
theorem Qaip {fl : Bool} {bs : List UInt8} (hK : ∀ (cs : List CodeD) (n : Int) H', Upd H H' [] → UnitOk cs → -1 ≤ n → n ≤ 4 → K (.tup [.ag [.sl false 3 (Qm cs)], .c (.int .i64 n)]) H') :
  Qo prog Qd1 [.c (.sl fl 1 (Qba bs))] H K := by
 refine Q0 ?_
 refine Qb Qas Q3i ?_
 refine Qa ?_
 simp only [go_sem]
 intro x2 hx2 H1 h1
 have kn := (Kn.start0 H).al hx2 h1
 simp only [go_sem, Qgm]
 refine Qa ?_
 simp only [go_sem]
 refine Q60 fun R H2 hR h2 => ?_
 have kn := kn.al hR h2 (R.o_ne 0)
 simp only [go_sem, Qgp]
 refine Q6y (kn.l 1 rfl) (by omega) fun cs n H3 k2 hk3 hk4 hu hok hn1 hn2 => ?_
 have kn := kn.callL 1 rfl hu (R.o_ne _)
 have hx2 := kn.l 0 rfl
 simp only [go_sem, Qgo, List.getD_cons_zero, List.getD_cons_succ, hx2]
 intro H4 h4
 have kn := kn.stL 0 rfl h4
 have hx2 := kn.l 0 rfl
 simp only [go_sem, Qgn]
 refine Qj ?_
 simp only [go_sem, Qz, Q9, Qlv, List.forall_mem_cons, List.not_mem_nil, RS.op, hx2]
 exact ⟨fun _ => trivial, _, Qai2 (Q53 cs) (.c _ _ (Qi rfl)), hK cs n _ kn.fin hok hn1 hn2⟩
theorem Qays {cs : List CodeD} {n : Int} : (Qbp cs n Qeu).length = (Qbp cs n Quw).length := by
 rw [Qbp, Qbp]
 split
 ·cases cs[n.toNat]? <;> simp [Qeu, Quw]
 ·rfl
set_option maxHeartbeats 8000000 in
theorem FnLiveIns_c {bs : List UInt8} (hK : ∀ H', K (.c (.bool true)) H') : Qo prog Qop [.c (.sl false 1 (Qba bs))] H K := by
 refine Qb Qas Qadw ?_
 have retT' : ∀ (e : Env) (H' : Heap), lk 2 e = .c (.bool true) → Qz Qij K .ret e H' := by
  intro e H' h2
  simp only [go_sem, Qz, Q9, Qij, List.mem_singleton, forall_eq, RS.op, h2]
  exact hK H'
 refine Qa ?_
 simp only [go_sem]
 refine Q2 ?_
 refine Qa ?_
 simp only [go_sem, Qak]
 intro _
 refine Qg (Qd rfl (fun hc => ?_) (fun hc => ?_))
 ·refine Qa ?_
  simp only [go_sem]
  refine Qj ?_
  exact retT' _ _ rfl
 refine Qf ?_
 try simp only [go_sem]
 refine Qa ?_
 simp only [go_sem]
 refine Qaip fun cs n H1 hu hok hn1 hn2 => ?_
 have hfit := hok.fits
 have kn := (Kn.start0 H).call0 hu
 simp only [go_sem, Qj2, List.getD_cons_zero, List.getD_cons_succ]
 intro x3 hx3 H2 h2
 have kn := kn.al hx3 h2
 have hx3 := kn.l 0 rfl
 simp only [go_sem, Qj1, hx3]
 intro H3 h3
 have kn : Kn H H3 [] [(x3, .st [.sl false 3 (Qm cs)])] := kn.stL 0 rfl h3
 have hx3 := kn.l 0 rfl
 simp only [go_sem, Qj0]
 refine Qar ?_
 simp only [go_sem, hx3]
 refine Qarj hfit fun H4 hu => ?_
 have kn := kn.call0 hu
 have hx3 := kn.l 0 rfl
 simp only [go_sem, Qj4, hx3]
 refine Q05 hfit fun H5 hu => ?_
 have kn := kn.call0 hu
 have hx3 := kn.l 0 rfl
 simp only [go_sem, Qj3]
 refine Qa ?_
 simp only [go_sem, hx3]
 refine Qaxc hfit fun H6 hu => ?_
 have kn := kn.call0 hu
 have hx3 := kn.l 0 rfl
 simp only [go_sem, Qj5]
 have hlen := Qays (cs := cs) (n := n)
 obtain ⟨Li, hLi⟩ : ∃ Li, Qbp cs n Quw = Li := ⟨_, rfl⟩
 obtain ⟨Lo, hLo⟩ : ∃ Lo, Qbp cs n Qeu = Lo := ⟨_, rfl⟩
 rw [hLi, hLo] at hlen
 rw [hLi, hLo]
 refine Q2 ?_
 refine Qa ?_
 simp only [go_sem, Qa7, hlen, not_true_eq_false, decide_false]
 intro hlim
 simp only [LIM] at hlim
 try intro _
 refine Qg (Qd rfl (fun h => by simp at h) (fun _ => ?_))
 refine Qf ?_
 try simp only [go_sem]
 refine Q2 ?_
 refine Qa ?_
 simp only [go_sem, Qa7]
 intro _
 refine Qg (Qc (Qt (fun mm e1 H1 => ∃ (b : Nat), mm = Li.length - b ∧ b ≤ Li.length ∧ Kn H H1 [] [(x3, .st [.sl false 3 (Qm cs)])] ∧
  e1 = [(3, .c (.ptr x3 0)), (4, .c (.int .i64 n)), (5, .c (.sl false 1 (Q1 Li))), (6, .c (.sl false 1 (Q1 Lo))), (7, .c (.sl false 1 (Q1 Li))), (53, .c (.int .i64 Li.length)), (54, .c (.int .i64 b))]) Li.length ?_ ?_))
 ·exact ⟨0, by omega, by omega, kn, rfl⟩
 ·clear kn hx3
  rintro mm e1 H7 ⟨b, hmm, hb, kn, rfl⟩
  refine Qa ?_
  simp only [go_sem]
  refine Qg (Qd rfl ?_ ?_)
  ·intro hc2
   have hbL : b < Li.length := by simpa using hc2
   have hbO : b < Lo.length := by omega
   have hhas := Qahi (cs := cs) (n := n) (f := Quw) (b := b) (by rw [hLi]; exact hbL)
   obtain ⟨m, hm, rfl, hqok⟩ := Qdj hhas
   have hcodeI : Li = Quw cs[m] := by rw [← hLi, Qbp, if_pos hhas]; simp [hm]
   have hcodeO : Lo = Qeu cs[m] := by rw [← hLo, Qbp, if_pos hhas]; simp [hm]
   obtain ⟨q, hq⟩ : ∃ q, cs[m] = q := ⟨_, rfl⟩
   rw [hq] at hqok hcodeI hcodeO
   have hLl : Li.length = q.blocks.length := by rw [hcodeI]; simp [Quw]
   have hlt : b < q.blocks.length := by omega
   have hLIget : ∀ (d : Nat) (hd : d < Li.length), Li[d] = Q00 q.regs.toNat ((Qu q).LI d) := fun d hd => by subst hcodeI; simp [Quw]
   have hLOget : Lo[b] = Q00 q.regs.toNat ((Qu q).LO b) := by subst hcodeO; simp [Qeu]
   have hr1 := hqok.r1
   have hr0 := hqok.r0
   have hb1 := hqok.b1
   have hbd := hqok.bdF
   have hff := hqok.fitsF
   obtain ⟨y, hy⟩ : ∃ y, q.blocks[b] = y := ⟨_, rfl⟩
   have hyo : y.ok q b := by rw [← hy]; exact hqok.bs b hlt
   have hnl := hyo.nxl
   have hnx : (Qu q).nx b = y.next.map Int.toNat := by rw [← hy, ← Q04 hlt]; rfl
   have hnext : ∀ v ∈ y.next, ∃ d : Nat, v = (d : Int) ∧ d < q.blocks.length ∧ d ∈ (Qu q).nx b ∧ (d : Int) ∈ gnx q b := fun v hv => by
    have := hyo.nx v hv
    refine ⟨v.toNat, by omega, by omega, ?_, ?_⟩
    ·rw [hnx]; exact List.mem_map.2 ⟨v, hv, rfl⟩
    ·rw [Q04 hlt, hy]
     have : ((v.toNat : Nat) : Int) = v := by omega
     rw [this]; exact hv
   refine Qf ?_
   try simp only [go_sem]
   refine Qc9 (fun e2 H2 => Kn H H2 [] [(x3, .st [.sl false 3 (Qm cs)])] ∧ lk 3 e2 = .c (.ptr x3 0) ∧ lk 4 e2 = .c (.int .i64 m) ∧ lk 5 e2 = .c (.sl false 1 (Q1 Li)) ∧ lk 6 e2 = .c (.sl false 1 (Q1 Lo)) ∧ lk 7 e2 = .c (.sl false 1 (Q1 Li)) ∧ lk 53 e2 = .c (.int .i64 Li.length) ∧ lk 54 e2 = .c (.int .i64 b)) ?_ ?_
   ·intro Q hnr _ _
    refine Qc ?_
    refine Qa ?_
    simp only [go_sem]
    refine Q2 ?_
    refine Qar ?_
    simp only [go_sem, hbL, Qa7, Qcy _ _ hbL]
    refine Qayj (ns := Li[b].map Int.ofNat) (ms := Li[b].map Int.ofNat) (.mk' _ _ _ _) rfl (.mk' _ _ _ _) rfl ?_
    simp only [go_sem, Qj6, decide_true]
    refine Qg (Qd rfl (fun h => by simp at h) (fun _ => ?_))
    refine Qf ?_
    try simp only [go_sem]
    have hx3 := kn.l 0 rfl
    refine Qa ?_
    simp only [go_sem, hx3, hm, Qr, Qy _ _ hm, CodeD.cells, hq]
    intro x9 hx9 H8 h8
    have kn := kn.al hx9 h8
    have hx9 := kn.l 1 rfl
    simp only [go_sem, Qhm, hx9]
    intro H9 h9
    have kn : Kn H H9 [] [(x3, .st [.sl false 3 (Qm cs)]), (x9, .st [.int .i64 q.params, .int .i64 q.regs, .sl false 5 (Qq q.blocks)])] := kn.stL 1 rfl h9
    have hx9 := kn.l 1 rfl
    refine Q2 ?_
    refine Qa ?_
    simp only [go_sem, hx9, hlt, Qk, Q3 _ _ hlt, BlkD.cells, hy, Qe]
    intro _
    refine Qg (Qc (Qt (fun m2 e1 H1 => ∃ (i : Nat), m2 = y.next.length - i ∧ i ≤ y.next.length ∧ H1 = H9 ∧
     e1 = [(3, .c (.ptr x3 0)), (4, .c (.int .i64 m)), (5, .c (.sl false 1 (Q1 Li))), (6, .c (.sl false 1 (Q1 Lo))), (7, .c (.sl false 1 (Q1 Li))), (8, .c (.int .i64 b)), (9, .c (.ptr x9 0)), (53, .c (.int .i64 Li.length)), (54, .c (.int .i64 b)), (77, .c (.sl false 1 (Qh y.next))), (78, .c (.int .i64 y.next.length)), (79, .c (.int .i64 i))]) y.next.length ?_ ?_))
    ·exact ⟨0, by omega, by omega, rfl, rfl⟩
    ·rintro m2 e1 H10 ⟨i, hm2, hi, rfl, rfl⟩
     refine Qa ?_
     simp only [go_sem]
     refine Qg (Qd rfl ?_ ?_)
     ·intro hc3
      have hil : i < y.next.length := by simpa using hc3
      obtain ⟨d, hd, hdb, hdF, hdx⟩ := hnext _ (Qen hil)
      have hdL : d < Li.length := by omega
      obtain ⟨ld, hld⟩ : ∃ ld, Li[d] = ld := ⟨_, rfl⟩
      have hsub : ∀ r ∈ ld, r ∈ Lo[b] := fun r hr => by
       rw [← hld, hLIget d hdL, ascL_mem] at hr
       rw [hLOget, ascL_mem]
       exact ⟨hr.1, d, hdF, .inl hr.2⟩
      refine Qf ?_
      try simp only [go_sem]
      refine Qc9 (fun e2 H2 => H2 = H10 ∧ lk 3 e2 = .c (.ptr x3 0) ∧ lk 4 e2 = .c (.int .i64 m) ∧ lk 5 e2 = .c (.sl false 1 (Q1 Li)) ∧ lk 6 e2 = .c (.sl false 1 (Q1 Lo)) ∧ lk 7 e2 = .c (.sl false 1 (Q1 Li)) ∧ lk 8 e2 = .c (.int .i64 b) ∧ lk 9 e2 = .c (.ptr x9 0) ∧ lk 53 e2 = .c (.int .i64 Li.length) ∧ lk 54 e2 = .c (.int .i64 b) ∧
       lk 77 e2 = .c (.sl false 1 (Qh y.next)) ∧ lk 78 e2 = .c (.int .i64 y.next.length) ∧ lk 79 e2 = .c (.int .i64 i)) ?_ ?_
      ·intro Q hnr _ _
       refine Qc ?_
       refine Qa ?_
       simp only [go_sem, hil, Qe, Qx _ _ hil, hd]
       refine Qa ?_
       simp only [go_sem, hdL, Qa7, Qcy _ _ hdL, hld, Qb8]
       intro hll
       simp only [LIM] at hll
       refine Qc (Qt (fun m3 e1 H1 => ∃ (j : Nat), m3 = ld.length - j ∧ j ≤ ld.length ∧ H1 = H10 ∧
        e1 = [(3, .c (.ptr x3 0)), (4, .c (.int .i64 m)), (5, .c (.sl false 1 (Q1 Li))), (6, .c (.sl false 1 (Q1 Lo))), (7, .c (.sl false 1 (Q1 Li))), (8, .c (.int .i64 b)), (9, .c (.ptr x9 0)), (53, .c (.int .i64 Li.length)), (54, .c (.int .i64 b)), (77, .c (.sl false 1 (Qh y.next))), (78, .c (.int .i64 y.next.length)), (79, .c (.int .i64 i)), (86, .c (.sl false 1 (Qa0 ld))), (87, .c (.int .i64 ld.length)), (88, .c (.int .i64 j))]) ld.length ?_ ?_)
       ·exact ⟨0, by omega, by omega, rfl, rfl⟩
       ·rintro m3 e1 H11 ⟨j, hm3, hj, rfl, rfl⟩
        refine Qa ?_
        simp only [go_sem]
        refine Qg (Qd rfl ?_ ?_)
        ·intro hc4
         have hjl : j < ld.length := by simpa using hc4
         obtain ⟨r, hr⟩ : ∃ r, ld.getD j 0 = r := ⟨_, rfl⟩
         have hrm : r ∈ ld := by rw [← hr, List.getD_eq_getElem?_getD, List.getElem?_eq_getElem hjl]; exact List.getElem_mem hjl
         refine Qf ?_
         try simp only [go_sem]
         refine Qg (Qc ?_)
         refine Qa ?_
         simp only [go_sem, hjl, Qb8, Qte _ _ hjl, hr]
         refine Qa ?_
         simp only [go_sem, hbO, Qa7, Qcy _ _ hbO]
         refine Q0x (ns := Lo[b].map Int.ofNat) (.mk' _ _ _ _) rfl ?_
         rw [Quu, decide_eq_true (hsub r hrm)]
         simp only [go_sem, Qhn]
         refine Qd rfl (fun h => by simp at h) (fun _ => ?_)
         refine Qf ?_
         try simp only [go_sem]
         refine Qp ?_
         simp only [go_sem, X.next]
         exact ⟨Qn (by omega) (by omega), ld.length - (j + 1), by omega, j + 1, rfl, by omega, by trivial⟩
        ·intro hc4
         refine Qs ?_
         simp only [go_sem, X.next]
         exact hnr _ _ ⟨rfl, rfl, rfl, rfl, rfl, rfl, rfl, rfl, rfl, rfl, rfl, rfl, rfl⟩
      ·rintro e2 H11 ⟨rfl, l3, l4, l5, l6, l7, l8, l9, l53, l54, l77, l78, l79⟩
       refine Qp ?_
       simp only [go_sem, X.next, l3, l4, l5, l6, l7, l8, l9, l53, l54, l77, l78, l79]
       exact ⟨Qn (by omega) (by omega), y.next.length - (i + 1), by omega, i + 1, rfl, by omega, by trivial⟩
     ·intro hc3
      obtain ⟨lo, hlo⟩ : ∃ lo, Lo[b] = lo := ⟨_, rfl⟩
      have hdue : ∀ r ∈ lo, r < q.regs.toNat ∧ ∃ d ∈ (Qu q).nx b, (Qu q).LI d r ∨ r ∈ (Qu q).ea b d := fun r hr => by
       rw [← hlo, hLOget, ascL_mem] at hr; exact hr
      refine Qs ?_
      simp only [go_sem, X.next]
      refine Qa ?_
      simp only [go_sem, hbO, Qa7, Qcy _ _ hbO, hlo, Qb8]
      intro hll
      simp only [LIM] at hll
      refine Qc (Qt (fun m3 e1 H1 => ∃ (j : Nat), m3 = lo.length - j ∧ j ≤ lo.length ∧ Kn H H1 [] [(x3, .st [.sl false 3 (Qm cs)]), (x9, .st [.int .i64 q.params, .int .i64 q.regs, .sl false 5 (Qq q.blocks)])] ∧
       e1 = [(3, .c (.ptr x3 0)), (4, .c (.int .i64 m)), (5, .c (.sl false 1 (Q1 Li))), (6, .c (.sl false 1 (Q1 Lo))), (7, .c (.sl false 1 (Q1 Li))), (8, .c (.int .i64 b)), (9, .c (.ptr x9 0)), (53, .c (.int .i64 Li.length)), (54, .c (.int .i64 b)), (104, .c (.sl false 1 (Qa0 lo))), (105, .c (.int .i64 lo.length)), (106, .c (.int .i64 j))]) lo.length ?_ ?_)
      ·exact ⟨0, by omega, by omega, kn, rfl⟩
      ·clear kn hx9
       rintro m3 e1 H11 ⟨j, hm3, hj, kn, rfl⟩
       refine Qa ?_
       simp only [go_sem]
       refine Qg (Qd rfl ?_ ?_)
       ·intro hc4
        have hjl : j < lo.length := by simpa using hc4
        obtain ⟨r, hr⟩ : ∃ r, lo.getD j 0 = r := ⟨_, rfl⟩
        have hrm : r ∈ lo := by rw [← hr, List.getD_eq_getElem?_getD, List.getElem?_eq_getElem hjl]; exact List.getElem_mem hjl
        obtain ⟨hrR, hrd⟩ := hdue r hrm
        refine Qf ?_
        try simp only [go_sem]
        refine Qc9 (fun e2 H2 => Kn H H2 [] [(x3, .st [.sl false 3 (Qm cs)]), (x9, .st [.int .i64 q.params, .int .i64 q.regs, .sl false 5 (Qq q.blocks)])] ∧ lk 3 e2 = .c (.ptr x3 0) ∧ lk 4 e2 = .c (.int .i64 m) ∧ lk 5 e2 = .c (.sl false 1 (Q1 Li)) ∧ lk 6 e2 = .c (.sl false 1 (Q1 Lo)) ∧ lk 7 e2 = .c (.sl false 1 (Q1 Li)) ∧ lk 8 e2 = .c (.int .i64 b) ∧ lk 9 e2 = .c (.ptr x9 0) ∧ lk 53 e2 = .c (.int .i64 Li.length) ∧ lk 54 e2 = .c (.int .i64 b) ∧
         lk 104 e2 = .c (.sl false 1 (Qa0 lo)) ∧ lk 105 e2 = .c (.int .i64 lo.length) ∧ lk 106 e2 = .c (.int .i64 j)) ?_ ?_
        ·intro Q hnr _ _
         refine Qc ?_
         refine Qa ?_
         simp only [go_sem, hjl, Qb8, Qte _ _ hjl, hr]
         refine Qa ?_
         simp only [go_sem]
         have hx9 := kn.l 1 rfl
         refine Q2 ?_
         refine Qa ?_
         simp only [go_sem, hx9, hlt, Qk, Q3 _ _ hlt, BlkD.cells, hy, Qe]
         intro _
         refine Qg (Qc (Qt (fun m4 e1 H1 => ∃ (i : Nat) (due : Bool), m4 = y.next.length - i ∧ i ≤ y.next.length ∧ ((∃ d ∈ ((Qu q).nx b).take i, (Qu q).LI d r ∨ r ∈ (Qu q).ea b d) → due = true) ∧ Kn H H1 [] [(x3, .st [.sl false 3 (Qm cs)]), (x9, .st [.int .i64 q.params, .int .i64 q.regs, .sl false 5 (Qq q.blocks)])] ∧
          e1 = [(3, .c (.ptr x3 0)), (4, .c (.int .i64 m)), (5, .c (.sl false 1 (Q1 Li))), (6, .c (.sl false 1 (Q1 Lo))), (7, .c (.sl false 1 (Q1 Li))), (8, .c (.int .i64 b)), (9, .c (.ptr x9 0)), (15, .c (.int .i64 r)), (16, .c (.bool due)), (53, .c (.int .i64 Li.length)), (54, .c (.int .i64 b)), (104, .c (.sl false 1 (Qa0 lo))), (105, .c (.int .i64 lo.length)), (106, .c (.int .i64 j)),
           (115, .c (.sl false 1 (Qh y.next))), (116, .c (.int .i64 y.next.length)), (117, .c (.int .i64 i))]) y.next.length ?_ ?_))
         ·exact ⟨0, false, by omega, by omega, by simp, kn, rfl⟩
         ·clear kn hx9
          rintro m4 e1 H12 ⟨i, due, hm4, hi, hdu, kn, rfl⟩
          refine Qa ?_
          simp only [go_sem]
          refine Qg (Qd rfl ?_ ?_)
          ·intro hc5
           have hil : i < y.next.length := by simpa using hc5
           obtain ⟨d, hd, hdb, hdF, hdx⟩ := hnext _ (Qen hil)
           have hdL : d < Li.length := by omega
           have htk : ((Qu q).nx b).take (i + 1) = ((Qu q).nx b).take i ++ [d] := by
            rw [List.take_succ_eq_append_getElem (by rw [hnx, List.length_map]; exact hil)]
            congr 1
            have : y.next[i] = (d : Int) := by rw [← hd]; simp [List.getD_eq_getElem?_getD, hil]
            simp only [hnx, List.getElem_map, this]; rfl
           obtain ⟨ld, hld⟩ : ∃ ld, Li[d] = ld := ⟨_, rfl⟩
           have hldm : (Qu q).LI d r → r ∈ ld := fun h => by
            rw [← hld, hLIget d hdL, ascL_mem]; exact ⟨hrR, h⟩
           obtain ⟨z, hz⟩ : ∃ z, q.blocks[d] = z := ⟨_, rfl⟩
           have hzo : z.ok q d := by rw [← hz]; exact hqok.bs d hdb
           have hea : (Qu q).ea b d = z.phis.map fun p => (p.args.getD ((Qam (gnx q) (d : Int) q.blocks.length).idxOf (b : Int)) 0).toNat := by rw [Q5v hdb, hz]
           have hix := hqok.ix hlt hdx
           have hpl := Qk0 (gnx q) (d : Int) q.blocks.length
           obtain ⟨ps, hps⟩ : ∃ ps, Qam (gnx q) (d : Int) q.blocks.length = ps := ⟨_, rfl⟩
           have hpal := hzo.pal
           rw [hps] at hea hix hpl hpal
           refine Qf ?_
           try simp only [go_sem]
           refine Qc9 (fun e2 H2 => ∃ (due : Bool), ((∃ d ∈ ((Qu q).nx b).take (i + 1), (Qu q).LI d r ∨ r ∈ (Qu q).ea b d) → due = true) ∧ Kn H H2 [] [(x3, .st [.sl false 3 (Qm cs)]), (x9, .st [.int .i64 q.params, .int .i64 q.regs, .sl false 5 (Qq q.blocks)])] ∧
            lk 3 e2 = .c (.ptr x3 0) ∧ lk 4 e2 = .c (.int .i64 m) ∧ lk 5 e2 = .c (.sl false 1 (Q1 Li)) ∧ lk 6 e2 = .c (.sl false 1 (Q1 Lo)) ∧ lk 7 e2 = .c (.sl false 1 (Q1 Li)) ∧ lk 8 e2 = .c (.int .i64 b) ∧ lk 9 e2 = .c (.ptr x9 0) ∧ lk 15 e2 = .c (.int .i64 r) ∧ lk 16 e2 = .c (.bool due) ∧ lk 53 e2 = .c (.int .i64 Li.length) ∧ lk 54 e2 = .c (.int .i64 b) ∧
            lk 104 e2 = .c (.sl false 1 (Qa0 lo)) ∧ lk 105 e2 = .c (.int .i64 lo.length) ∧ lk 106 e2 = .c (.int .i64 j) ∧ lk 115 e2 = .c (.sl false 1 (Qh y.next)) ∧ lk 116 e2 = .c (.int .i64 y.next.length) ∧ lk 117 e2 = .c (.int .i64 i)) ?_ ?_
           ·intro Q hnr _ _
            refine Qc ?_
            refine Qa ?_
            simp only [go_sem, hil, Qe, Qx _ _ hil, hd]
            refine Qc9 (fun e2 H2 => ∃ (due : Bool), H2 = H12 ∧ (((∃ d ∈ ((Qu q).nx b).take i, (Qu q).LI d r ∨ r ∈ (Qu q).ea b d) ∨ (Qu q).LI d r) → due = true) ∧
             lk 3 e2 = .c (.ptr x3 0) ∧ lk 4 e2 = .c (.int .i64 m) ∧ lk 5 e2 = .c (.sl false 1 (Q1 Li)) ∧ lk 6 e2 = .c (.sl false 1 (Q1 Lo)) ∧ lk 7 e2 = .c (.sl false 1 (Q1 Li)) ∧ lk 8 e2 = .c (.int .i64 b) ∧ lk 9 e2 = .c (.ptr x9 0) ∧ lk 15 e2 = .c (.int .i64 r) ∧ lk 16 e2 = .c (.bool due) ∧ lk 18 e2 = .c (.int .i64 d) ∧ lk 53 e2 = .c (.int .i64 Li.length) ∧ lk 54 e2 = .c (.int .i64 b) ∧
             lk 104 e2 = .c (.sl false 1 (Qa0 lo)) ∧ lk 105 e2 = .c (.int .i64 lo.length) ∧ lk 106 e2 = .c (.int .i64 j) ∧ lk 115 e2 = .c (.sl false 1 (Qh y.next)) ∧ lk 116 e2 = .c (.int .i64 y.next.length) ∧ lk 117 e2 = .c (.int .i64 i)) ?_ ?_
            ·intro Q hnr _ _
             cases hdd : due with
             | true =>
              refine Qp ?_
              simp only [go_sem, Qds]
              exact hnr _ _ ⟨true, rfl, fun _ => rfl, rfl, rfl, rfl, rfl, rfl, rfl, rfl, rfl, rfl, rfl, rfl, rfl, rfl, rfl, rfl, rfl, rfl, rfl⟩
             | false =>
              refine Qp ?_
              simp only [go_sem, hdL, Qa7, Qcy _ _ hdL, hld]
              refine Q0x (ns := ld.map Int.ofNat) (.mk' _ _ _ _) rfl ?_
              rw [Quu]
              simp only [go_sem, Qds]
              refine hnr _ _ ⟨_, rfl, fun h => ?_, rfl, rfl, rfl, rfl, rfl, rfl, rfl, rfl, rfl, rfl, rfl, rfl, rfl, rfl, rfl, rfl, rfl, rfl⟩
              rcases h with h | h
              ·have := hdu h; rw [hdd] at this; exact absurd this (by simp)
              ·exact decide_eq_true (hldm h)
            ·rintro e2 H13 ⟨due1, rfl, hdu1, l3, l4, l5, l6, l7, l8, l9, l15, l16, l18, l53, l54, l104, l105, l106, l115, l116, l117⟩
             have hx9 := kn.l 1 rfl
             have hin : (decide (0 ≤ (d : Int)) && decide ((d : Int) ≤ ((Qq q.blocks).length : Int) - 1)) = true := by rw [Qk]; simp; omega
             refine Qa ?_
             simp only [go_sem, hx9, l3, l4, l5, l6, l7, l8, l9, l15, l16, l18, l53, l54, l104, l105, l106, l115, l116, l117]
             refine Q58 (rows := Qq q.blocks) (nx := gnx q) (Qus _ q false) fun flp H14 hu => ?_
             have kn := kn.call0 hu
             rw [Qyg, if_pos hin, Qk, hps]
             simp only [go_sem, Qho, l3, l4, l5, l6, l7, l8, l9, l15, l16, l18, l53, l54, l104, l105, l106, l115, l116, l117, Qe]
             intro _
             obtain ⟨G0, hG0⟩ : ∃ G0 : Prop, ((∃ d ∈ ((Qu q).nx b).take i, (Qu q).LI d r ∨ r ∈ (Qu q).ea b d) ∨ (Qu q).LI d r) = G0 := ⟨_, rfl⟩
             rw [hG0] at hdu1
             refine Qc (Qt (fun m5 e1 H1 => ∃ (i2 : Nat) (due : Bool), m5 = ps.length - i2 ∧ i2 ≤ ps.length ∧ (G0 → due = true) ∧ (∀ k, k < i2 → ps.getD k 0 = (b : Int) → ∀ p ∈ z.phis, p.args.getD k 0 = (r : Int) → due = true) ∧ Kn H H1 [] [(x3, .st [.sl false 3 (Qm cs)]), (x9, .st [.int .i64 q.params, .int .i64 q.regs, .sl false 5 (Qq q.blocks)])] ∧
              e1 = [(3, .c (.ptr x3 0)), (4, .c (.int .i64 m)), (5, .c (.sl false 1 (Q1 Li))), (6, .c (.sl false 1 (Q1 Lo))), (7, .c (.sl false 1 (Q1 Li))), (8, .c (.int .i64 b)), (9, .c (.ptr x9 0)), (15, .c (.int .i64 r)), (16, .c (.bool due)), (18, .c (.int .i64 d)), (53, .c (.int .i64 Li.length)), (54, .c (.int .i64 b)), (104, .c (.sl false 1 (Qa0 lo))), (105, .c (.int .i64 lo.length)), (106, .c (.int .i64 j)),
               (115, .c (.sl false 1 (Qh y.next))), (116, .c (.int .i64 y.next.length)), (117, .c (.int .i64 i)), (132, .c (.sl flp 1 (Qh ps))), (133, .c (.int .i64 ps.length)), (134, .c (.int .i64 i2))]) ps.length ?_ ?_)
             ·exact ⟨0, due1, by omega, by omega, hdu1, fun k hk => by omega, kn, rfl⟩
             ·clear kn hx9 hdu1 hdu
              rintro m5 e1 H15 ⟨i2, due2, hm5, hi2, hg2, hp2, kn, rfl⟩
              refine Qa ?_
              simp only [go_sem]
              refine Qg (Qd rfl ?_ ?_)
              ·intro hc6
               have hl2 : i2 < ps.length := by simpa using hc6
               obtain ⟨pv, hpv⟩ : ∃ pv, ps.getD i2 0 = pv := ⟨_, rfl⟩
               have hx9 := kn.l 1 rfl
               refine Qf ?_
               try simp only [go_sem]
               refine Qc9 (fun e2 H2 => ∃ (due : Bool), (due2 = true → due = true) ∧ (pv = (b : Int) → ∀ p ∈ z.phis, p.args.getD i2 0 = (r : Int) → due = true) ∧ Kn H H2 [] [(x3, .st [.sl false 3 (Qm cs)]), (x9, .st [.int .i64 q.params, .int .i64 q.regs, .sl false 5 (Qq q.blocks)])] ∧
                lk 3 e2 = .c (.ptr x3 0) ∧ lk 4 e2 = .c (.int .i64 m) ∧ lk 5 e2 = .c (.sl false 1 (Q1 Li)) ∧ lk 6 e2 = .c (.sl false 1 (Q1 Lo)) ∧ lk 7 e2 = .c (.sl false 1 (Q1 Li)) ∧ lk 8 e2 = .c (.int .i64 b) ∧ lk 9 e2 = .c (.ptr x9 0) ∧ lk 15 e2 = .c (.int .i64 r) ∧ lk 16 e2 = .c (.bool due) ∧ lk 18 e2 = .c (.int .i64 d) ∧ lk 53 e2 = .c (.int .i64 Li.length) ∧ lk 54 e2 = .c (.int .i64 b) ∧
                lk 104 e2 = .c (.sl false 1 (Qa0 lo)) ∧ lk 105 e2 = .c (.int .i64 lo.length) ∧ lk 106 e2 = .c (.int .i64 j) ∧ lk 115 e2 = .c (.sl false 1 (Qh y.next)) ∧ lk 116 e2 = .c (.int .i64 y.next.length) ∧ lk 117 e2 = .c (.int .i64 i) ∧ lk 132 e2 = .c (.sl flp 1 (Qh ps)) ∧ lk 133 e2 = .c (.int .i64 ps.length) ∧ lk 134 e2 = .c (.int .i64 i2)) ?_ ?_
               ·intro Q hnr _ _
                refine Qc ?_
                refine Qa ?_
                simp only [go_sem, hl2, Qe, Qx _ _ hl2, hpv]
                refine Qa ?_
                simp only [go_sem, hx9, hdb, Qk, Q3 _ _ hdb, BlkD.cells, hz, Qah]
                intro hzl
                simp only [LIM] at hzl
                refine Qc (Qt (fun m6 e1 H1 => ∃ (i3 : Nat) (due : Bool), m6 = z.phis.length - i3 ∧ i3 ≤ z.phis.length ∧ (due2 = true → due = true) ∧ (pv = (b : Int) → ∀ p ∈ z.phis.take i3, p.args.getD i2 0 = (r : Int) → due = true) ∧ Kn H H1 [] [(x3, .st [.sl false 3 (Qm cs)]), (x9, .st [.int .i64 q.params, .int .i64 q.regs, .sl false 5 (Qq q.blocks)])] ∧
                 e1 = [(3, .c (.ptr x3 0)), (4, .c (.int .i64 m)), (5, .c (.sl false 1 (Q1 Li))), (6, .c (.sl false 1 (Q1 Lo))), (7, .c (.sl false 1 (Q1 Li))), (8, .c (.int .i64 b)), (9, .c (.ptr x9 0)), (15, .c (.int .i64 r)), (16, .c (.bool due)), (18, .c (.int .i64 d)), (19, .c (.int .i64 i2)), (20, .c (.int .i64 pv)), (53, .c (.int .i64 Li.length)), (54, .c (.int .i64 b)), (104, .c (.sl false 1 (Qa0 lo))), (105, .c (.int .i64 lo.length)), (106, .c (.int .i64 j)),
                  (115, .c (.sl false 1 (Qh y.next))), (116, .c (.int .i64 y.next.length)), (117, .c (.int .i64 i)), (132, .c (.sl flp 1 (Qh ps))), (133, .c (.int .i64 ps.length)), (134, .c (.int .i64 i2)), (144, .c (.sl false 2 (Qbi z.phis))), (145, .c (.int .i64 z.phis.length)), (146, .c (.int .i64 i3))]) z.phis.length ?_ ?_)
                ·exact ⟨0, due2, by omega, by omega, id, by simp, kn, rfl⟩
                ·clear kn hx9
                 rintro m6 e1 H16 ⟨i3, due3, hm6, hi3, hg3, hp3, kn, rfl⟩
                 refine Qa ?_
                 simp only [go_sem]
                 refine Qg (Qd rfl ?_ ?_)
                 ·intro hc7
                  have hl3 : i3 < z.phis.length := by simpa using hc7
                  obtain ⟨p, hp⟩ : ∃ p, z.phis[i3] = p := ⟨_, rfl⟩
                  have hpm : p ∈ z.phis := by rw [← hp]; exact List.getElem_mem hl3
                  have hal : i2 < p.args.length := by rw [hpal p hpm]; exact hl2
                  have htk3 : z.phis.take (i3 + 1) = z.phis.take i3 ++ [p] := by rw [List.take_succ_eq_append_getElem hl3, hp]
                  refine Qf ?_
                  try simp only [go_sem]
                  refine Qg (Qc ?_)
                  refine Qa ?_
                  simp only [go_sem, hl3, Qah, Qbf _ _ hl3, PhiD.cells, hp]
                  intro x22 hx22 H17 h17
                  have kn := kn.al hx22 h17
                  have hx22 := kn.l 2 rfl
                  simp only [go_sem, Qhp, hx22]
                  intro H18 h18
                  have kn : Kn H H18 [] ([(x3, .st [.sl false 3 (Qm cs)]), (x9, .st [.int .i64 q.params, .int .i64 q.regs, .sl false 5 (Qq q.blocks)])] ++ [(x22, .st [.int .i64 p.to, .sl false 1 (Qh p.args)])]) := kn.stL 2 rfl h18
                  have hx22 := kn.l 2 rfl
                  cases hd3 : due3 with
                  | true =>
                   refine Qp ?_
                   simp only [go_sem, hx22, hal, Qe, Qx _ _ hal]
                   refine Qp ?_
                   simp only [go_sem, X.next]
                   exact ⟨Qn (by omega) (by omega), z.phis.length - (i3 + 1), by omega, i3 + 1, true, rfl, by omega, fun _ => rfl, fun _ _ _ _ => rfl, kn.drop, by trivial⟩
                  | false =>
                   rw [hd3] at hg3 hp3
                   by_cases hpb : pv = (b : Int)
                   ·refine Qp ?_
                    simp only [go_sem, hx22, hal, Qe, Qx _ _ hal, hpb, decide_true]
                    refine Qp ?_
                    simp only [go_sem, X.next]
                    refine ⟨Qn (by omega) (by omega), z.phis.length - (i3 + 1), by omega, i3 + 1, decide (p.args.getD i2 0 = (r : Int)), rfl, by omega, fun h => absurd (hg3 h) (by simp), fun p' hp' he => ?_, kn.drop, by trivial⟩
                    ·rw [htk3] at hp'
                     rcases List.mem_append.1 hp' with h | h
                     ·exact absurd (hp3 hpb p' h he) (by simp)
                     ·simp only [List.mem_singleton] at h
                      subst h; exact decide_eq_true he
                   ·have hpb' : decide (pv = (b : Int)) = false := decide_eq_false hpb
                    refine Qp ?_
                    simp only [go_sem, hx22, hal, Qe, Qx _ _ hal, hpb']
                    refine Qp ?_
                    simp only [go_sem, X.next]
                    exact ⟨Qn (by omega) (by omega), z.phis.length - (i3 + 1), by omega, i3 + 1, false, rfl, by omega, hg3, fun h => absurd h hpb, kn.drop, by trivial⟩
                 ·intro hc7
                  have hge3 : z.phis.length ≤ i3 := by simpa using hc7
                  rw [List.take_of_length_le hge3] at hp3
                  refine Qs ?_
                  simp only [go_sem, X.next]
                  exact hnr _ _ ⟨due3, hg3, hp3, kn, rfl, rfl, rfl, rfl, rfl, rfl, rfl, rfl, rfl, rfl, rfl, rfl, rfl, rfl, rfl, rfl, rfl, rfl, rfl, rfl, rfl⟩
               ·rintro e2 H16 ⟨due3, hg3, hp3, kn, l3, l4, l5, l6, l7, l8, l9, l15, l16, l18, l53, l54, l104, l105, l106, l115, l116, l117, l132, l133, l134⟩
                refine Qp ?_
                simp only [go_sem, X.next, l3, l4, l5, l6, l7, l8, l9, l15, l16, l18, l53, l54, l104, l105, l106, l115, l116, l117, l132, l133, l134]
                refine ⟨Qn (by omega) (by omega), ps.length - (i2 + 1), by omega, i2 + 1, due3, rfl, by omega, fun h => hg3 (hg2 h), fun k hk hpk p hp he => ?_, kn, by trivial⟩
                by_cases hki : k < i2
                ·exact hg3 (hp2 k hki hpk p hp he)
                ·have : k = i2 := by omega
                 subst this
                 exact hp3 (by rw [← hpv]; exact hpk) p hp he
              ·intro hc6
               have hge2 : ps.length ≤ i2 := by simpa using hc6
               refine Qs ?_
               simp only [go_sem, X.next]
               refine hnr _ _ ⟨due2, fun ⟨d', hd', h'⟩ => ?_, kn, rfl, rfl, rfl, rfl, rfl, rfl, rfl, rfl, rfl, rfl, rfl, rfl, rfl, rfl, rfl, rfl, rfl⟩
               rw [htk] at hd'
               rcases List.mem_append.1 hd' with h | h
               ·exact hg2 (by rw [← hG0]; exact .inl ⟨d', h, h'⟩)
               ·simp only [List.mem_singleton] at h
                subst h
                rcases h' with h | h
                ·exact hg2 (by rw [← hG0]; exact .inr h)
                ·rw [hea] at h
                 obtain ⟨p, hp, he⟩ := List.mem_map.1 h
                 have hal : ps.idxOf (b : Int) < p.args.length := by rw [hpal p hp]; exact hix
                 have hnn := (hzo.pargs p hp _ (Qen hal)).1
                 refine hp2 (ps.idxOf (b : Int)) (by omega) ?_ p hp (by omega)
                 rw [List.getD_eq_getElem?_getD, List.getElem?_eq_getElem hix]
                 simp
           ·rintro e2 H13 ⟨due1, hdu1, kn, l3, l4, l5, l6, l7, l8, l9, l15, l16, l53, l54, l104, l105, l106, l115, l116, l117⟩
            refine Qp ?_
            simp only [go_sem, X.next, l3, l4, l5, l6, l7, l8, l9, l15, l16, l53, l54, l104, l105, l106, l115, l116, l117]
            exact ⟨Qn (by omega) (by omega), y.next.length - (i + 1), by omega, i + 1, due1, rfl, by omega, hdu1, kn, by trivial⟩
          ·intro hc5
           have hge : y.next.length ≤ i := by simpa using hc5
           have hdt : due = true := hdu (by rw [List.take_of_length_le (by rw [hnx, List.length_map]; exact hge)]; exact hrd)
           subst hdt
           refine Qs ?_
           simp only [go_sem, X.next]
           refine Qa ?_
           simp only [go_sem]
           refine Qd rfl (fun h => by simp at h) (fun _ => ?_)
           refine Qf ?_
           try simp only [go_sem]
           exact hnr _ _ ⟨kn, rfl, rfl, rfl, rfl, rfl, rfl, rfl, rfl, rfl, rfl, rfl, rfl⟩
        ·rintro e2 H12 ⟨kn, l3, l4, l5, l6, l7, l8, l9, l53, l54, l104, l105, l106⟩
         refine Qp ?_
         simp only [go_sem, X.next, l3, l4, l5, l6, l7, l8, l9, l53, l54, l104, l105, l106]
         exact ⟨Qn (by omega) (by omega), lo.length - (j + 1), by omega, j + 1, rfl, by omega, kn, by trivial⟩
       ·intro hc4
        refine Qs ?_
        simp only [go_sem, X.next]
        exact hnr _ _ ⟨kn.drop (A := [_]), rfl, rfl, rfl, rfl, rfl, rfl, rfl⟩
   ·rintro e2 H8 ⟨kn, l3, l4, l5, l6, l7, l53, l54⟩
    refine Qp ?_
    simp only [go_sem, X.next, l3, l4, l5, l6, l7, l53, l54]
    exact ⟨Qn (by omega) (by omega), Li.length - (b + 1), by omega, b + 1, rfl, by omega, kn, by trivial⟩
  ·intro hc2
   refine Qs ?_
   simp only [go_sem, X.next]
   refine Qa ?_
   simp only [go_sem]
   refine Qj ?_
   exact retT' _ _ rfl
end Go.AE.Y

namespace Go.AE.Y
open Go.ChangeShapes Go.WideShapes Go.ChangeAt Go.RowKit
def Qa85 (w : World) (a : Option Addr) (len cap : Nat) (zs : List Int) : Prop :=
 (a = none ∧ len = 0 ∧ cap = 0 ∧ zs = []) ∨
 ∃ x, a = some x ∧ len ≤ cap ∧ zs.length = cap ∧ (∀ i, i < zs.length → w.cell? (x.add i) = some (.int .u8 (zs.getD i 0))) ∧ ∀ n ∈ zs, (Lit.int .u8 n).wf = true
theorem Qa5e (w : World) : Sat (fun _ => .none) ⟨fun b => decide (b < w.heap.size), fun _ => none, fun _ => none⟩ w := by
 refine ⟨fun b hb => ⟨by simp; omega, rfl⟩, ⟨0, fun _ _ => rfl⟩, fun b x h => by simp at h, fun b l p h => by simp at h, fun l => trivial⟩
theorem Qa9h {n : Int} (h : (Lit.int .u8 n).wf = true) : ((UInt8.ofNat n.toNat).toNat : Int) = n := by
 simp only [Lit.wf, Bool.and_eq_true, decide_eq_true_eq] at h
 have a1 : IntKind.min .u8 = 0 := by decide
 have a2 : IntKind.max .u8 = 255 := by decide
 rw [a1, a2] at h
 rw [UInt8.toNat_ofNat']
 omega
theorem calls_of_acall {P : Program} {f : Nat} (h : ∀ bs : List UInt8, bs.length ≤ 1048576 → Qo P f [.c (.sl false 1 (Qba bs))] (fun _ => .none) fun v _ => v = .c (.bool true))
  {a0 : Option Addr} {len0 cap0 : Nat} {z0 : List Int} {w : World} (hr : Qa85 w a0 len0 cap0 z0) (hl : len0 ≤ 1048576) :
  Calls P f #[.slice a0 len0 cap0] w fun e w' => e = .returned (.bool true) ∧ Below w.heap.size w w' := by
 have key : ∃ bs : List UInt8, bs.length = len0 ∧ RepC w ⟨fun b => decide (b < w.heap.size), fun _ => none, fun _ => none⟩ (.sl false 1 (Qba bs)) (.slice a0 len0 cap0) := by
  rcases hr with ⟨rfl, rfl, rfl, rfl⟩ | ⟨x, rfl, hlc, hz, hcell, hwf⟩
  ·exact ⟨[], rfl, .slnil _ _ _⟩
  ·obtain ⟨b, off, spot⟩ := x
   have hbl : ((z0.take len0).map fun n => UInt8.ofNat n.toNat).length = len0 := by simp; omega
   by_cases h0 : cap0 = 0
   ·subst h0
    have : len0 = 0 := by omega
    subst this
    exact ⟨[], rfl, .slnil _ _ _⟩
   have hc0 := hcell 0 (by omega)
   have hspot : spot = none := by simpa [Addr.add] using World.cell?_spot hc0
   subst hspot
   have hadd : ∀ i, (⟨b, off, none⟩ : Addr).add i = ⟨b, off + i, none⟩ := by
    intro i
    by_cases h : i = 0 <;> simp [Addr.add, h]
   have hb : b < w.heap.size := by
    rcases Nat.lt_or_ge b w.heap.size with h | h
    ·exact h
    ·simp [World.cell?, Addr.add, Array.getElem?_eq_none h] at hc0
   refine ⟨_, hbl, ?_⟩
   have hget : ∀ (i : Nat) (row : List C), (Qba ((z0.take len0).map fun n => UInt8.ofNat n.toNat))[i]? = some row → i < len0 ∧ row = [.int .u8 (z0.getD i 0)] := by
    intro i row hi
    have hlt : i < len0 := by
     rcases Nat.lt_or_ge i len0 with h | h
     ·exact h
     ·rw [List.getElem?_eq_none (by rw [Qak]; omega)] at hi; simp at hi
    have hz0 : i < z0.length := by omega
    refine ⟨hlt, ?_⟩
    simp only [Qba, List.getElem?_map, List.getElem?_take, if_pos hlt, List.getElem?_eq_getElem hz0, Option.map_some, Option.some.injEq] at hi
    rw [← hi, Qa9h (hwf _ (List.getElem_mem hz0))]
    simp [List.getD_eq_getElem?_getD, hz0]
   have := RepC.sl (w := w) (g := ⟨fun b => decide (b < w.heap.size), fun _ => none, fun _ => none⟩) false 1 (Qba ((z0.take len0).map fun n => UInt8.ofNat n.toNat)) b off cap0 (fun i _ => .int .u8 (z0.getD i 0))
    (by rw [Qak, hbl]; simp only [LIM]; omega) (by simp) (by rw [Qak, hbl]; exact hlc) (by simpa using hb)
    (fun i row hi => by rw [(hget i row hi).2]; rfl)
    (fun i row j c hi hj => by
     obtain ⟨h1, rfl⟩ := hget i row hi
     have hj0 : j = 0 := by
      rcases Nat.eq_zero_or_pos j with h | h
      ·exact h
      ·rw [List.getElem?_eq_none (by simp; omega)] at hj; simp at hj
     subst hj0
     have := hcell i (by omega)
     rw [hadd] at this
     simpa using this)
    (fun i row j c hi hj => by
     obtain ⟨h1, rfl⟩ := hget i row hi
     have hj0 : j = 0 := by
      rcases Nat.eq_zero_or_pos j with h | h
      ·exact h
      ·rw [List.getElem?_eq_none (by simp; omega)] at hj; simp at hj
     subst hj0
     simp at hj; subst hj
     exact .int _ _)
   rw [Qak, hbl] at this
   exact this
 obtain ⟨bs, hbl, hrep⟩ := key
 have hc := (h bs (by omega)).2 _ w [.slice a0 len0 cap0] (Qa5e w) rfl (fun j x u hj hu => by
  cases j with
  | zero => simp at hj hu; subst hj; subst hu; exact .c _ _ hrep
  | succ j => simp at hj)
 refine hc.mono fun e w' => ?_
 rintro ⟨v, x, H', g', rfl, rfl, hst, hv⟩
 have : v = .bool true := by cases hv with | c _ _ h => cases h; rfl
 subst this
 exact ⟨rfl, hst.le.os, hst.le.tape, hst.le.output, hst.le.size, fun k hk => (hst.le.per k (by simpa using hk)).2⟩
end Go.AE.Y

